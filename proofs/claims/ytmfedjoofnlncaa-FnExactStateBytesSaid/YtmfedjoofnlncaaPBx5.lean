-- Written for this claim by the session's program pp.py, out of the kit's print and the seat's translation.
import Derived.Test.YtmfedjoofnlncaaPBx0
import Derived.Test.YtmfedjoofnlncaaPBx4
namespace Go.Proofs.Ytmfedjoofnlncaa.PB
open Go.RowKit Go.Proofs.YtmfedjoofnlncaaW.PrintWords Go.Proofs.YtmfedjoofnlncaaW.PrintLast Go.Proofs.YtmfedjoofnlncaaW.PrintMore
attribute [local go_sem] max2_int min2_int max_two min_two max_three min_three max_four min_four   -- for this text's walks alone
set_option linter.unusedVariables false
set_option linter.unusedSimpArgs false

/-! ### spec_l9bytes: function 24 -/
mutual
def spec_l9bytes.l0 : Nat → List Int → Int → Int → List (S70) → List (S85) → Int → List (S88) → List (S92) → Option (List Int)
 | 0, _, _, _, _, _, _, _, _ => none
 | k + 1, x3, x4, x178000, x178001, x178002, x178003, x178004, x178005 => if x4 < (x178001.length : Int) then (if 0 ≤ x4 then ((spec_PutText.f k x3 ((rd_T70 x178001 x4).f0)).bind fun t189 => ((spec_PutText.f k t189 ((rd_T70 x178001 x4).f1)).bind fun t192 => ((spec_PutNum.f k t192 ((rd_T70 x178001 x4).f2)).bind fun t195 => ((spec_PutNum.f k t195 ((rd_T70 x178001 x4).f3)).bind fun t198 => (spec_l9bytes.l0 k t198 (wrap64 (x4 + 1)) x178000 x178001 x178002 x178003 x178004 x178005))))) else (none)) else ((spec_PutNum.f k x3 (x178002.length : Int)).bind fun t201 => (spec_l9bytes.l1 k t201 0 x178000 x178001 x178002 x178003 x178004 x178005))
def spec_l9bytes.l1 : Nat → List Int → Int → Int → List (S70) → List (S85) → Int → List (S88) → List (S92) → Option (List Int)
 | 0, _, _, _, _, _, _, _, _ => none
 | k + 1, x3, x6, x178000, x178001, x178002, x178003, x178004, x178005 => if x6 < (x178002.length : Int) then (if 0 ≤ x6 then ((spec_PutText.f k x3 ((rd_T85 x178002 x6).f0)).bind fun t205 => ((spec_PutNum.f k t205 ((rd_T85 x178002 x6).f1)).bind fun t209 => (spec_l9bytes.l1 k t209 (wrap64 (x6 + 1)) x178000 x178001 x178002 x178003 x178004 x178005))) else (none)) else ((spec_PutNum.f k x3 (x178004.length : Int)).bind fun t212 => (spec_l9bytes.l2 k t212 0 x178000 x178001 x178002 x178003 x178004 x178005))
def spec_l9bytes.l2 : Nat → List Int → Int → Int → List (S70) → List (S85) → Int → List (S88) → List (S92) → Option (List Int)
 | 0, _, _, _, _, _, _, _, _ => none
 | k + 1, x3, x7, x178000, x178001, x178002, x178003, x178004, x178005 => if x7 < (x178004.length : Int) then (if 0 ≤ x7 then ((spec_PutNum.f k x3 ((rd_T88 x178004 x7).f0)).bind fun t216 => ((spec_l9flag.f k t216 ((rd_T88 x178004 x7).f1)).bind fun t220 => (spec_l9bytes.l2 k t220 (wrap64 (x7 + 1)) x178000 x178001 x178002 x178003 x178004 x178005))) else (none)) else ((spec_PutNum.f k x3 (x178005.length : Int)).bind fun t223 => (spec_l9bytes.l3 k t223 0 x178000 x178001 x178002 x178003 x178004 x178005))
def spec_l9bytes.l3 : Nat → List Int → Int → Int → List (S70) → List (S85) → Int → List (S88) → List (S92) → Option (List Int)
 | 0, _, _, _, _, _, _, _, _ => none
 | k + 1, x3, x8, x178000, x178001, x178002, x178003, x178004, x178005 => if x8 < (x178005.length : Int) then (if 0 ≤ x8 then ((spec_PutNum.f k x3 ((rd_T92 x178005 x8).f0)).bind fun t228 => ((spec_PutNum.f k t228 ((rd_T92 x178005 x8).f1)).bind fun t231 => ((spec_PutNum.f k t231 ((rd_T92 x178005 x8).f2.f0)).bind fun t234 => ((spec_PutNum.f k t234 ((rd_T92 x178005 x8).f2.f1)).bind fun t237 => (spec_l9bytes.l3 k t237 (wrap64 (x8 + 1)) x178000 x178001 x178002 x178003 x178004 x178005))))) else (none)) else (some x3)
end
def spec_l9bytes.f (k : Nat) (a0_0 : Int) (l0_1 : List (S70)) (l0_2 : List (S85)) (a0_3 : Int) (l0_4 : List (S88)) (l0_5 : List (S92)) : Option (List Int) := (spec_PutNum.f k ([] : List Int) a0_0).bind fun t178 => ((spec_PutNum.f k t178 a0_3).bind fun t181 => ((spec_PutNum.f k t181 (l0_1.length : Int)).bind fun t184 => (spec_l9bytes.l0 k t184 0 a0_0 l0_1 l0_2 a0_3 l0_4 l0_5)))
def spec_l9bytes.T1 : Bool × List (List Nat × List Nat) := (true, [([], []), ([0], [0]), ([1], [1]), ([], []), ([3], [3]), ([2, 4, 2], [2, 4]), ([], []), ([6], [6]), ([7], [7]), ([5, 8, 5], [5, 8]), ([9, 9, 0, 1, 2, 3, 4, 5, 6, 7, 8, 9], [9])])
def spec_l9bytes.B1 : List Nat := [0, 1, 3, 0, 8, 31, 0, 64, 192, 511, 1023]
theorem spec_l9bytes.tab1 : rtab .any (opsOf Try.f24 1) = spec_l9bytes.T1 := by kernel_rfl
theorem spec_l9bytes.bits1 : waitsOk spec_l9bytes.T1.2 spec_l9bytes.B1 = true := by kernel_rfl
def spec_l9bytes.T6 : Bool × List (List Nat × List Nat) := (true, [([], []), ([], []), ([1], [1]), ([0, 2], [0, 2]), ([], []), ([4], [4]), ([3, 5, 3], [3, 5]), ([], []), ([7], [7]), ([6, 8, 6], [6, 8]), ([], []), ([10], [10]), ([9, 11, 9], [9, 11]), ([12, 12, 0, 1, 2, 3, 4, 5, 6, 7, 8, 9, 10, 11, 12], [0, 12])])
def spec_l9bytes.B6 : List Nat := [0, 0, 2, 7, 0, 16, 63, 0, 128, 511, 0, 1024, 4095, 8191]
theorem spec_l9bytes.tab6 : rtab .any (opsOf Try.f24 6) = spec_l9bytes.T6 := by kernel_rfl
theorem spec_l9bytes.bits6 : waitsOk spec_l9bytes.T6.2 spec_l9bytes.B6 = true := by kernel_rfl
def spec_l9bytes.T11 : Bool × List (List Nat × List Nat) := (true, [([], []), ([], []), ([1], [1]), ([], []), ([2, 3], [2, 3]), ([4], [4]), ([5], [5]), ([0, 6], [0, 6]), ([], []), ([8], [8]), ([], []), ([9, 10], [9, 10]), ([11], [11]), ([12], [12]), ([7, 13, 7], [7, 13]), ([14, 14, 0, 1, 2, 3, 4, 5, 6, 7, 8, 9, 10, 11, 12, 13, 14], [0, 14])])
def spec_l9bytes.B11 : List Nat := [0, 0, 2, 0, 14, 30, 62, 127, 0, 256, 0, 1792, 3840, 7936, 16383, 32767]
theorem spec_l9bytes.tab11 : rtab .any (opsOf Try.f24 11) = spec_l9bytes.T11 := by kernel_rfl
theorem spec_l9bytes.bits11 : waitsOk spec_l9bytes.T11.2 spec_l9bytes.B11 = true := by kernel_rfl
def spec_l9bytes.T16 : Bool × List (List Nat × List Nat) := (true, [([], []), ([], []), ([1], [1]), ([], []), ([2, 3], [2, 3]), ([4], [4]), ([5], [5]), ([0, 6], [0, 6]), ([], []), ([8], [8]), ([], []), ([9, 10], [9, 10]), ([11], [11]), ([12], [12]), ([7, 13, 7], [7, 13]), ([14, 14, 0, 1, 2, 3, 4, 5, 6, 7, 8, 9, 10, 11, 12, 13, 14], [0, 14])])
def spec_l9bytes.B16 : List Nat := [0, 0, 2, 0, 14, 30, 62, 127, 0, 256, 0, 1792, 3840, 7936, 16383, 32767]
theorem spec_l9bytes.tab16 : rtab .any (opsOf Try.f24 16) = spec_l9bytes.T16 := by kernel_rfl
theorem spec_l9bytes.bits16 : waitsOk spec_l9bytes.T16.2 spec_l9bytes.B16 = true := by kernel_rfl
def spec_l9bytes.T22 : Bool × List (List Nat × List Nat) := (true, [([], []), ([], []), ([1], [1]), ([0, 2], [0, 2]), ([], []), ([4], [4]), ([3, 5, 3], [3, 5]), ([], []), ([7], [7]), ([8], [8]), ([6, 9, 6], [6, 9]), ([], []), ([11], [11]), ([12], [12]), ([10, 13, 10], [10, 13]), ([14, 14, 0, 1, 2, 3, 4, 5, 6, 7, 8, 9, 10, 11, 12, 13, 14], [0, 14])])
def spec_l9bytes.B22 : List Nat := [0, 0, 2, 7, 0, 16, 63, 0, 128, 384, 1023, 0, 2048, 6144, 16383, 32767]
theorem spec_l9bytes.tab22 : rtab .any (opsOf Try.f24 22) = spec_l9bytes.T22 := by kernel_rfl
theorem spec_l9bytes.bits22 : waitsOk spec_l9bytes.T22.2 spec_l9bytes.B22 = true := by kernel_rfl
set_option maxHeartbeats 8000000 in
set_option maxRecDepth 100000 in
theorem spec_l9bytes.calls (k : Nat) (a0_0 : Int) (A0_1 : Option Addr) (c0_1 : Nat) (l0_1 : List (S70)) (A0_2 : Option Addr) (c0_2 : Nat) (l0_2 : List (S85)) (a0_3 : Int) (A0_4 : Option Addr) (c0_4 : Nat) (l0_4 : List (S88)) (A0_5 : Option Addr) (c0_5 : Nat) (l0_5 : List (S92)) (r : List Int) (w : World) (hr0_1 : Kd.C k70 w A0_1 l0_1.length l0_1) (hc0_1 : l0_1.length ≤ c0_1) (hr0_2 : Kd.C k85 w A0_2 l0_2.length l0_2) (hc0_2 : l0_2.length ≤ c0_2) (hr0_4 : Kd.C k88 w A0_4 l0_4.length l0_4) (hc0_4 : l0_4.length ≤ c0_4) (hr0_5 : Kd.C k92 w A0_5 l0_5.length l0_5) (hc0_5 : l0_5.length ≤ c0_5) (h : spec_l9bytes.f k a0_0 l0_1 l0_2 a0_3 l0_4 l0_5 = some r) :
  Calls Try.prog 24 #[.agg #[.int .i64 a0_0, .slice A0_1 l0_1.length c0_1, .slice A0_2 l0_2.length c0_2, .int .i64 a0_3, .slice A0_4 l0_4.length c0_4, .slice A0_5 l0_5.length c0_5]] w fun e w' => ∃ v0_ : Value, e = .returned (v0_) ∧ Kd.R (Kd.int .u8) 5 w' w.heap.size (fun _ => True) v0_ r ∧ Below w.heap.size w w' := by
 have hu37 := Try.underlying37
 have hu70 := Try.underlying70
 have hu92 := Try.underlying92
 have HR0_1 := Aside0.mk hr0_1
 have HC0_1 := Aside0.mk hc0_1
 clear hr0_1 hc0_1
 have HR0_2 := Aside0.mk hr0_2
 have HC0_2 := Aside0.mk hc0_2
 clear hr0_2 hc0_2
 have HR0_4 := Aside0.mk hr0_4
 have HC0_4 := Aside0.mk hc0_4
 clear hr0_4 hc0_4
 have HR0_5 := Aside0.mk hr0_5
 have HC0_5 := Aside0.mk hc0_5
 clear hr0_5 hc0_5
 have HB := Aside0.mk (Below.refl w.heap.size w)
 have H : ((spec_PutNum.f k ([] : List Int) a0_0).bind fun t178 => ((spec_PutNum.f k t178 a0_3).bind fun t181 => ((spec_PutNum.f k t181 (l0_1.length : Int)).bind fun t184 => (spec_l9bytes.l0 k t184 0 a0_0 l0_1 l0_2 a0_3 l0_4 l0_5)))) = some r := h
 clear h
 replace H := Option.bind_eq_some_iff.mp H
 obtain ⟨t178, A20, H⟩ := H
 replace H : ((spec_PutNum.f k t178 a0_3).bind fun t181 => ((spec_PutNum.f k t181 (l0_1.length : Int)).bind fun t184 => (spec_l9bytes.l0 k t184 0 a0_0 l0_1 l0_2 a0_3 l0_4 l0_5))) = some r := H
 have A2 := Aside0.mk A20
 clear A20
 replace H := Option.bind_eq_some_iff.mp H
 obtain ⟨t181, A30, H⟩ := H
 replace H : ((spec_PutNum.f k t181 (l0_1.length : Int)).bind fun t184 => (spec_l9bytes.l0 k t184 0 a0_0 l0_1 l0_2 a0_3 l0_4 l0_5)) = some r := H
 have A3 := Aside0.mk A30
 clear A30
 replace H := Option.bind_eq_some_iff.mp H
 obtain ⟨t184, A40, H⟩ := H
 replace H : (spec_l9bytes.l0 k t184 0 a0_0 l0_1 l0_2 a0_3 l0_4 l0_5) = some r := H
 have A4 := Aside0.mk A40
 clear A40
 have H' := Aside0.mk H
 clear H
 go_enter Try.func24, Try.ntmps24
 try go_wp2_with (first | ((with_reducible refine gate_dst (N := 1) rfl ?_); refine bx_ 1 #[.int .i64 a0_0, .slice A0_1 l0_1.length c0_1, .slice A0_2 l0_2.length c0_2, .int .i64 a0_3, .slice A0_4 l0_4.length c0_4, .slice A0_5 l0_5.length c0_5] 37 (h := ?_); intro gb177 hg w5 hbox hb; have BK177 := Aside0.mk (hbox); have GW177 := Aside0.mk ((by rw [hg]; exact (below_size bel) : w.heap.size ≤ gb177)); have GE177 := GW177; replace HB := bst hb; clear hb hbox hg))
 replace BK177 := Aside0.mk (blk_drew BK177.out)
 replace HB := Aside0.mk (below_drew1 HB.out)
 refine start_ (n := 11) (S := fun w' => w'.cell? ⟨gb177, 0, none⟩ = some (.int .i64 a0_0) ∧ w'.cell? ⟨gb177, 1, none⟩ = some (.slice A0_1 l0_1.length c0_1) ∧ w'.cell? ⟨gb177, 2, none⟩ = some (.slice A0_2 l0_2.length c0_2) ∧ w'.cell? ⟨gb177, 3, none⟩ = some (.int .i64 a0_3) ∧ w'.cell? ⟨gb177, 4, none⟩ = some (.slice A0_4 l0_4.length c0_4) ∧ w'.cell? ⟨gb177, 5, none⟩ = some (.slice A0_5 l0_5.length c0_5)) (ds := []) (tf 0 11) (by kernel_rfl) rfl rfl (cellz_6 BK177.out) (fun hHeld => ?_); refine with_tabW spec_l9bytes.tab1 spec_l9bytes.bits1 (fun HT_ HW_ => ?_)
 generalize w5.drew = w6 at BK177 HB hHeld ⊢
 refine pvn_ HT_ (h := ?_)
 refine pv_ HT_ 3 (some 13) (tb 11 9) (h := ?_)
 refine pv_ HT_ 6 (some 16) (tb 11 73) (h := ?_)
 refine tv_ HT_ HW_ hHeld 1 (some 11) (tb 11 75) (h := ?_)
 refine tv_ HT_ HW_ hHeld 4 (some 14) (tb 11 91) (h := ?_)
 refine tv_ HT_ HW_ hHeld 7 (some 17) (tb 11 219) (h := ?_)
 refine pv_ HT_ 8 (some 18) (tb 11 475) (h := ?_)
 refine one_ (i := 2) (N := some 12) (tb 11 479) rfl rfl (one_of HT_.out (by kernel_rfl)) (by decide) (fun K hK => ?_)
 refine gs_ Try.func53 #[.slice none 0 0, .int .i64 a0_0] (h := ?_)
 refine (spec_PutNum.calls k _ _ ([] : List Int) a0_0 t178 _ ?side1 ?side2 A2.out).mono ?_
 (case side1 => exact Kd.C_nil _ _)
 (case side2 => exact Nat.le_refl _)
 rintro e w7 ⟨v179, rfl, ho0, hb⟩
 refine ⟨_, rfl, ?_⟩
 have HO180 := Aside0.mk (Kd.R_lower ho0 (below_size bel))
 replace BK177 := Aside0.mk (blb BK177 hb)
 replace HB := bst hb
 (try clear hb)
 (try clear hb2)
 (try clear hk)
 (try clear hi)
 (try clear ho0)
 obtain ⟨Ao8, co8, eo8⟩ := Kd.R_slice HO180.out
 (first | subst eo8 | (injection eo8 with f1_ f2_ f3_; have f4_ := f1_.symm; have f5_ := f3_.symm; clear f1_ f2_ f3_; subst f4_; subst f5_))
 refine hK.out _ _ (cellz_6 BK177.out) (fun hHeld => ?_)
 clear hK K
 refine nrm_ (some 12) (h := ?_)
 refine one_ (i := 5) (N := some 15) (tf 9 2) rfl rfl (one_of HT_.out (by kernel_rfl)) (by decide) (fun K hK => ?_)
 refine gs_ Try.func53 #[.slice Ao8 t178.length co8, .int .i64 a0_3] (h := ?_)
 with_reducible refine (spec_PutNum.calls k _ _ t178 a0_3 t181 _ ?side1 ?side2 A3.out).mono ?_
 (case side1 => repeat (first | exact (Kd.R_reads' HO180.out).2.2 | (with_reducible refine Kd.C_alloc ?_ _) | (with_reducible refine Kd.C_drewN ?_ _) | (with_reducible refine Kd.C_drew ?_)))
 (case side2 => exact (Kd.R_reads' HO180.out).2.1)
 rintro e w9 ⟨v182, rfl, ho0, hb⟩
 refine ⟨_, rfl, ?_⟩
 have HO183 := Aside0.mk (Kd.R_lower (Kd.R_new' ho0 (Kd.R_lt (rkp HO180))) (below_size bel))
 replace HO180 := Aside0.mk (Kd.R_elder' (rkp HO180) (Kd.R_base ho0) hb)
 replace BK177 := Aside0.mk (blb BK177 hb)
 replace HB := bst hb
 (try clear hb)
 (try clear hb2)
 (try clear hk)
 (try clear hi)
 (try clear ho0)
 obtain ⟨Ao10, co10, eo10⟩ := Kd.R_slice HO183.out
 (first | subst eo10 | (injection eo10 with f1_ f2_ f3_; have f4_ := f1_.symm; have f5_ := f3_.symm; clear f1_ f2_ f3_; subst f4_; subst f5_))
 refine hK.out _ _ (cellz_6 BK177.out) (fun hHeld => ?_)
 clear hK K
 refine nrm_ (some 15) (h := ?_)
 refine one_ (i := 9) (N := some 19) (tf 10 1) rfl rfl (one_of HT_.out (by kernel_rfl)) (by decide) (fun K hK => ?_)
 refine gs_ Try.func53 #[.slice Ao10 t181.length co10, .int .i64 (l0_1.length : Int)] (h := ?_)
 with_reducible refine (spec_PutNum.calls k _ _ t181 (l0_1.length : Int) t184 _ ?side1 ?side2 A4.out).mono ?_
 (case side1 => repeat (first | exact (Kd.R_reads' HO183.out).2.2 | (with_reducible refine Kd.C_alloc ?_ _) | (with_reducible refine Kd.C_drewN ?_ _) | (with_reducible refine Kd.C_drew ?_)))
 (case side2 => exact (Kd.R_reads' HO183.out).2.1)
 rintro e w11 ⟨v185, rfl, ho0, hb⟩
 refine ⟨_, rfl, ?_⟩
 have HO186 := Aside0.mk (Kd.R_lower (Kd.R_new' (Kd.R_new' ho0 (Kd.R_lt (rkp HO180))) (Kd.R_lt (rkp HO183))) (below_size bel))
 replace HO180 := Aside0.mk (Kd.R_elder' (rkp HO180) (Kd.R_base ho0) hb)
 replace HO183 := Aside0.mk (Kd.R_elder' (rkp HO183) (Kd.R_base ho0) hb)
 replace BK177 := Aside0.mk (blb BK177 hb)
 replace HB := bst hb
 (try clear hb)
 (try clear hb2)
 (try clear hk)
 (try clear hi)
 (try clear ho0)
 refine hK.out _ _ (cellz_6 BK177.out) (fun hHeld => ?_)
 clear hK K
 refine nrm_ (some 19) (h := ?_)
 refine pvn_ HT_ (h := ?_)
 refine done_ (done_of HT_.out (by kernel_rfl)) ?_
 try go_wp2
 go_loopg [3, 4] k (fun kq v3 v4 w' => ∃ (x3_1 : List Int) (x4_1 : Int), v4 = .int .i64 x4_1 ∧ Aside0 (spec_l9bytes.l0 kq x3_1 x4_1 a0_0 l0_1 l0_2 a0_3 l0_4 l0_5 = some r) ∧ Aside0 (kq ≤ k) ∧ Aside0 (Kd.R (Kd.int .u8) 5 w' w.heap.size (fun _ => True) v3 x3_1) ∧ Aside0 (w'.heap[gb177]? = some (.cells #[.int .i64 a0_0, (.slice A0_1 l0_1.length c0_1), (.slice A0_2 l0_2.length c0_2), .int .i64 a0_3, (.slice A0_4 l0_4.length c0_4), (.slice A0_5 l0_5.length c0_5)] 37 (0, 0))) ∧ Aside0 (Below w.heap.size w w'))
 case atStart => exact ⟨(t184), (0), rs_, H', ⟨Nat.le_refl _⟩, ⟨by (with_reducible repeat (first | apply Kd.R_alloc | apply Kd.R_drewN | apply Kd.R_drew)); exact Kd.R_mono HO186.out (fun _ hk => trivial)⟩, ⟨bkp BK177⟩, ⟨bel⟩⟩
 case round =>
  clear H'
  try clear c2; try clear p2; try clear c5
  obtain ⟨x3_1, x4_1, rfl, HA, HK1, HO_3, BK177, HB⟩ := hrel
  cases gk with
  | zero => exact absurd HA.out (by simp [spec_l9bytes.l0])
  | succ k1 =>
   have H := HA.out
   clear HA
   simp only [spec_l9bytes.l0] at H
   by_cases c12 : x4_1 < (l0_1.length : Int)
   ·rw [if_pos c12] at H
    have c12b0 : decide (x4_1 < (l0_1.length : Int)) = true := decide_eq_true c12
    clear c12
    by_cases c13 : 0 ≤ x4_1
    ·rw [if_pos c13] at H
     have c13b0 : decide (0 ≤ x4_1) = true := decide_eq_true c13
     clear c13
     replace H := Option.bind_eq_some_iff.mp H
     obtain ⟨t189, A140, H⟩ := H
     replace H : ((spec_PutText.f k1 t189 ((rd_T70 l0_1 x4_1).f1)).bind fun t192 => ((spec_PutNum.f k1 t192 ((rd_T70 l0_1 x4_1).f2)).bind fun t195 => ((spec_PutNum.f k1 t195 ((rd_T70 l0_1 x4_1).f3)).bind fun t198 => (spec_l9bytes.l0 k1 t198 (wrap64 (x4_1 + 1)) a0_0 l0_1 l0_2 a0_3 l0_4 l0_5)))) = some r := H
     have A14 := Aside0.mk A140
     clear A140
     replace H := Option.bind_eq_some_iff.mp H
     obtain ⟨t192, A150, H⟩ := H
     replace H : ((spec_PutNum.f k1 t192 ((rd_T70 l0_1 x4_1).f2)).bind fun t195 => ((spec_PutNum.f k1 t195 ((rd_T70 l0_1 x4_1).f3)).bind fun t198 => (spec_l9bytes.l0 k1 t198 (wrap64 (x4_1 + 1)) a0_0 l0_1 l0_2 a0_3 l0_4 l0_5))) = some r := H
     have A15 := Aside0.mk A150
     clear A150
     replace H := Option.bind_eq_some_iff.mp H
     obtain ⟨t195, A160, H⟩ := H
     replace H : ((spec_PutNum.f k1 t195 ((rd_T70 l0_1 x4_1).f3)).bind fun t198 => (spec_l9bytes.l0 k1 t198 (wrap64 (x4_1 + 1)) a0_0 l0_1 l0_2 a0_3 l0_4 l0_5)) = some r := H
     have A16 := Aside0.mk A160
     clear A160
     replace H := Option.bind_eq_some_iff.mp H
     obtain ⟨t198, A170, H⟩ := H
     replace H : (spec_l9bytes.l0 k1 t198 (wrap64 (x4_1 + 1)) a0_0 l0_1 l0_2 a0_3 l0_4 l0_5) = some r := H
     have A17 := Aside0.mk A170
     clear A170
     have H' := Aside0.mk H
     clear H
     obtain ⟨C18_0, C18_1, C18_2, C18_3, C18_4, C18_5, -⟩ := cells_6 BK177.out trivial
     obtain ⟨F18_0, F18_1, F18_2, F18_3, F18_4, F18_5, -⟩ := frz_6 BK177.out
     have p187 : 0 ≤ (x4_1 : Int) := od
     have q187 : x4_1 < (l0_1.length : Int) := od
     obtain ⟨ad187, A187_0, c187_0, A187_1, c187_1, e187, hx187_0, hx187_1, hx187_2, hx187_3, hl187_0, hi187_0, hl187_1, hi187_1⟩ := at_T70 HR0_1.out x4_1 p187 q187
     cases e187
     replace hx187_0 := hxb HB hx187_0
     replace hx187_1 := hxb HB hx187_1
     replace hx187_2 := hxb HB hx187_2
     replace hx187_3 := hxb HB hx187_3
     have HR187_0 := Aside0.mk hi187_0
     have HC187_0 := Aside0.mk hl187_0
     clear hi187_0 hl187_0
     have HR187_1 := Aside0.mk hi187_1
     have HC187_1 := Aside0.mk hl187_1
     clear hi187_1 hl187_1
     replace p187 := eq_true p187
     replace q187 := eq_true q187
     try go_wp2_with (first | ((with_reducible refine gate_dst (N := 5) rfl ?_); refine bx_ 5 #[.slice none 0 0, .slice none 0 0, .int .i64 0, .int .i64 0] 70 (h := ?_); intro gb188 hg w19 hbox hb; have BK188 := Aside0.mk (hbox); have GW188 := Aside0.mk ((by rw [hg]; exact (below_size bel) : w.heap.size ≤ gb188)); have GE188 := GW188; have NB177_188 := Aside0.mk ((by rw [hg]; exact Nat.ne_of_lt (blt BK177) : gb177 ≠ gb188)); have NB188_177 := Aside0.mk NB177_188.out.symm; replace HO_3 := Aside0.mk (rbl HO_3 hb); replace BK177 := Aside0.mk (blb BK177 hb); replace HB := bst hb; clear hb hbox hg; have hnb20 := NB188_177.out; have hnc20 := NB177_188.out; obtain ⟨C21_0, C21_1, C21_2, C21_3, -⟩ := cells_4 BK188.out trivial; obtain ⟨F21_0, F21_1, F21_2, F21_3, -⟩ := frz_4 BK188.out))
     have n0_ : Aside0 (Kd.R (Kd.int .u8) 5 ((((w19.setCell ⟨gb188, 0, none⟩ (.slice A187_0 ((rd_T70 l0_1 x4_1).f0).length c187_0)).setCell ⟨gb188, 1, none⟩ (.slice A187_1 ((rd_T70 l0_1 x4_1).f1).length c187_1)).setCell ⟨gb188, 2, none⟩ (.int .i64 ((rd_T70 l0_1 x4_1).f2))).setCell ⟨gb188, 3, none⟩ (.int .i64 ((rd_T70 l0_1 x4_1).f3))) w.heap.size (fun _ => True) u3 x3_1) := ⟨by (with_reducible repeat (first | apply Kd.R_alloc | apply Kd.R_drewN | apply Kd.R_drew)); exact Kd.R_mono (Kd.R_far (p := ⟨gb188, 3, none⟩) (Kd.R_far (p := ⟨gb188, 2, none⟩) (Kd.R_far (p := ⟨gb188, 1, none⟩) (Kd.R_far (p := ⟨gb188, 0, none⟩) (Kd.R_types HO_3.out BK188.out (by decide)) (fun _ hk => hk.2) (.slice A187_0 ((rd_T70 l0_1 x4_1).f0).length c187_0)) (fun _ hk => hk.2) (.slice A187_1 ((rd_T70 l0_1 x4_1).f1).length c187_1)) (fun _ hk => hk.2) (.int .i64 ((rd_T70 l0_1 x4_1).f2))) (fun _ hk => hk.2) (.int .i64 ((rd_T70 l0_1 x4_1).f3))) (fun _ hk => trivial)⟩
     have n1_ : Aside0 (((((w19.setCell ⟨gb188, 0, none⟩ (.slice A187_0 ((rd_T70 l0_1 x4_1).f0).length c187_0)).setCell ⟨gb188, 1, none⟩ (.slice A187_1 ((rd_T70 l0_1 x4_1).f1).length c187_1)).setCell ⟨gb188, 2, none⟩ (.int .i64 ((rd_T70 l0_1 x4_1).f2))).setCell ⟨gb188, 3, none⟩ (.int .i64 ((rd_T70 l0_1 x4_1).f3))).heap[gb177]? = some (.cells #[.int .i64 a0_0, .slice (some ad187) l0_1.length c0_1, .slice A0_2 l0_2.length c0_2, .int .i64 a0_3, .slice A0_4 l0_4.length c0_4, .slice A0_5 l0_5.length c0_5] 37 (0, 0))) := ⟨by (with_reducible repeat (first | refine blk_drewN ?_ _ | refine blk_drew ?_ | refine blk_alloc ?_ _)); refine blk_far ?_ NB177_188.out _; (with_reducible repeat (first | refine blk_drewN ?_ _ | refine blk_drew ?_ | refine blk_alloc ?_ _)); refine blk_far ?_ NB177_188.out _; (with_reducible repeat (first | refine blk_drewN ?_ _ | refine blk_drew ?_ | refine blk_alloc ?_ _)); refine blk_far ?_ NB177_188.out _; (with_reducible repeat (first | refine blk_drewN ?_ _ | refine blk_drew ?_ | refine blk_alloc ?_ _)); refine blk_far ?_ NB177_188.out _; (with_reducible repeat (first | refine blk_drewN ?_ _ | refine blk_drew ?_ | refine blk_alloc ?_ _)); exact BK177.out⟩
     have n2_ : Aside0 (((((w19.setCell ⟨gb188, 0, none⟩ (.slice A187_0 ((rd_T70 l0_1 x4_1).f0).length c187_0)).setCell ⟨gb188, 1, none⟩ (.slice A187_1 ((rd_T70 l0_1 x4_1).f1).length c187_1)).setCell ⟨gb188, 2, none⟩ (.int .i64 ((rd_T70 l0_1 x4_1).f2))).setCell ⟨gb188, 3, none⟩ (.int .i64 ((rd_T70 l0_1 x4_1).f3))).heap[gb188]? = some (.cells #[.slice A187_0 ((rd_T70 l0_1 x4_1).f0).length c187_0, .slice A187_1 ((rd_T70 l0_1 x4_1).f1).length c187_1, .int .i64 ((rd_T70 l0_1 x4_1).f2), .int .i64 ((rd_T70 l0_1 x4_1).f3)] 70 (0, 0))) := ⟨by (with_reducible repeat (first | refine blk_drewN ?_ _ | refine blk_drew ?_ | refine blk_alloc ?_ _)); refine blk_put (cs := #[.slice A187_0 ((rd_T70 l0_1 x4_1).f0).length c187_0, .slice A187_1 ((rd_T70 l0_1 x4_1).f1).length c187_1, .int .i64 ((rd_T70 l0_1 x4_1).f2), .int .i64 0]) ?_ 3 _ rfl; (with_reducible repeat (first | refine blk_drewN ?_ _ | refine blk_drew ?_ | refine blk_alloc ?_ _)); refine blk_put (cs := #[.slice A187_0 ((rd_T70 l0_1 x4_1).f0).length c187_0, .slice A187_1 ((rd_T70 l0_1 x4_1).f1).length c187_1, .int .i64 0, .int .i64 0]) ?_ 2 _ rfl; (with_reducible repeat (first | refine blk_drewN ?_ _ | refine blk_drew ?_ | refine blk_alloc ?_ _)); refine blk_put (cs := #[.slice A187_0 ((rd_T70 l0_1 x4_1).f0).length c187_0, .slice none 0 0, .int .i64 0, .int .i64 0]) ?_ 1 _ rfl; (with_reducible repeat (first | refine blk_drewN ?_ _ | refine blk_drew ?_ | refine blk_alloc ?_ _)); refine blk_put (cs := #[.slice none 0 0, .slice none 0 0, .int .i64 0, .int .i64 0]) ?_ 0 _ rfl; (with_reducible repeat (first | refine blk_drewN ?_ _ | refine blk_drew ?_ | refine blk_alloc ?_ _)); exact BK188.out⟩
     have n3_ : Aside0 (Below w.heap.size w ((((w19.setCell ⟨gb188, 0, none⟩ (.slice A187_0 ((rd_T70 l0_1 x4_1).f0).length c187_0)).setCell ⟨gb188, 1, none⟩ (.slice A187_1 ((rd_T70 l0_1 x4_1).f1).length c187_1)).setCell ⟨gb188, 2, none⟩ (.int .i64 ((rd_T70 l0_1 x4_1).f2))).setCell ⟨gb188, 3, none⟩ (.int .i64 ((rd_T70 l0_1 x4_1).f3)))) := ⟨bel⟩
     (try clear HO_3)
     (try clear BK177)
     (try clear BK188)
     (try clear HB)
     generalize ((((w19.setCell ⟨gb188, 0, none⟩ (.slice A187_0 ((rd_T70 l0_1 x4_1).f0).length c187_0)).setCell ⟨gb188, 1, none⟩ (.slice A187_1 ((rd_T70 l0_1 x4_1).f1).length c187_1)).setCell ⟨gb188, 2, none⟩ (.int .i64 ((rd_T70 l0_1 x4_1).f2))).setCell ⟨gb188, 3, none⟩ (.int .i64 ((rd_T70 l0_1 x4_1).f3))) = w22 at n0_ n1_ n2_ n3_ ⊢
     have HO_3 := n0_
     have BK177 := n1_
     have BK188 := n2_
     have HB := n3_
     clear n0_ n1_ n2_ n3_
     replace HO_3 := Aside0.mk (Kd.R_drew HO_3.out)
     replace BK177 := Aside0.mk (blk_drew BK177.out)
     replace BK188 := Aside0.mk (blk_drew BK188.out)
     replace HB := Aside0.mk (below_drew1 HB.out)
     obtain ⟨Ao24, co24, eo24⟩ := Kd.R_slice HO_3.out
     (first | subst eo24 | (injection eo24 with f1_ f2_ f3_; have f4_ := f1_.symm; have f5_ := f3_.symm; clear f1_ f2_ f3_; subst f4_; subst f5_))
     refine start_ (n := 14) (S := fun w' => w'.cell? ⟨gb188, 0, none⟩ = some (.slice A187_0 ((rd_T70 l0_1 x4_1).f0).length c187_0) ∧ w'.cell? ⟨gb188, 1, none⟩ = some (.slice A187_1 ((rd_T70 l0_1 x4_1).f1).length c187_1) ∧ w'.cell? ⟨gb188, 2, none⟩ = some (.int .i64 ((rd_T70 l0_1 x4_1).f2)) ∧ w'.cell? ⟨gb188, 3, none⟩ = some (.int .i64 ((rd_T70 l0_1 x4_1).f3))) (ds := []) (tf 0 14) (by kernel_rfl) rfl rfl (cellz_4 BK188.out) (fun hHeld => ?_); refine with_tabW spec_l9bytes.tab6 spec_l9bytes.bits6 (fun HT_ HW_ => ?_)
     generalize w22.drew = w23 at HO_3 BK177 BK188 HB hHeld ⊢
     iterate 2 (refine pvn_ HT_ (h := ?_))
     refine pv_ HT_ 4 (some 36) (tb 14 19) (h := ?_)
     refine pv_ HT_ 7 (some 39) (tb 14 147) (h := ?_)
     refine pv_ HT_ 10 (some 42) (tb 14 1171) (h := ?_)
     refine tv_ HT_ HW_ hHeld 2 (some 34) (tb 14 1175) (h := ?_)
     refine tv_ HT_ HW_ hHeld 5 (some 37) (tb 14 1207) (h := ?_)
     refine tv_ HT_ HW_ hHeld 8 (some 40) (tb 14 1463) (h := ?_)
     refine tv_ HT_ HW_ hHeld 11 (some 43) (tb 14 3511) (h := ?_)
     refine one_ (i := 3) (N := some 35) (tb 14 3519) rfl rfl (one_of HT_.out (by kernel_rfl)) (by decide) (fun K hK => ?_)
     refine gs_ Try.func54 #[.slice Ao24 x3_1.length co24, .slice A187_0 ((rd_T70 l0_1 x4_1).f0).length c187_0] (h := ?_)
     with_reducible refine (spec_PutText.calls k1 _ _ x3_1 _ _ ((rd_T70 l0_1 x4_1).f0) t189 _ ?side1 ?side2 ?side3 ?side4 A14.out).mono ?_
     (case side1 => repeat (first | exact (Kd.R_reads' HO_3.out).2.2 | (with_reducible refine Kd.C_alloc ?_ _) | (with_reducible refine Kd.C_drewN ?_ _) | (with_reducible refine Kd.C_drew ?_)))
     (case side2 => exact (Kd.R_reads' HO_3.out).2.1)
     (case side3 => exact kcb)
     (case side4 => exact HC187_0.out)
     rintro e w25 ⟨v190, rfl, ho0, hb⟩
     refine ⟨_, rfl, ?_⟩
     have HO191 := Aside0.mk (Kd.R_lower (Kd.R_new' ho0 (Kd.R_lt (rkp HO_3))) (below_size bel))
     replace HO_3 := Aside0.mk (Kd.R_elder' (rkp HO_3) (Kd.R_base ho0) hb)
     replace BK177 := Aside0.mk (blb BK177 hb)
     replace BK188 := Aside0.mk (blb BK188 hb)
     replace HB := bst hb
     (try clear hb)
     (try clear hb2)
     (try clear hk)
     (try clear hi)
     (try clear ho0)
     obtain ⟨Ao26, co26, eo26⟩ := Kd.R_slice HO191.out
     (first | subst eo26 | (injection eo26 with f1_ f2_ f3_; have f4_ := f1_.symm; have f5_ := f3_.symm; clear f1_ f2_ f3_; subst f4_; subst f5_))
     refine hK.out _ _ (cellz_4 BK188.out) (fun hHeld => ?_)
     clear hK K
     refine nrm_ (some 35) (h := ?_)
     refine one_ (i := 6) (N := some 38) (tb 14 3583) rfl rfl (one_of HT_.out (by kernel_rfl)) (by decide) (fun K hK => ?_)
     refine gs_ Try.func54 #[.slice Ao26 t189.length co26, .slice A187_1 ((rd_T70 l0_1 x4_1).f1).length c187_1] (h := ?_)
     with_reducible refine (spec_PutText.calls k1 _ _ t189 _ _ ((rd_T70 l0_1 x4_1).f1) t192 _ ?side1 ?side2 ?side3 ?side4 A15.out).mono ?_
     (case side1 => repeat (first | exact (Kd.R_reads' HO191.out).2.2 | (with_reducible refine Kd.C_alloc ?_ _) | (with_reducible refine Kd.C_drewN ?_ _) | (with_reducible refine Kd.C_drew ?_)))
     (case side2 => exact (Kd.R_reads' HO191.out).2.1)
     (case side3 => exact kcb)
     (case side4 => exact HC187_1.out)
     rintro e w27 ⟨v193, rfl, ho0, hb⟩
     refine ⟨_, rfl, ?_⟩
     have HO194 := Aside0.mk (Kd.R_lower (Kd.R_new' (Kd.R_new' ho0 (Kd.R_lt (rkp HO_3))) (Kd.R_lt (rkp HO191))) (below_size bel))
     replace HO_3 := Aside0.mk (Kd.R_elder' (rkp HO_3) (Kd.R_base ho0) hb)
     replace HO191 := Aside0.mk (Kd.R_elder' (rkp HO191) (Kd.R_base ho0) hb)
     replace BK177 := Aside0.mk (blb BK177 hb)
     replace BK188 := Aside0.mk (blb BK188 hb)
     replace HB := bst hb
     (try clear hb)
     (try clear hb2)
     (try clear hk)
     (try clear hi)
     (try clear ho0)
     obtain ⟨Ao28, co28, eo28⟩ := Kd.R_slice HO194.out
     (first | subst eo28 | (injection eo28 with f1_ f2_ f3_; have f4_ := f1_.symm; have f5_ := f3_.symm; clear f1_ f2_ f3_; subst f4_; subst f5_))
     refine hK.out _ _ (cellz_4 BK188.out) (fun hHeld => ?_)
     clear hK K
     refine nrm_ (some 38) (h := ?_)
     refine one_ (i := 9) (N := some 41) (tf 12 2) rfl rfl (one_of HT_.out (by kernel_rfl)) (by decide) (fun K hK => ?_)
     refine gs_ Try.func53 #[.slice Ao28 t192.length co28, .int .i64 ((rd_T70 l0_1 x4_1).f2)] (h := ?_)
     with_reducible refine (spec_PutNum.calls k1 _ _ t192 ((rd_T70 l0_1 x4_1).f2) t195 _ ?side1 ?side2 A16.out).mono ?_
     (case side1 => repeat (first | exact (Kd.R_reads' HO194.out).2.2 | (with_reducible refine Kd.C_alloc ?_ _) | (with_reducible refine Kd.C_drewN ?_ _) | (with_reducible refine Kd.C_drew ?_)))
     (case side2 => exact (Kd.R_reads' HO194.out).2.1)
     rintro e w29 ⟨v196, rfl, ho0, hb⟩
     refine ⟨_, rfl, ?_⟩
     have HO197 := Aside0.mk (Kd.R_lower (Kd.R_new' (Kd.R_new' (Kd.R_new' ho0 (Kd.R_lt (rkp HO_3))) (Kd.R_lt (rkp HO191))) (Kd.R_lt (rkp HO194))) (below_size bel))
     replace HO_3 := Aside0.mk (Kd.R_elder' (rkp HO_3) (Kd.R_base ho0) hb)
     replace HO191 := Aside0.mk (Kd.R_elder' (rkp HO191) (Kd.R_base ho0) hb)
     replace HO194 := Aside0.mk (Kd.R_elder' (rkp HO194) (Kd.R_base ho0) hb)
     replace BK177 := Aside0.mk (blb BK177 hb)
     replace BK188 := Aside0.mk (blb BK188 hb)
     replace HB := bst hb
     (try clear hb)
     (try clear hb2)
     (try clear hk)
     (try clear hi)
     (try clear ho0)
     obtain ⟨Ao30, co30, eo30⟩ := Kd.R_slice HO197.out
     (first | subst eo30 | (injection eo30 with f1_ f2_ f3_; have f4_ := f1_.symm; have f5_ := f3_.symm; clear f1_ f2_ f3_; subst f4_; subst f5_))
     refine hK.out _ _ (cellz_4 BK188.out) (fun hHeld => ?_)
     clear hK K
     refine nrm_ (some 41) (h := ?_)
     refine one_ (i := 12) (N := some 44) (tf 13 1) rfl rfl (one_of HT_.out (by kernel_rfl)) (by decide) (fun K hK => ?_)
     refine gs_ Try.func53 #[.slice Ao30 t195.length co30, .int .i64 ((rd_T70 l0_1 x4_1).f3)] (h := ?_)
     with_reducible refine (spec_PutNum.calls k1 _ _ t195 ((rd_T70 l0_1 x4_1).f3) t198 _ ?side1 ?side2 A17.out).mono ?_
     (case side1 => repeat (first | exact (Kd.R_reads' HO197.out).2.2 | (with_reducible refine Kd.C_alloc ?_ _) | (with_reducible refine Kd.C_drewN ?_ _) | (with_reducible refine Kd.C_drew ?_)))
     (case side2 => exact (Kd.R_reads' HO197.out).2.1)
     rintro e w31 ⟨v199, rfl, ho0, hb⟩
     refine ⟨_, rfl, ?_⟩
     have HO200 := Aside0.mk (Kd.R_lower (Kd.R_new' (Kd.R_new' (Kd.R_new' (Kd.R_new' ho0 (Kd.R_lt (rkp HO_3))) (Kd.R_lt (rkp HO191))) (Kd.R_lt (rkp HO194))) (Kd.R_lt (rkp HO197))) (below_size bel))
     replace HO_3 := Aside0.mk (Kd.R_elder' (rkp HO_3) (Kd.R_base ho0) hb)
     replace HO191 := Aside0.mk (Kd.R_elder' (rkp HO191) (Kd.R_base ho0) hb)
     replace HO194 := Aside0.mk (Kd.R_elder' (rkp HO194) (Kd.R_base ho0) hb)
     replace HO197 := Aside0.mk (Kd.R_elder' (rkp HO197) (Kd.R_base ho0) hb)
     replace BK177 := Aside0.mk (blb BK177 hb)
     replace BK188 := Aside0.mk (blb BK188 hb)
     replace HB := bst hb
     (try clear hb)
     (try clear hb2)
     (try clear hk)
     (try clear hi)
     (try clear ho0)
     refine hK.out _ _ (cellz_4 BK188.out) (fun hHeld => ?_)
     clear hK K
     refine nrm_ (some 44) (h := ?_)
     refine pvn_ HT_ (h := ?_)
     refine done_ (done_of HT_.out (by kernel_rfl)) ?_
     try go_wp2
     go_roundg k1
     case measure => have := HK1.out; omega
     case rel => exact ⟨(t198), (wrap64 (x4_1 + 1)), rs_, H', ⟨by have := HK1.out; omega⟩, ⟨by (with_reducible repeat (first | apply Kd.R_alloc | apply Kd.R_drewN | apply Kd.R_drew)); exact Kd.R_mono HO200.out (fun _ hk => trivial)⟩, ⟨bkp BK177⟩, ⟨bel⟩⟩
    rw [if_neg c13] at H
    exact absurd H (by simp)
   rw [if_neg c12] at H
   have c12b0 : decide (x4_1 < (l0_1.length : Int)) = false := decide_eq_false c12
   clear c12
   replace H := Option.bind_eq_some_iff.mp H
   obtain ⟨t201, A320, H⟩ := H
   replace H : (spec_l9bytes.l1 k1 t201 0 a0_0 l0_1 l0_2 a0_3 l0_4 l0_5) = some r := H
   have A32 := Aside0.mk A320
   clear A320
   have H' := Aside0.mk H
   clear H
   obtain ⟨C33_0, C33_1, C33_2, C33_3, C33_4, C33_5, -⟩ := cells_6 BK177.out trivial
   obtain ⟨F33_0, F33_1, F33_2, F33_3, F33_4, F33_5, -⟩ := frz_6 BK177.out
   obtain ⟨Ao34, co34, eo34⟩ := Kd.R_slice HO_3.out
   subst eo34
   go_wp2_with (first | ((with_reducible refine gate_callee (f := 53) rfl ?_); refine gl_ (some 49) Try.func53 #[.slice Ao34 x3_1.length co34, .int .i64 (l0_2.length : Int)] (h := ?_); (with_reducible refine (spec_PutNum.calls k1 _ _ x3_1 (l0_2.length : Int) t201 _ ?side1 ?side2 A32.out).mono ?_); (case side1 => repeat (first | exact (Kd.R_reads' HO_3.out).2.2 | (with_reducible refine Kd.C_alloc ?_ _) | (with_reducible refine Kd.C_drewN ?_ _) | (with_reducible refine Kd.C_drew ?_))); (case side2 => exact (Kd.R_reads' HO_3.out).2.1); rintro e w35 ⟨v202, rfl, ho0, hb⟩; refine ⟨_, rfl, ?_⟩; have HO203 := Aside0.mk (Kd.R_lower (Kd.R_new' ho0 (Kd.R_lt (rkp HO_3))) (below_size bel)); replace HO_3 := Aside0.mk (Kd.R_elder' (rkp HO_3) (Kd.R_base ho0) hb); replace BK177 := Aside0.mk (blb BK177 hb); replace HB := bst hb; (try clear hb); (try clear hb2); (try clear hk); (try clear hi); (try clear ho0)))
   go_loopg [3, 6] k1 (fun kq v3 v6 w' => ∃ (x3_2 : List Int) (x6_2 : Int), v6 = .int .i64 x6_2 ∧ Aside0 (spec_l9bytes.l1 kq x3_2 x6_2 a0_0 l0_1 l0_2 a0_3 l0_4 l0_5 = some r) ∧ Aside0 (kq ≤ k1) ∧ Aside0 (Kd.R (Kd.int .u8) 5 w' w.heap.size (fun _ => True) v3 x3_2) ∧ Aside0 (w'.heap[gb177]? = some (.cells #[.int .i64 a0_0, (.slice A0_1 l0_1.length c0_1), (.slice A0_2 l0_2.length c0_2), .int .i64 a0_3, (.slice A0_4 l0_4.length c0_4), (.slice A0_5 l0_5.length c0_5)] 37 (0, 0))) ∧ Aside0 (Below w.heap.size w w'))
   case atStart => exact ⟨(t201), (0), rs_, H', ⟨Nat.le_refl _⟩, ⟨by (with_reducible repeat (first | apply Kd.R_alloc | apply Kd.R_drewN | apply Kd.R_drew)); exact Kd.R_mono HO203.out (fun _ hk => trivial)⟩, ⟨bkp BK177⟩, ⟨bel⟩⟩
   case round =>
    clear H'
    try clear c1; try clear p1; try clear q1; try clear hx1; try clear c2; try clear p2; try clear c5; try clear p6; try clear c12; try clear c12b0; try clear c13; try clear c13b0; try clear c18; try clear p18; try clear q18; try clear hx18; try clear c20; try clear c24; try clear C18_0 C18_1 C18_2 C18_3 C18_4 C18_5; try clear C21_0 C21_1 C21_2 C21_3; try clear C33_0 C33_1 C33_2 C33_3 C33_4 C33_5; try clear F18_0 F18_1 F18_2 F18_3 F18_4 F18_5; try clear F21_0 F21_1 F21_2 F21_3; try clear F33_0 F33_1 F33_2 F33_3 F33_4 F33_5; try clear hx187_0; try clear hx187_1; try clear hx187_2; try clear hx187_3; try clear p187; try clear p2; try clear q187
    obtain ⟨x3_2, x6_2, rfl, HA, HK2, HO_3, BK177, HB⟩ := hrel
    cases gk with
    | zero => exact absurd HA.out (by simp [spec_l9bytes.l1])
    | succ k2 =>
     have H := HA.out
     clear HA
     simp only [spec_l9bytes.l1] at H
     by_cases c36 : x6_2 < (l0_2.length : Int)
     ·rw [if_pos c36] at H
      have c36b0 : decide (x6_2 < (l0_2.length : Int)) = true := decide_eq_true c36
      clear c36
      by_cases c37 : 0 ≤ x6_2
      ·rw [if_pos c37] at H
       have c37b0 : decide (0 ≤ x6_2) = true := decide_eq_true c37
       clear c37
       replace H := Option.bind_eq_some_iff.mp H
       obtain ⟨t205, A380, H⟩ := H
       replace H : ((spec_PutNum.f k2 t205 ((rd_T85 l0_2 x6_2).f1)).bind fun t209 => (spec_l9bytes.l1 k2 t209 (wrap64 (x6_2 + 1)) a0_0 l0_1 l0_2 a0_3 l0_4 l0_5)) = some r := H
       have A38 := Aside0.mk A380
       clear A380
       replace H := Option.bind_eq_some_iff.mp H
       obtain ⟨t209, A390, H⟩ := H
       replace H : (spec_l9bytes.l1 k2 t209 (wrap64 (x6_2 + 1)) a0_0 l0_1 l0_2 a0_3 l0_4 l0_5) = some r := H
       have A39 := Aside0.mk A390
       clear A390
       have H' := Aside0.mk H
       clear H
       obtain ⟨C40_0, C40_1, C40_2, C40_3, C40_4, C40_5, -⟩ := cells_6 BK177.out trivial
       obtain ⟨F40_0, F40_1, F40_2, F40_3, F40_4, F40_5, -⟩ := frz_6 BK177.out
       try go_wp2
       replace HO_3 := Aside0.mk (Kd.R_drew HO_3.out)
       replace BK177 := Aside0.mk (blk_drew BK177.out)
       replace HB := Aside0.mk (below_drew1 HB.out)
       have p204 : 0 ≤ (x6_2 : Int) := od
       have q204 : x6_2 < (l0_2.length : Int) := od
       obtain ⟨ad204, A204_0, c204_0, e204, hx204_0, hx204_1, hl204_0, hi204_0⟩ := at_T85 HR0_2.out x6_2 p204 q204
       have hw204_1 := hx204_1
       have hw204_0 := hx204_0
       cases e204
       replace hx204_0 := hxb HB hx204_0
       replace hx204_1 := hxb HB hx204_1
       have HR204_0 := Aside0.mk hi204_0
       have HC204_0 := Aside0.mk hl204_0
       clear hi204_0 hl204_0
       replace p204 := eq_true p204
       replace q204 := eq_true q204
       have p208 : 0 ≤ (x6_2 : Int) := od
       have q208 : x6_2 < (l0_2.length : Int) := od
       obtain ⟨ad208, A208_0, c208_0, e208, hx208_0, hx208_1, hl208_0, hi208_0⟩ := at_T85 HR0_2.out x6_2 p208 q208
       have hw208_1 := hx208_1
       have hw208_0 := hx208_0
       obtain rfl : ad204 = ad208 := (by injection e208)
       replace hx208_0 := hxb HB hx208_0
       replace hx208_1 := hxb HB hx208_1
       have HR208_0 := Aside0.mk hi208_0
       have HC208_0 := Aside0.mk hl208_0
       clear hi208_0 hl208_0
       replace p208 := eq_true p208
       replace q208 := eq_true q208
       have ea_ := Option.some.inj (hx204_0.symm.trans hx208_0)
       injection ea_ with ea_ en_ ec_
       subst ea_
       subst ec_
       clear en_
       obtain ⟨Ao42, co42, eo42⟩ := Kd.R_slice HO_3.out
       (first | subst eo42 | (injection eo42 with f1_ f2_ f3_; have f4_ := f1_.symm; have f5_ := f3_.symm; clear f1_ f2_ f3_; subst f4_; subst f5_))
       refine start_ (n := 16) (S := fun w' => w'.cell? ⟨gb177, 0, none⟩ = some (.int .i64 a0_0) ∧ w'.cell? ⟨gb177, 1, none⟩ = some (.slice A0_1 l0_1.length c0_1) ∧ w'.cell? ⟨gb177, 2, none⟩ = some (.slice (some ad204) l0_2.length c0_2) ∧ w'.cell? ⟨gb177, 3, none⟩ = some (.int .i64 a0_3) ∧ w'.cell? ⟨gb177, 4, none⟩ = some (.slice A0_4 l0_4.length c0_4) ∧ w'.cell? ⟨gb177, 5, none⟩ = some (.slice A0_5 l0_5.length c0_5) ∧ w'.cell? (ad204.add ((x6_2).toNat * 2)) = some (.slice A204_0 ((rd_T85 l0_2 x6_2).f0).length c204_0) ∧ w'.cell? ⟨(ad204.add ((x6_2).toNat * 2)).block, (ad204.add ((x6_2).toNat * 2)).off + 1, none⟩ = some (.int .i64 ((rd_T85 l0_2 x6_2).f1)) ∧ w'.cell? (ad204.add ((x6_2).toNat * 2)) = some (.slice A204_0 ((rd_T85 l0_2 x6_2).f0).length c204_0) ∧ w'.cell? ⟨(ad204.add ((x6_2).toNat * 2)).block, (ad204.add ((x6_2).toNat * 2)).off + 1, none⟩ = some (.int .i64 ((rd_T85 l0_2 x6_2).f1))) (ds := []) (tf 0 16) (by kernel_rfl) rfl rfl (cells_6 BK177.out ⟨(hxb HB hw204_0 :), (hxb HB hw204_1 :), (hxb HB hw208_0 :), (hxb HB hw208_1 :)⟩) (fun hHeld => ?_); refine with_tabW spec_l9bytes.tab11 spec_l9bytes.bits11 (fun HT_ HW_ => ?_)
       generalize wr.drew = w41 at HO_3 BK177 HB HR204_0 HR208_0 hx204_0 hx204_1 hx208_0 hx208_1 hHeld ⊢
       iterate 2 (refine pvn_ HT_ (h := ?_))
       refine pv_ HT_ 3 (some 60) (tb 16 11) (h := ?_)
       refine pv_ HT_ 8 (some 65) (tb 16 267) (h := ?_)
       refine pv_ HT_ 10 (some 67) (tb 16 1291) (h := ?_)
       refine tv_ HT_ HW_ hHeld 2 (some 59) (tb 16 1295) (h := ?_)
       refine pv_ HT_ 4 (some 61) (tb 16 1311) (h := ?_)
       refine pv_ HT_ 5 (some 62) (tb 16 1343) (h := ?_)
       refine tv_ HT_ HW_ hHeld 6 (some 63) (tb 16 1407) (h := ?_)
       refine tv_ HT_ HW_ hHeld 9 (some 66) (tb 16 1919) (h := ?_)
       refine pv_ HT_ 11 (some 68) (tb 16 3967) (h := ?_)
       refine pv_ HT_ 12 (some 69) (tb 16 8063) (h := ?_)
       refine tv_ HT_ HW_ hHeld 13 (some 70) (tb 16 16255) (h := ?_)
       refine one_ (i := 7) (N := some 64) (tf 14 2) rfl rfl (one_of HT_.out (by kernel_rfl)) (by decide) (fun K hK => ?_)
       refine gs_ Try.func54 #[.slice Ao42 x3_2.length co42, .slice A204_0 ((rd_T85 l0_2 x6_2).f0).length c204_0] (h := ?_)
       with_reducible refine (spec_PutText.calls k2 _ _ x3_2 _ _ ((rd_T85 l0_2 x6_2).f0) t205 _ ?side1 ?side2 ?side3 ?side4 A38.out).mono ?_
       (case side1 => repeat (first | exact (Kd.R_reads' HO_3.out).2.2 | (with_reducible refine Kd.C_alloc ?_ _) | (with_reducible refine Kd.C_drewN ?_ _) | (with_reducible refine Kd.C_drew ?_)))
       (case side2 => exact (Kd.R_reads' HO_3.out).2.1)
       (case side3 => exact kcb)
       (case side4 => exact HC204_0.out)
       rintro e w43 ⟨v206, rfl, ho0, hb⟩
       refine ⟨_, rfl, ?_⟩
       have HO207 := Aside0.mk (Kd.R_lower (Kd.R_new' ho0 (Kd.R_lt (rkp HO_3))) (below_size bel))
       replace HO_3 := Aside0.mk (Kd.R_elder' (rkp HO_3) (Kd.R_base ho0) hb)
       replace BK177 := Aside0.mk (blb BK177 hb)
       replace HB := bst hb
       (try clear hb)
       (try clear hb2)
       (try clear hk)
       (try clear hi)
       (try clear ho0)
       obtain ⟨Ao44, co44, eo44⟩ := Kd.R_slice HO207.out
       (first | subst eo44 | (injection eo44 with f1_ f2_ f3_; have f4_ := f1_.symm; have f5_ := f3_.symm; clear f1_ f2_ f3_; subst f4_; subst f5_))
       refine hK.out _ _ (cells_6 BK177.out ⟨(hxb HB hw204_0 :), (hxb HB hw204_1 :), (hxb HB hw208_0 :), (hxb HB hw208_1 :)⟩) (fun hHeld => ?_)
       clear hK K
       refine nrm_ (some 64) (h := ?_)
       refine one_ (i := 14) (N := some 71) (tf 15 1) rfl rfl (one_of HT_.out (by kernel_rfl)) (by decide) (fun K hK => ?_)
       refine gs_ Try.func53 #[.slice Ao44 t205.length co44, .int .i64 ((rd_T85 l0_2 x6_2).f1)] (h := ?_)
       with_reducible refine (spec_PutNum.calls k2 _ _ t205 ((rd_T85 l0_2 x6_2).f1) t209 _ ?side1 ?side2 A39.out).mono ?_
       (case side1 => repeat (first | exact (Kd.R_reads' HO207.out).2.2 | (with_reducible refine Kd.C_alloc ?_ _) | (with_reducible refine Kd.C_drewN ?_ _) | (with_reducible refine Kd.C_drew ?_)))
       (case side2 => exact (Kd.R_reads' HO207.out).2.1)
       rintro e w45 ⟨v210, rfl, ho0, hb⟩
       refine ⟨_, rfl, ?_⟩
       have HO211 := Aside0.mk (Kd.R_lower (Kd.R_new' (Kd.R_new' ho0 (Kd.R_lt (rkp HO_3))) (Kd.R_lt (rkp HO207))) (below_size bel))
       replace HO_3 := Aside0.mk (Kd.R_elder' (rkp HO_3) (Kd.R_base ho0) hb)
       replace HO207 := Aside0.mk (Kd.R_elder' (rkp HO207) (Kd.R_base ho0) hb)
       replace BK177 := Aside0.mk (blb BK177 hb)
       replace HB := bst hb
       (try clear hb)
       (try clear hb2)
       (try clear hk)
       (try clear hi)
       (try clear ho0)
       refine hK.out _ _ (cells_6 BK177.out ⟨(hxb HB hw204_0 :), (hxb HB hw204_1 :), (hxb HB hw208_0 :), (hxb HB hw208_1 :)⟩) (fun hHeld => ?_)
       clear hK K
       refine nrm_ (some 71) (h := ?_)
       refine pvn_ HT_ (h := ?_)
       refine done_ (done_of HT_.out (by kernel_rfl)) ?_
       try go_wp2
       go_roundg k2
       case measure => have := HK1.out; have := HK2.out; omega
       case rel => exact ⟨(t209), (wrap64 (x6_2 + 1)), rs_, H', ⟨by have := HK1.out; have := HK2.out; omega⟩, ⟨by (with_reducible repeat (first | apply Kd.R_alloc | apply Kd.R_drewN | apply Kd.R_drew)); exact Kd.R_mono HO211.out (fun _ hk => trivial)⟩, ⟨bkp BK177⟩, ⟨bel⟩⟩
      rw [if_neg c37] at H
      exact absurd H (by simp)
     rw [if_neg c36] at H
     have c36b0 : decide (x6_2 < (l0_2.length : Int)) = false := decide_eq_false c36
     clear c36
     replace H := Option.bind_eq_some_iff.mp H
     obtain ⟨t212, A460, H⟩ := H
     replace H : (spec_l9bytes.l2 k2 t212 0 a0_0 l0_1 l0_2 a0_3 l0_4 l0_5) = some r := H
     have A46 := Aside0.mk A460
     clear A460
     have H' := Aside0.mk H
     clear H
     obtain ⟨C47_0, C47_1, C47_2, C47_3, C47_4, C47_5, -⟩ := cells_6 BK177.out trivial
     obtain ⟨F47_0, F47_1, F47_2, F47_3, F47_4, F47_5, -⟩ := frz_6 BK177.out
     obtain ⟨Ao48, co48, eo48⟩ := Kd.R_slice HO_3.out
     subst eo48
     go_wp2_with (first | ((with_reducible refine gate_callee (f := 53) rfl ?_); refine gl_ (some 76) Try.func53 #[.slice Ao48 x3_2.length co48, .int .i64 (l0_4.length : Int)] (h := ?_); (with_reducible refine (spec_PutNum.calls k2 _ _ x3_2 (l0_4.length : Int) t212 _ ?side1 ?side2 A46.out).mono ?_); (case side1 => repeat (first | exact (Kd.R_reads' HO_3.out).2.2 | (with_reducible refine Kd.C_alloc ?_ _) | (with_reducible refine Kd.C_drewN ?_ _) | (with_reducible refine Kd.C_drew ?_))); (case side2 => exact (Kd.R_reads' HO_3.out).2.1); rintro e w49 ⟨v213, rfl, ho0, hb⟩; refine ⟨_, rfl, ?_⟩; have HO214 := Aside0.mk (Kd.R_lower (Kd.R_new' ho0 (Kd.R_lt (rkp HO_3))) (below_size bel)); replace HO_3 := Aside0.mk (Kd.R_elder' (rkp HO_3) (Kd.R_base ho0) hb); replace BK177 := Aside0.mk (blb BK177 hb); replace HB := bst hb; (try clear hb); (try clear hb2); (try clear hk); (try clear hi); (try clear ho0)))
     go_loopg [3, 7] k2 (fun kq v3 v7 w' => ∃ (x3_3 : List Int) (x7_3 : Int), v7 = .int .i64 x7_3 ∧ Aside0 (spec_l9bytes.l2 kq x3_3 x7_3 a0_0 l0_1 l0_2 a0_3 l0_4 l0_5 = some r) ∧ Aside0 (kq ≤ k2) ∧ Aside0 (Kd.R (Kd.int .u8) 5 w' w.heap.size (fun _ => True) v3 x3_3) ∧ Aside0 (w'.heap[gb177]? = some (.cells #[.int .i64 a0_0, (.slice A0_1 l0_1.length c0_1), (.slice A0_2 l0_2.length c0_2), .int .i64 a0_3, (.slice A0_4 l0_4.length c0_4), (.slice A0_5 l0_5.length c0_5)] 37 (0, 0))) ∧ Aside0 (Below w.heap.size w w'))
     case atStart => exact ⟨(t212), (0), rs_, H', ⟨Nat.le_refl _⟩, ⟨by (with_reducible repeat (first | apply Kd.R_alloc | apply Kd.R_drewN | apply Kd.R_drew)); exact Kd.R_mono HO214.out (fun _ hk => trivial)⟩, ⟨bkp BK177⟩, ⟨bel⟩⟩
     case round =>
      clear H'
      try clear c1; try clear p1; try clear q1; try clear hx1; try clear c2; try clear p2; try clear q2; try clear hx2; try clear c3; try clear c5; try clear p6; try clear c12; try clear c12b0; try clear c13; try clear c13b0; try clear c18; try clear p18; try clear q18; try clear hx18; try clear c20; try clear p20; try clear q20; try clear hx20; try clear c24; try clear c36; try clear c36b0; try clear c37; try clear c37b0; try clear C18_0 C18_1 C18_2 C18_3 C18_4 C18_5; try clear C21_0 C21_1 C21_2 C21_3; try clear C33_0 C33_1 C33_2 C33_3 C33_4 C33_5; try clear C40_0 C40_1 C40_2 C40_3 C40_4 C40_5; try clear C47_0 C47_1 C47_2 C47_3 C47_4 C47_5; try clear F18_0 F18_1 F18_2 F18_3 F18_4 F18_5; try clear F21_0 F21_1 F21_2 F21_3; try clear F33_0 F33_1 F33_2 F33_3 F33_4 F33_5; try clear F40_0 F40_1 F40_2 F40_3 F40_4 F40_5; try clear F47_0 F47_1 F47_2 F47_3 F47_4 F47_5; try clear hx187_0; try clear hx187_1; try clear hx187_2; try clear hx187_3; try clear hx204_0; try clear hx204_1; try clear hx208_0; try clear hx208_1; try clear p1; try clear p18; try clear p187; try clear p2; try clear p204; try clear p208; try clear p6; try clear q1; try clear q18; try clear q187; try clear q204; try clear q208
      obtain ⟨x3_3, x7_3, rfl, HA, HK3, HO_3, BK177, HB⟩ := hrel
      cases gk with
      | zero => exact absurd HA.out (by simp [spec_l9bytes.l2])
      | succ k3 =>
       have H := HA.out
       clear HA
       simp only [spec_l9bytes.l2] at H
       by_cases c50 : x7_3 < (l0_4.length : Int)
       ·rw [if_pos c50] at H
        have c50b0 : decide (x7_3 < (l0_4.length : Int)) = true := decide_eq_true c50
        clear c50
        by_cases c51 : 0 ≤ x7_3
        ·rw [if_pos c51] at H
         have c51b0 : decide (0 ≤ x7_3) = true := decide_eq_true c51
         clear c51
         replace H := Option.bind_eq_some_iff.mp H
         obtain ⟨t216, A520, H⟩ := H
         replace H : ((spec_l9flag.f k3 t216 ((rd_T88 l0_4 x7_3).f1)).bind fun t220 => (spec_l9bytes.l2 k3 t220 (wrap64 (x7_3 + 1)) a0_0 l0_1 l0_2 a0_3 l0_4 l0_5)) = some r := H
         have A52 := Aside0.mk A520
         clear A520
         replace H := Option.bind_eq_some_iff.mp H
         obtain ⟨t220, A530, H⟩ := H
         replace H : (spec_l9bytes.l2 k3 t220 (wrap64 (x7_3 + 1)) a0_0 l0_1 l0_2 a0_3 l0_4 l0_5) = some r := H
         have A53 := Aside0.mk A530
         clear A530
         have H' := Aside0.mk H
         clear H
         obtain ⟨C54_0, C54_1, C54_2, C54_3, C54_4, C54_5, -⟩ := cells_6 BK177.out trivial
         obtain ⟨F54_0, F54_1, F54_2, F54_3, F54_4, F54_5, -⟩ := frz_6 BK177.out
         try go_wp2
         replace HO_3 := Aside0.mk (Kd.R_drew HO_3.out)
         replace BK177 := Aside0.mk (blk_drew BK177.out)
         replace HB := Aside0.mk (below_drew1 HB.out)
         have p215 : 0 ≤ (x7_3 : Int) := od
         have q215 : x7_3 < (l0_4.length : Int) := od
         obtain ⟨ad215, e215, hx215_0, hx215_1⟩ := at_T88 HR0_4.out x7_3 p215 q215
         have hw215_1 := hx215_1
         have hw215_0 := hx215_0
         cases e215
         replace hx215_0 := hxb HB hx215_0
         replace hx215_1 := hxb HB hx215_1
         replace p215 := eq_true p215
         replace q215 := eq_true q215
         have p219 : 0 ≤ (x7_3 : Int) := od
         have q219 : x7_3 < (l0_4.length : Int) := od
         obtain ⟨ad219, e219, hx219_0, hx219_1⟩ := at_T88 HR0_4.out x7_3 p219 q219
         have hw219_1 := hx219_1
         have hw219_0 := hx219_0
         obtain rfl : ad215 = ad219 := (by injection e219)
         replace hx219_0 := hxb HB hx219_0
         replace hx219_1 := hxb HB hx219_1
         replace p219 := eq_true p219
         replace q219 := eq_true q219
         obtain ⟨Ao56, co56, eo56⟩ := Kd.R_slice HO_3.out
         (first | subst eo56 | (injection eo56 with f1_ f2_ f3_; have f4_ := f1_.symm; have f5_ := f3_.symm; clear f1_ f2_ f3_; subst f4_; subst f5_))
         refine start_ (n := 16) (S := fun w' => w'.cell? ⟨gb177, 0, none⟩ = some (.int .i64 a0_0) ∧ w'.cell? ⟨gb177, 1, none⟩ = some (.slice A0_1 l0_1.length c0_1) ∧ w'.cell? ⟨gb177, 2, none⟩ = some (.slice A0_2 l0_2.length c0_2) ∧ w'.cell? ⟨gb177, 3, none⟩ = some (.int .i64 a0_3) ∧ w'.cell? ⟨gb177, 4, none⟩ = some (.slice (some ad215) l0_4.length c0_4) ∧ w'.cell? ⟨gb177, 5, none⟩ = some (.slice A0_5 l0_5.length c0_5) ∧ w'.cell? (ad215.add ((x7_3).toNat * 2)) = some (.int .i64 ((rd_T88 l0_4 x7_3).f0)) ∧ w'.cell? ⟨(ad215.add ((x7_3).toNat * 2)).block, (ad215.add ((x7_3).toNat * 2)).off + 1, none⟩ = some (.bool ((rd_T88 l0_4 x7_3).f1)) ∧ w'.cell? (ad215.add ((x7_3).toNat * 2)) = some (.int .i64 ((rd_T88 l0_4 x7_3).f0)) ∧ w'.cell? ⟨(ad215.add ((x7_3).toNat * 2)).block, (ad215.add ((x7_3).toNat * 2)).off + 1, none⟩ = some (.bool ((rd_T88 l0_4 x7_3).f1))) (ds := []) (tf 0 16) (by kernel_rfl) rfl rfl (cells_6 BK177.out ⟨(hxb HB hw215_0 :), (hxb HB hw215_1 :), (hxb HB hw219_0 :), (hxb HB hw219_1 :)⟩) (fun hHeld => ?_); refine with_tabW spec_l9bytes.tab16 spec_l9bytes.bits16 (fun HT_ HW_ => ?_)
         generalize wr.drew = w55 at HO_3 BK177 HB hx215_0 hx215_1 hx219_0 hx219_1 hHeld ⊢
         iterate 2 (refine pvn_ HT_ (h := ?_))
         refine pv_ HT_ 3 (some 87) (tb 16 11) (h := ?_)
         refine pv_ HT_ 8 (some 92) (tb 16 267) (h := ?_)
         refine pv_ HT_ 10 (some 94) (tb 16 1291) (h := ?_)
         refine tv_ HT_ HW_ hHeld 2 (some 86) (tb 16 1295) (h := ?_)
         refine pv_ HT_ 4 (some 88) (tb 16 1311) (h := ?_)
         refine pv_ HT_ 5 (some 89) (tb 16 1343) (h := ?_)
         refine tv_ HT_ HW_ hHeld 6 (some 90) (tb 16 1407) (h := ?_)
         refine tv_ HT_ HW_ hHeld 9 (some 93) (tb 16 1919) (h := ?_)
         refine pv_ HT_ 11 (some 95) (tb 16 3967) (h := ?_)
         refine pv_ HT_ 12 (some 96) (tb 16 8063) (h := ?_)
         refine tv_ HT_ HW_ hHeld 13 (some 97) (tb 16 16255) (h := ?_)
         refine one_ (i := 7) (N := some 91) (tf 14 2) rfl rfl (one_of HT_.out (by kernel_rfl)) (by decide) (fun K hK => ?_)
         refine gs_ Try.func53 #[.slice Ao56 x3_3.length co56, .int .i64 ((rd_T88 l0_4 x7_3).f0)] (h := ?_)
         with_reducible refine (spec_PutNum.calls k3 _ _ x3_3 ((rd_T88 l0_4 x7_3).f0) t216 _ ?side1 ?side2 A52.out).mono ?_
         (case side1 => repeat (first | exact (Kd.R_reads' HO_3.out).2.2 | (with_reducible refine Kd.C_alloc ?_ _) | (with_reducible refine Kd.C_drewN ?_ _) | (with_reducible refine Kd.C_drew ?_)))
         (case side2 => exact (Kd.R_reads' HO_3.out).2.1)
         rintro e w57 ⟨v217, rfl, ho0, hb⟩
         refine ⟨_, rfl, ?_⟩
         have HO218 := Aside0.mk (Kd.R_lower (Kd.R_new' ho0 (Kd.R_lt (rkp HO_3))) (below_size bel))
         replace HO_3 := Aside0.mk (Kd.R_elder' (rkp HO_3) (Kd.R_base ho0) hb)
         replace BK177 := Aside0.mk (blb BK177 hb)
         replace HB := bst hb
         (try clear hb)
         (try clear hb2)
         (try clear hk)
         (try clear hi)
         (try clear ho0)
         obtain ⟨Ao58, co58, eo58⟩ := Kd.R_slice HO218.out
         (first | subst eo58 | (injection eo58 with f1_ f2_ f3_; have f4_ := f1_.symm; have f5_ := f3_.symm; clear f1_ f2_ f3_; subst f4_; subst f5_))
         refine hK.out _ _ (cells_6 BK177.out ⟨(hxb HB hw215_0 :), (hxb HB hw215_1 :), (hxb HB hw219_0 :), (hxb HB hw219_1 :)⟩) (fun hHeld => ?_)
         clear hK K
         refine nrm_ (some 91) (h := ?_)
         refine one_ (i := 14) (N := some 98) (tf 15 1) rfl rfl (one_of HT_.out (by kernel_rfl)) (by decide) (fun K hK => ?_)
         refine gs_ Try.func55 #[.slice Ao58 t216.length co58, .bool ((rd_T88 l0_4 x7_3).f1)] (h := ?_)
         with_reducible refine (spec_l9flag.calls k3 _ _ t216 ((rd_T88 l0_4 x7_3).f1) t220 _ ?side1 ?side2 A53.out).mono ?_
         (case side1 => repeat (first | exact (Kd.R_reads' HO218.out).2.2 | (with_reducible refine Kd.C_alloc ?_ _) | (with_reducible refine Kd.C_drewN ?_ _) | (with_reducible refine Kd.C_drew ?_)))
         (case side2 => exact (Kd.R_reads' HO218.out).2.1)
         rintro e w59 ⟨v221, rfl, ho0, hb⟩
         refine ⟨_, rfl, ?_⟩
         have HO222 := Aside0.mk (Kd.R_lower (Kd.R_new' (Kd.R_new' ho0 (Kd.R_lt (rkp HO_3))) (Kd.R_lt (rkp HO218))) (below_size bel))
         replace HO_3 := Aside0.mk (Kd.R_elder' (rkp HO_3) (Kd.R_base ho0) hb)
         replace HO218 := Aside0.mk (Kd.R_elder' (rkp HO218) (Kd.R_base ho0) hb)
         replace BK177 := Aside0.mk (blb BK177 hb)
         replace HB := bst hb
         (try clear hb)
         (try clear hb2)
         (try clear hk)
         (try clear hi)
         (try clear ho0)
         refine hK.out _ _ (cells_6 BK177.out ⟨(hxb HB hw215_0 :), (hxb HB hw215_1 :), (hxb HB hw219_0 :), (hxb HB hw219_1 :)⟩) (fun hHeld => ?_)
         clear hK K
         refine nrm_ (some 98) (h := ?_)
         refine pvn_ HT_ (h := ?_)
         refine done_ (done_of HT_.out (by kernel_rfl)) ?_
         try go_wp2
         go_roundg k3
         case measure => have := HK1.out; have := HK2.out; have := HK3.out; omega
         case rel => exact ⟨(t220), (wrap64 (x7_3 + 1)), rs_, H', ⟨by have := HK1.out; have := HK2.out; have := HK3.out; omega⟩, ⟨by (with_reducible repeat (first | apply Kd.R_alloc | apply Kd.R_drewN | apply Kd.R_drew)); exact Kd.R_mono HO222.out (fun _ hk => trivial)⟩, ⟨bkp BK177⟩, ⟨bel⟩⟩
        rw [if_neg c51] at H
        exact absurd H (by simp)
       rw [if_neg c50] at H
       have c50b0 : decide (x7_3 < (l0_4.length : Int)) = false := decide_eq_false c50
       clear c50
       replace H := Option.bind_eq_some_iff.mp H
       obtain ⟨t223, A600, H⟩ := H
       replace H : (spec_l9bytes.l3 k3 t223 0 a0_0 l0_1 l0_2 a0_3 l0_4 l0_5) = some r := H
       have A60 := Aside0.mk A600
       clear A600
       have H' := Aside0.mk H
       clear H
       obtain ⟨C61_0, C61_1, C61_2, C61_3, C61_4, C61_5, -⟩ := cells_6 BK177.out trivial
       obtain ⟨F61_0, F61_1, F61_2, F61_3, F61_4, F61_5, -⟩ := frz_6 BK177.out
       obtain ⟨Ao62, co62, eo62⟩ := Kd.R_slice HO_3.out
       subst eo62
       go_wp2_with (first | ((with_reducible refine gate_callee (f := 53) rfl ?_); refine gl_ (some 103) Try.func53 #[.slice Ao62 x3_3.length co62, .int .i64 (l0_5.length : Int)] (h := ?_); (with_reducible refine (spec_PutNum.calls k3 _ _ x3_3 (l0_5.length : Int) t223 _ ?side1 ?side2 A60.out).mono ?_); (case side1 => repeat (first | exact (Kd.R_reads' HO_3.out).2.2 | (with_reducible refine Kd.C_alloc ?_ _) | (with_reducible refine Kd.C_drewN ?_ _) | (with_reducible refine Kd.C_drew ?_))); (case side2 => exact (Kd.R_reads' HO_3.out).2.1); rintro e w63 ⟨v224, rfl, ho0, hb⟩; refine ⟨_, rfl, ?_⟩; have HO225 := Aside0.mk (Kd.R_lower (Kd.R_new' ho0 (Kd.R_lt (rkp HO_3))) (below_size bel)); replace HO_3 := Aside0.mk (Kd.R_elder' (rkp HO_3) (Kd.R_base ho0) hb); replace BK177 := Aside0.mk (blb BK177 hb); replace HB := bst hb; (try clear hb); (try clear hb2); (try clear hk); (try clear hi); (try clear ho0)))
       go_loopg [3, 8] k3 (fun kq v3 v8 w' => ∃ (x3_4 : List Int) (x8_4 : Int), v8 = .int .i64 x8_4 ∧ Aside0 (spec_l9bytes.l3 kq x3_4 x8_4 a0_0 l0_1 l0_2 a0_3 l0_4 l0_5 = some r) ∧ Aside0 (kq ≤ k3) ∧ Aside0 (Kd.R (Kd.int .u8) 5 w' w.heap.size (fun _ => True) v3 x3_4) ∧ Aside0 (w'.heap[gb177]? = some (.cells #[.int .i64 a0_0, (.slice A0_1 l0_1.length c0_1), (.slice A0_2 l0_2.length c0_2), .int .i64 a0_3, (.slice A0_4 l0_4.length c0_4), (.slice A0_5 l0_5.length c0_5)] 37 (0, 0))) ∧ Aside0 (Below w.heap.size w w'))
       case atStart => exact ⟨(t223), (0), rs_, H', ⟨Nat.le_refl _⟩, ⟨by (with_reducible repeat (first | apply Kd.R_alloc | apply Kd.R_drewN | apply Kd.R_drew)); exact Kd.R_mono HO225.out (fun _ hk => trivial)⟩, ⟨bkp BK177⟩, ⟨bel⟩⟩
       case round =>
        clear H'
        try clear c1; try clear p1; try clear q1; try clear hx1; try clear c2; try clear p2; try clear q2; try clear hx2; try clear c3; try clear c5; try clear p6; try clear c12; try clear c12b0; try clear c13; try clear c13b0; try clear c18; try clear p18; try clear q18; try clear hx18; try clear c20; try clear p20; try clear q20; try clear hx20; try clear p21; try clear q21; try clear hx21; try clear c24; try clear c36; try clear c36b0; try clear c37; try clear c37b0; try clear c50; try clear c50b0; try clear c51; try clear c51b0; try clear c53; try clear c54; try clear c55; try clear C18_0 C18_1 C18_2 C18_3 C18_4 C18_5; try clear C21_0 C21_1 C21_2 C21_3; try clear C33_0 C33_1 C33_2 C33_3 C33_4 C33_5; try clear C40_0 C40_1 C40_2 C40_3 C40_4 C40_5; try clear C47_0 C47_1 C47_2 C47_3 C47_4 C47_5; try clear C54_0 C54_1 C54_2 C54_3 C54_4 C54_5; try clear C61_0 C61_1 C61_2 C61_3 C61_4 C61_5; try clear F18_0 F18_1 F18_2 F18_3 F18_4 F18_5; try clear F21_0 F21_1 F21_2 F21_3; try clear F33_0 F33_1 F33_2 F33_3 F33_4 F33_5; try clear F40_0 F40_1 F40_2 F40_3 F40_4 F40_5; try clear F47_0 F47_1 F47_2 F47_3 F47_4 F47_5; try clear F54_0 F54_1 F54_2 F54_3 F54_4 F54_5; try clear F61_0 F61_1 F61_2 F61_3 F61_4 F61_5; try clear hx187_0; try clear hx187_1; try clear hx187_2; try clear hx187_3; try clear hx204_0; try clear hx204_1; try clear hx208_0; try clear hx208_1; try clear hx215_0; try clear hx215_1; try clear hx219_0; try clear hx219_1; try clear p1; try clear p18; try clear p187; try clear p2; try clear p20; try clear p204; try clear p208; try clear p215; try clear p219; try clear p6; try clear q1; try clear q18; try clear q187; try clear q2; try clear q20; try clear q204; try clear q208; try clear q215; try clear q219
        obtain ⟨x3_4, x8_4, rfl, HA, HK4, HO_3, BK177, HB⟩ := hrel
        cases gk with
        | zero => exact absurd HA.out (by simp [spec_l9bytes.l3])
        | succ k4 =>
         have H := HA.out
         clear HA
         simp only [spec_l9bytes.l3] at H
         by_cases c64 : x8_4 < (l0_5.length : Int)
         ·rw [if_pos c64] at H
          have c64b0 : decide (x8_4 < (l0_5.length : Int)) = true := decide_eq_true c64
          clear c64
          by_cases c65 : 0 ≤ x8_4
          ·rw [if_pos c65] at H
           have c65b0 : decide (0 ≤ x8_4) = true := decide_eq_true c65
           clear c65
           replace H := Option.bind_eq_some_iff.mp H
           obtain ⟨t228, A660, H⟩ := H
           replace H : ((spec_PutNum.f k4 t228 ((rd_T92 l0_5 x8_4).f1)).bind fun t231 => ((spec_PutNum.f k4 t231 ((rd_T92 l0_5 x8_4).f2.f0)).bind fun t234 => ((spec_PutNum.f k4 t234 ((rd_T92 l0_5 x8_4).f2.f1)).bind fun t237 => (spec_l9bytes.l3 k4 t237 (wrap64 (x8_4 + 1)) a0_0 l0_1 l0_2 a0_3 l0_4 l0_5)))) = some r := H
           have A66 := Aside0.mk A660
           clear A660
           replace H := Option.bind_eq_some_iff.mp H
           obtain ⟨t231, A670, H⟩ := H
           replace H : ((spec_PutNum.f k4 t231 ((rd_T92 l0_5 x8_4).f2.f0)).bind fun t234 => ((spec_PutNum.f k4 t234 ((rd_T92 l0_5 x8_4).f2.f1)).bind fun t237 => (spec_l9bytes.l3 k4 t237 (wrap64 (x8_4 + 1)) a0_0 l0_1 l0_2 a0_3 l0_4 l0_5))) = some r := H
           have A67 := Aside0.mk A670
           clear A670
           replace H := Option.bind_eq_some_iff.mp H
           obtain ⟨t234, A680, H⟩ := H
           replace H : ((spec_PutNum.f k4 t234 ((rd_T92 l0_5 x8_4).f2.f1)).bind fun t237 => (spec_l9bytes.l3 k4 t237 (wrap64 (x8_4 + 1)) a0_0 l0_1 l0_2 a0_3 l0_4 l0_5)) = some r := H
           have A68 := Aside0.mk A680
           clear A680
           replace H := Option.bind_eq_some_iff.mp H
           obtain ⟨t237, A690, H⟩ := H
           replace H : (spec_l9bytes.l3 k4 t237 (wrap64 (x8_4 + 1)) a0_0 l0_1 l0_2 a0_3 l0_4 l0_5) = some r := H
           have A69 := Aside0.mk A690
           clear A690
           have H' := Aside0.mk H
           clear H
           obtain ⟨C70_0, C70_1, C70_2, C70_3, C70_4, C70_5, -⟩ := cells_6 BK177.out trivial
           obtain ⟨F70_0, F70_1, F70_2, F70_3, F70_4, F70_5, -⟩ := frz_6 BK177.out
           have p226 : 0 ≤ (x8_4 : Int) := od
           have q226 : x8_4 < (l0_5.length : Int) := od
           obtain ⟨ad226, e226, hx226_0, hx226_1, hx226_2, hx226_3⟩ := at_T92 HR0_5.out x8_4 p226 q226
           cases e226
           replace hx226_0 := hxb HB hx226_0
           replace hx226_1 := hxb HB hx226_1
           replace hx226_2 := hxb HB hx226_2
           replace hx226_3 := hxb HB hx226_3
           replace p226 := eq_true p226
           replace q226 := eq_true q226
           try go_wp2_with (first | ((with_reducible refine gate_dst (N := 9) rfl ?_); refine bx_ 9 #[.int .i64 0, .int .i64 0, .int .i64 0, .int .i64 0] 92 (h := ?_); intro gb227 hg w71 hbox hb; have BK227 := Aside0.mk (hbox); have GW227 := Aside0.mk ((by rw [hg]; exact (below_size bel) : w.heap.size ≤ gb227)); have GE227 := GW227; have NB177_227 := Aside0.mk ((by rw [hg]; exact Nat.ne_of_lt (blt BK177) : gb177 ≠ gb227)); have NB227_177 := Aside0.mk NB177_227.out.symm; replace HO_3 := Aside0.mk (rbl HO_3 hb); replace BK177 := Aside0.mk (blb BK177 hb); replace HB := bst hb; clear hb hbox hg; have hnb72 := NB227_177.out; have hnc72 := NB177_227.out; obtain ⟨C73_0, C73_1, C73_2, C73_3, -⟩ := cells_4 BK227.out trivial; obtain ⟨F73_0, F73_1, F73_2, F73_3, -⟩ := frz_4 BK227.out))
           have n0_ : Aside0 (Kd.R (Kd.int .u8) 5 ((((w71.setCell ⟨gb227, 0, none⟩ (.int .i64 ((rd_T92 l0_5 x8_4).f0))).setCell ⟨gb227, 1, none⟩ (.int .i64 ((rd_T92 l0_5 x8_4).f1))).setCell ⟨gb227, 2, none⟩ (.int .i64 ((rd_T92 l0_5 x8_4).f2.f0))).setCell ⟨gb227, 3, none⟩ (.int .i64 ((rd_T92 l0_5 x8_4).f2.f1))) w.heap.size (fun _ => True) u3 x3_4) := ⟨by (with_reducible repeat (first | apply Kd.R_alloc | apply Kd.R_drewN | apply Kd.R_drew)); exact Kd.R_mono (Kd.R_far (p := ⟨gb227, 3, none⟩) (Kd.R_far (p := ⟨gb227, 2, none⟩) (Kd.R_far (p := ⟨gb227, 1, none⟩) (Kd.R_far (p := ⟨gb227, 0, none⟩) (Kd.R_types HO_3.out BK227.out (by decide)) (fun _ hk => hk.2) (.int .i64 ((rd_T92 l0_5 x8_4).f0))) (fun _ hk => hk.2) (.int .i64 ((rd_T92 l0_5 x8_4).f1))) (fun _ hk => hk.2) (.int .i64 ((rd_T92 l0_5 x8_4).f2.f0))) (fun _ hk => hk.2) (.int .i64 ((rd_T92 l0_5 x8_4).f2.f1))) (fun _ hk => trivial)⟩
           have n1_ : Aside0 (((((w71.setCell ⟨gb227, 0, none⟩ (.int .i64 ((rd_T92 l0_5 x8_4).f0))).setCell ⟨gb227, 1, none⟩ (.int .i64 ((rd_T92 l0_5 x8_4).f1))).setCell ⟨gb227, 2, none⟩ (.int .i64 ((rd_T92 l0_5 x8_4).f2.f0))).setCell ⟨gb227, 3, none⟩ (.int .i64 ((rd_T92 l0_5 x8_4).f2.f1))).heap[gb177]? = some (.cells #[.int .i64 a0_0, .slice A0_1 l0_1.length c0_1, .slice A0_2 l0_2.length c0_2, .int .i64 a0_3, .slice A0_4 l0_4.length c0_4, .slice (some ad226) l0_5.length c0_5] 37 (0, 0))) := ⟨by (with_reducible repeat (first | refine blk_drewN ?_ _ | refine blk_drew ?_ | refine blk_alloc ?_ _)); refine blk_far ?_ NB177_227.out _; (with_reducible repeat (first | refine blk_drewN ?_ _ | refine blk_drew ?_ | refine blk_alloc ?_ _)); refine blk_far ?_ NB177_227.out _; (with_reducible repeat (first | refine blk_drewN ?_ _ | refine blk_drew ?_ | refine blk_alloc ?_ _)); refine blk_far ?_ NB177_227.out _; (with_reducible repeat (first | refine blk_drewN ?_ _ | refine blk_drew ?_ | refine blk_alloc ?_ _)); refine blk_far ?_ NB177_227.out _; (with_reducible repeat (first | refine blk_drewN ?_ _ | refine blk_drew ?_ | refine blk_alloc ?_ _)); exact BK177.out⟩
           have n2_ : Aside0 (((((w71.setCell ⟨gb227, 0, none⟩ (.int .i64 ((rd_T92 l0_5 x8_4).f0))).setCell ⟨gb227, 1, none⟩ (.int .i64 ((rd_T92 l0_5 x8_4).f1))).setCell ⟨gb227, 2, none⟩ (.int .i64 ((rd_T92 l0_5 x8_4).f2.f0))).setCell ⟨gb227, 3, none⟩ (.int .i64 ((rd_T92 l0_5 x8_4).f2.f1))).heap[gb227]? = some (.cells #[.int .i64 ((rd_T92 l0_5 x8_4).f0), .int .i64 ((rd_T92 l0_5 x8_4).f1), .int .i64 ((rd_T92 l0_5 x8_4).f2.f0), .int .i64 ((rd_T92 l0_5 x8_4).f2.f1)] 92 (0, 0))) := ⟨by (with_reducible repeat (first | refine blk_drewN ?_ _ | refine blk_drew ?_ | refine blk_alloc ?_ _)); refine blk_put (cs := #[.int .i64 ((rd_T92 l0_5 x8_4).f0), .int .i64 ((rd_T92 l0_5 x8_4).f1), .int .i64 ((rd_T92 l0_5 x8_4).f2.f0), .int .i64 0]) ?_ 3 _ rfl; (with_reducible repeat (first | refine blk_drewN ?_ _ | refine blk_drew ?_ | refine blk_alloc ?_ _)); refine blk_put (cs := #[.int .i64 ((rd_T92 l0_5 x8_4).f0), .int .i64 ((rd_T92 l0_5 x8_4).f1), .int .i64 0, .int .i64 0]) ?_ 2 _ rfl; (with_reducible repeat (first | refine blk_drewN ?_ _ | refine blk_drew ?_ | refine blk_alloc ?_ _)); refine blk_put (cs := #[.int .i64 ((rd_T92 l0_5 x8_4).f0), .int .i64 0, .int .i64 0, .int .i64 0]) ?_ 1 _ rfl; (with_reducible repeat (first | refine blk_drewN ?_ _ | refine blk_drew ?_ | refine blk_alloc ?_ _)); refine blk_put (cs := #[.int .i64 0, .int .i64 0, .int .i64 0, .int .i64 0]) ?_ 0 _ rfl; (with_reducible repeat (first | refine blk_drewN ?_ _ | refine blk_drew ?_ | refine blk_alloc ?_ _)); exact BK227.out⟩
           have n3_ : Aside0 (Below w.heap.size w ((((w71.setCell ⟨gb227, 0, none⟩ (.int .i64 ((rd_T92 l0_5 x8_4).f0))).setCell ⟨gb227, 1, none⟩ (.int .i64 ((rd_T92 l0_5 x8_4).f1))).setCell ⟨gb227, 2, none⟩ (.int .i64 ((rd_T92 l0_5 x8_4).f2.f0))).setCell ⟨gb227, 3, none⟩ (.int .i64 ((rd_T92 l0_5 x8_4).f2.f1)))) := ⟨bel⟩
           (try clear HO_3)
           (try clear BK177)
           (try clear BK227)
           (try clear HB)
           generalize ((((w71.setCell ⟨gb227, 0, none⟩ (.int .i64 ((rd_T92 l0_5 x8_4).f0))).setCell ⟨gb227, 1, none⟩ (.int .i64 ((rd_T92 l0_5 x8_4).f1))).setCell ⟨gb227, 2, none⟩ (.int .i64 ((rd_T92 l0_5 x8_4).f2.f0))).setCell ⟨gb227, 3, none⟩ (.int .i64 ((rd_T92 l0_5 x8_4).f2.f1))) = w74 at n0_ n1_ n2_ n3_ ⊢
           have HO_3 := n0_
           have BK177 := n1_
           have BK227 := n2_
           have HB := n3_
           clear n0_ n1_ n2_ n3_
           replace HO_3 := Aside0.mk (Kd.R_drew HO_3.out)
           replace BK177 := Aside0.mk (blk_drew BK177.out)
           replace BK227 := Aside0.mk (blk_drew BK227.out)
           replace HB := Aside0.mk (below_drew1 HB.out)
           obtain ⟨Ao76, co76, eo76⟩ := Kd.R_slice HO_3.out
           (first | subst eo76 | (injection eo76 with f1_ f2_ f3_; have f4_ := f1_.symm; have f5_ := f3_.symm; clear f1_ f2_ f3_; subst f4_; subst f5_))
           refine start_ (n := 16) (S := fun w' => w'.cell? ⟨gb227, 0, none⟩ = some (.int .i64 ((rd_T92 l0_5 x8_4).f0)) ∧ w'.cell? ⟨gb227, 1, none⟩ = some (.int .i64 ((rd_T92 l0_5 x8_4).f1)) ∧ w'.cell? ⟨gb227, 2, none⟩ = some (.int .i64 ((rd_T92 l0_5 x8_4).f2.f0)) ∧ w'.cell? ⟨gb227, 3, none⟩ = some (.int .i64 ((rd_T92 l0_5 x8_4).f2.f1))) (ds := []) (tf 0 16) (by kernel_rfl) rfl rfl (cellz_4 BK227.out) (fun hHeld => ?_); refine with_tabW spec_l9bytes.tab22 spec_l9bytes.bits22 (fun HT_ HW_ => ?_)
           generalize w74.drew = w75 at HO_3 BK177 BK227 HB hHeld ⊢
           iterate 2 (refine pvn_ HT_ (h := ?_))
           refine pv_ HT_ 4 (some 120) (tb 16 19) (h := ?_)
           refine pv_ HT_ 7 (some 123) (tb 16 147) (h := ?_)
           refine pv_ HT_ 8 (some 124) (tb 16 403) (h := ?_)
           refine pv_ HT_ 11 (some 127) (tb 16 2451) (h := ?_)
           refine pv_ HT_ 12 (some 128) (tb 16 6547) (h := ?_)
           refine tv_ HT_ HW_ hHeld 2 (some 118) (tb 16 6551) (h := ?_)
           refine tv_ HT_ HW_ hHeld 5 (some 121) (tb 16 6583) (h := ?_)
           refine tv_ HT_ HW_ hHeld 9 (some 125) (tb 16 7095) (h := ?_)
           refine tv_ HT_ HW_ hHeld 13 (some 129) (tb 16 15287) (h := ?_)
           refine one_ (i := 3) (N := some 119) (tb 16 15295) rfl rfl (one_of HT_.out (by kernel_rfl)) (by decide) (fun K hK => ?_)
           refine gs_ Try.func53 #[.slice Ao76 x3_4.length co76, .int .i64 ((rd_T92 l0_5 x8_4).f0)] (h := ?_)
           with_reducible refine (spec_PutNum.calls k4 _ _ x3_4 ((rd_T92 l0_5 x8_4).f0) t228 _ ?side1 ?side2 A66.out).mono ?_
           (case side1 => repeat (first | exact (Kd.R_reads' HO_3.out).2.2 | (with_reducible refine Kd.C_alloc ?_ _) | (with_reducible refine Kd.C_drewN ?_ _) | (with_reducible refine Kd.C_drew ?_)))
           (case side2 => exact (Kd.R_reads' HO_3.out).2.1)
           rintro e w77 ⟨v229, rfl, ho0, hb⟩
           refine ⟨_, rfl, ?_⟩
           have HO230 := Aside0.mk (Kd.R_lower (Kd.R_new' ho0 (Kd.R_lt (rkp HO_3))) (below_size bel))
           replace HO_3 := Aside0.mk (Kd.R_elder' (rkp HO_3) (Kd.R_base ho0) hb)
           replace BK177 := Aside0.mk (blb BK177 hb)
           replace BK227 := Aside0.mk (blb BK227 hb)
           replace HB := bst hb
           (try clear hb)
           (try clear hb2)
           (try clear hk)
           (try clear hi)
           (try clear ho0)
           obtain ⟨Ao78, co78, eo78⟩ := Kd.R_slice HO230.out
           (first | subst eo78 | (injection eo78 with f1_ f2_ f3_; have f4_ := f1_.symm; have f5_ := f3_.symm; clear f1_ f2_ f3_; subst f4_; subst f5_))
           refine hK.out _ _ (cellz_4 BK227.out) (fun hHeld => ?_)
           clear hK K
           refine nrm_ (some 119) (h := ?_)
           refine one_ (i := 6) (N := some 122) (tb 16 15359) rfl rfl (one_of HT_.out (by kernel_rfl)) (by decide) (fun K hK => ?_)
           refine gs_ Try.func53 #[.slice Ao78 t228.length co78, .int .i64 ((rd_T92 l0_5 x8_4).f1)] (h := ?_)
           with_reducible refine (spec_PutNum.calls k4 _ _ t228 ((rd_T92 l0_5 x8_4).f1) t231 _ ?side1 ?side2 A67.out).mono ?_
           (case side1 => repeat (first | exact (Kd.R_reads' HO230.out).2.2 | (with_reducible refine Kd.C_alloc ?_ _) | (with_reducible refine Kd.C_drewN ?_ _) | (with_reducible refine Kd.C_drew ?_)))
           (case side2 => exact (Kd.R_reads' HO230.out).2.1)
           rintro e w79 ⟨v232, rfl, ho0, hb⟩
           refine ⟨_, rfl, ?_⟩
           have HO233 := Aside0.mk (Kd.R_lower (Kd.R_new' (Kd.R_new' ho0 (Kd.R_lt (rkp HO_3))) (Kd.R_lt (rkp HO230))) (below_size bel))
           replace HO_3 := Aside0.mk (Kd.R_elder' (rkp HO_3) (Kd.R_base ho0) hb)
           replace HO230 := Aside0.mk (Kd.R_elder' (rkp HO230) (Kd.R_base ho0) hb)
           replace BK177 := Aside0.mk (blb BK177 hb)
           replace BK227 := Aside0.mk (blb BK227 hb)
           replace HB := bst hb
           (try clear hb)
           (try clear hb2)
           (try clear hk)
           (try clear hi)
           (try clear ho0)
           obtain ⟨Ao80, co80, eo80⟩ := Kd.R_slice HO233.out
           (first | subst eo80 | (injection eo80 with f1_ f2_ f3_; have f4_ := f1_.symm; have f5_ := f3_.symm; clear f1_ f2_ f3_; subst f4_; subst f5_))
           refine hK.out _ _ (cellz_4 BK227.out) (fun hHeld => ?_)
           clear hK K
           refine nrm_ (some 122) (h := ?_)
           refine one_ (i := 10) (N := some 126) (tf 14 2) rfl rfl (one_of HT_.out (by kernel_rfl)) (by decide) (fun K hK => ?_)
           refine gs_ Try.func53 #[.slice Ao80 t231.length co80, .int .i64 ((rd_T92 l0_5 x8_4).f2.f0)] (h := ?_)
           with_reducible refine (spec_PutNum.calls k4 _ _ t231 ((rd_T92 l0_5 x8_4).f2.f0) t234 _ ?side1 ?side2 A68.out).mono ?_
           (case side1 => repeat (first | exact (Kd.R_reads' HO233.out).2.2 | (with_reducible refine Kd.C_alloc ?_ _) | (with_reducible refine Kd.C_drewN ?_ _) | (with_reducible refine Kd.C_drew ?_)))
           (case side2 => exact (Kd.R_reads' HO233.out).2.1)
           rintro e w81 ⟨v235, rfl, ho0, hb⟩
           refine ⟨_, rfl, ?_⟩
           have HO236 := Aside0.mk (Kd.R_lower (Kd.R_new' (Kd.R_new' (Kd.R_new' ho0 (Kd.R_lt (rkp HO_3))) (Kd.R_lt (rkp HO230))) (Kd.R_lt (rkp HO233))) (below_size bel))
           replace HO_3 := Aside0.mk (Kd.R_elder' (rkp HO_3) (Kd.R_base ho0) hb)
           replace HO230 := Aside0.mk (Kd.R_elder' (rkp HO230) (Kd.R_base ho0) hb)
           replace HO233 := Aside0.mk (Kd.R_elder' (rkp HO233) (Kd.R_base ho0) hb)
           replace BK177 := Aside0.mk (blb BK177 hb)
           replace BK227 := Aside0.mk (blb BK227 hb)
           replace HB := bst hb
           (try clear hb)
           (try clear hb2)
           (try clear hk)
           (try clear hi)
           (try clear ho0)
           obtain ⟨Ao82, co82, eo82⟩ := Kd.R_slice HO236.out
           (first | subst eo82 | (injection eo82 with f1_ f2_ f3_; have f4_ := f1_.symm; have f5_ := f3_.symm; clear f1_ f2_ f3_; subst f4_; subst f5_))
           refine hK.out _ _ (cellz_4 BK227.out) (fun hHeld => ?_)
           clear hK K
           refine nrm_ (some 126) (h := ?_)
           refine one_ (i := 14) (N := some 130) (tf 15 1) rfl rfl (one_of HT_.out (by kernel_rfl)) (by decide) (fun K hK => ?_)
           refine gs_ Try.func53 #[.slice Ao82 t234.length co82, .int .i64 ((rd_T92 l0_5 x8_4).f2.f1)] (h := ?_)
           with_reducible refine (spec_PutNum.calls k4 _ _ t234 ((rd_T92 l0_5 x8_4).f2.f1) t237 _ ?side1 ?side2 A69.out).mono ?_
           (case side1 => repeat (first | exact (Kd.R_reads' HO236.out).2.2 | (with_reducible refine Kd.C_alloc ?_ _) | (with_reducible refine Kd.C_drewN ?_ _) | (with_reducible refine Kd.C_drew ?_)))
           (case side2 => exact (Kd.R_reads' HO236.out).2.1)
           rintro e w83 ⟨v238, rfl, ho0, hb⟩
           refine ⟨_, rfl, ?_⟩
           have HO239 := Aside0.mk (Kd.R_lower (Kd.R_new' (Kd.R_new' (Kd.R_new' (Kd.R_new' ho0 (Kd.R_lt (rkp HO_3))) (Kd.R_lt (rkp HO230))) (Kd.R_lt (rkp HO233))) (Kd.R_lt (rkp HO236))) (below_size bel))
           replace HO_3 := Aside0.mk (Kd.R_elder' (rkp HO_3) (Kd.R_base ho0) hb)
           replace HO230 := Aside0.mk (Kd.R_elder' (rkp HO230) (Kd.R_base ho0) hb)
           replace HO233 := Aside0.mk (Kd.R_elder' (rkp HO233) (Kd.R_base ho0) hb)
           replace HO236 := Aside0.mk (Kd.R_elder' (rkp HO236) (Kd.R_base ho0) hb)
           replace BK177 := Aside0.mk (blb BK177 hb)
           replace BK227 := Aside0.mk (blb BK227 hb)
           replace HB := bst hb
           (try clear hb)
           (try clear hb2)
           (try clear hk)
           (try clear hi)
           (try clear ho0)
           refine hK.out _ _ (cellz_4 BK227.out) (fun hHeld => ?_)
           clear hK K
           refine nrm_ (some 130) (h := ?_)
           refine pvn_ HT_ (h := ?_)
           refine done_ (done_of HT_.out (by kernel_rfl)) ?_
           try go_wp2
           go_roundg k4
           case measure => have := HK1.out; have := HK2.out; have := HK3.out; have := HK4.out; omega
           case rel => exact ⟨(t237), (wrap64 (x8_4 + 1)), rs_, H', ⟨by have := HK1.out; have := HK2.out; have := HK3.out; have := HK4.out; omega⟩, ⟨by (with_reducible repeat (first | apply Kd.R_alloc | apply Kd.R_drewN | apply Kd.R_drew)); exact Kd.R_mono HO239.out (fun _ hk => trivial)⟩, ⟨bkp BK177⟩, ⟨bel⟩⟩
          rw [if_neg c65] at H
          exact absurd H (by simp)
         rw [if_neg c64] at H
         have c64b0 : decide (x8_4 < (l0_5.length : Int)) = false := decide_eq_false c64
         clear c64
         obtain rfl := Option.some.inj H
         obtain ⟨C84_0, C84_1, C84_2, C84_3, C84_4, C84_5, -⟩ := cells_6 BK177.out trivial
         obtain ⟨F84_0, F84_1, F84_2, F84_3, F84_4, F84_5, -⟩ := frz_6 BK177.out
         go_wp2
         go_ret
         exact ⟨_, rz_, by (with_reducible repeat (first | apply Kd.R_alloc | apply Kd.R_drewN | apply Kd.R_drew)); exact HO_3.out, bel⟩

end Go.Proofs.Ytmfedjoofnlncaa.PB
