-- Written for this claim by the session's program pp.py, out of the kit's print and the seat's translation.
import Derived.Test.YtmfedjoofnlncaaPBx0
import Derived.Test.YtmfedjoofnlncaaPBx8
import Derived.Test.YtmfedjoofnlncaaPBx9
namespace Go.Proofs.Ytmfedjoofnlncaa.PB
open Go.RowKit Go.Proofs.YtmfedjoofnlncaaW.PrintWords Go.Proofs.YtmfedjoofnlncaaW.PrintLast Go.Proofs.YtmfedjoofnlncaaW.PrintMore
attribute [local go_sem] max2_int min2_int max_two min_two max_three min_three max_four min_four   -- for this text's walks alone
set_option linter.unusedVariables false
set_option linter.unusedSimpArgs false

/-! ### impl_stateBytes: function 30 -/
mutual
def impl_stateBytes.l0 : Nat → List (S70) → Int → Int → Int → List (S70) → List (S85) → Int → List (S88) → List (S92) → List Int → Option (List Int)
 | 0, _, _, _, _, _, _, _, _, _, _ => none
 | k + 1, x25, x26, x27, x384000, x384001, x384002, x384003, x384004, x384005, x385000 => if x27 < x26 then (if 0 ≤ x27 then (if x27 < (x25.length : Int) then ((impl_putText.f k x385000 ((rd_T70 x25 x27).f0)).bind fun t393 => ((impl_putText.f k t393 ((rd_T70 x25 x27).f1)).bind fun t396 => ((virtual_put.f k t396 (([(rd_T70 x25 x27).f2, (rd_T70 x25 x27).f3] : List Int))).bind fun t402 => (impl_stateBytes.l0 k x25 x26 (wrap64 (x27 + 1)) x384000 x384001 x384002 x384003 x384004 x384005 t402)))) else (none)) else (none)) else ((virtual_put.f k x385000 (([(x384002.length : Int)] : List Int))).bind fun t408 => (impl_stateBytes.l1 k x384002 (x384002.length : Int) 0 x384000 x384001 x384002 x384003 x384004 x384005 t408))
def impl_stateBytes.l1 : Nat → List (S85) → Int → Int → Int → List (S70) → List (S85) → Int → List (S88) → List (S92) → List Int → Option (List Int)
 | 0, _, _, _, _, _, _, _, _, _, _ => none
 | k + 1, x53, x54, x55, x384000, x384001, x384002, x384003, x384004, x384005, x385000 => if x55 < x54 then (if 0 ≤ x55 then (if x55 < (x53.length : Int) then ((impl_putText.f k x385000 ((rd_T85 x53 x55).f0)).bind fun t413 => ((virtual_put.f k t413 (([(rd_T85 x53 x55).f1] : List Int))).bind fun t419 => (impl_stateBytes.l1 k x53 x54 (wrap64 (x55 + 1)) x384000 x384001 x384002 x384003 x384004 x384005 t419))) else (none)) else (none)) else ((virtual_put.f k x385000 (([(x384004.length : Int)] : List Int))).bind fun t425 => (impl_stateBytes.l2 k x384004 (x384004.length : Int) 0 x384000 x384001 x384002 x384003 x384004 x384005 t425))
def impl_stateBytes.l2 : Nat → List (S88) → Int → Int → Int → List (S70) → List (S85) → Int → List (S88) → List (S92) → List Int → Option (List Int)
 | 0, _, _, _, _, _, _, _, _, _, _ => none
 | k + 1, x76, x77, x78, x384000, x384001, x384002, x384003, x384004, x384005, x385000 => if x78 < x77 then (if 0 ≤ x78 then (if x78 < (x76.length : Int) then ((impl_truth.f ((rd_T88 x76 x78).f1)).bind fun t430 => ((virtual_put.f k x385000 (([(rd_T88 x76 x78).f0, t430] : List Int))).bind fun t434 => (impl_stateBytes.l2 k x76 x77 (wrap64 (x78 + 1)) x384000 x384001 x384002 x384003 x384004 x384005 t434))) else (none)) else (none)) else ((virtual_put.f k x385000 (([(x384005.length : Int)] : List Int))).bind fun t440 => (impl_stateBytes.l3 k x384005 (x384005.length : Int) 0 t440))
def impl_stateBytes.l3 : Nat → List (S92) → Int → Int → List Int → Option (List Int)
 | 0, _, _, _, _ => none
 | k + 1, x98, x99, x100, x385000 => if x100 < x99 then (if 0 ≤ x100 then (if x100 < (x98.length : Int) then ((virtual_put.f k x385000 (([(rd_T92 x98 x100).f0, (rd_T92 x98 x100).f1, (rd_T92 x98 x100).f2.f0, (rd_T92 x98 x100).f2.f1] : List Int))).bind fun t448 => (impl_stateBytes.l3 k x98 x99 (wrap64 (x100 + 1)) t448)) else (none)) else (none)) else (some x385000)
end
def impl_stateBytes.f (k : Nat) (a0_0 : Int) (l0_1 : List (S70)) (l0_2 : List (S85)) (a0_3 : Int) (l0_4 : List (S88)) (l0_5 : List (S92)) : Option (List Int) := (virtual_put.f k ([] : List Int) (([a0_0, a0_3, (l0_1.length : Int)] : List Int))).bind fun t388 => (impl_stateBytes.l0 k l0_1 (l0_1.length : Int) 0 a0_0 l0_1 l0_2 a0_3 l0_4 l0_5 t388)
def impl_stateBytes.T7 : Bool × List (List Nat × List Nat) := (true, [([], []), ([], []), ([1], [1]), ([0, 2], [0, 2]), ([], []), ([4], [4]), ([3, 5, 3], [3, 5]), ([6, 6, 0, 1, 2, 3, 4, 5, 6], [6])])
def impl_stateBytes.B7 : List Nat := [0, 0, 2, 7, 0, 16, 63, 127]
theorem impl_stateBytes.tab7 : rtab .any (opsOf Try.f30 7) = impl_stateBytes.T7 := by kernel_rfl
theorem impl_stateBytes.bits7 : waitsOk impl_stateBytes.T7.2 impl_stateBytes.B7 = true := by kernel_rfl
def impl_stateBytes.T21 : Bool × List (List Nat × List Nat) := (true, [([], []), ([], []), ([1], [1]), ([], []), ([3], [3]), ([4], [4]), ([2, 5], [2, 5]), ([0, 6, 5], [0, 6])])
def impl_stateBytes.B21 : List Nat := [0, 0, 2, 0, 8, 24, 62, 127]
theorem impl_stateBytes.tab21 : rtab .any (opsOf Try.f30 21) = impl_stateBytes.T21 := by kernel_rfl
theorem impl_stateBytes.bits21 : waitsOk impl_stateBytes.T21.2 impl_stateBytes.B21 = true := by kernel_rfl
set_option maxHeartbeats 8000000 in
set_option maxRecDepth 100000 in
theorem impl_stateBytes.calls (k : Nat) (a0_0 : Int) (A0_1 : Option Addr) (c0_1 : Nat) (l0_1 : List (S70)) (A0_2 : Option Addr) (c0_2 : Nat) (l0_2 : List (S85)) (a0_3 : Int) (A0_4 : Option Addr) (c0_4 : Nat) (l0_4 : List (S88)) (A0_5 : Option Addr) (c0_5 : Nat) (l0_5 : List (S92)) (r : List Int) (w : World) (hr0_1 : Kd.C k70 w A0_1 l0_1.length l0_1) (hc0_1 : l0_1.length ≤ c0_1) (hr0_2 : Kd.C k85 w A0_2 l0_2.length l0_2) (hc0_2 : l0_2.length ≤ c0_2) (hr0_4 : Kd.C k88 w A0_4 l0_4.length l0_4) (hc0_4 : l0_4.length ≤ c0_4) (hr0_5 : Kd.C k92 w A0_5 l0_5.length l0_5) (hc0_5 : l0_5.length ≤ c0_5) (h : impl_stateBytes.f k a0_0 l0_1 l0_2 a0_3 l0_4 l0_5 = some r) :
  Calls Try.prog 30 #[.agg #[.int .i64 a0_0, .slice A0_1 l0_1.length c0_1, .slice A0_2 l0_2.length c0_2, .int .i64 a0_3, .slice A0_4 l0_4.length c0_4, .slice A0_5 l0_5.length c0_5]] w fun e w' => ∃ v0_ : Value, e = .returned (v0_) ∧ Kd.R (Kd.int .u8) 5 w' w.heap.size (fun _ => True) v0_ r ∧ Below w.heap.size w w' := by
 have hu37 := Try.underlying37
 have hu70 := Try.underlying70
 have hu85 := Try.underlying85
 have hu88 := Try.underlying88
 have hu92 := Try.underlying92
 have HR0_1 := Aside0.mk hr0_1
 have HC0_1 := Aside0.mk hc0_1
 clear hr0_1 hc0_1
 have HR0_2 := Aside0.mk hr0_2
 have HC0_2 := Aside0.mk hc0_2
 clear hr0_2 hc0_2
 have HR0_4 := Aside0.mk hr0_4
 have HC0_4 := Aside0.mk hc0_4
 clear hr0_4 hc0_4
 have HR0_5 := Aside0.mk hr0_5
 have HC0_5 := Aside0.mk hc0_5
 clear hr0_5 hc0_5
 have HB := Aside0.mk (Below.refl w.heap.size w)
 have H : ((virtual_put.f k ([] : List Int) (([a0_0, a0_3, (l0_1.length : Int)] : List Int))).bind fun t388 => (impl_stateBytes.l0 k l0_1 (l0_1.length : Int) 0 a0_0 l0_1 l0_2 a0_3 l0_4 l0_5 t388)) = some r := h
 clear h
 obtain ⟨y385, hy385⟩ : ∃ y_ : List Int, y_ = (([a0_0, a0_3, (l0_1.length : Int)] : List Int)) := ⟨_, rfl⟩
 replace H : ((virtual_put.f k ([] : List Int) y385).bind fun t388 => (impl_stateBytes.l0 k l0_1 (l0_1.length : Int) 0 a0_0 l0_1 l0_2 a0_3 l0_4 l0_5 t388)) = some r := by first | (rw [hy385]; with_reducible exact H) | (have H2_ := (Option.bind_some _ _).symm.trans H; rw [hy385]; with_reducible exact H2_) | (have H2_ := (Option.bind_some _ _).symm.trans H; with_reducible exact H2_) | with_reducible exact H | (rw [hy385]; exact H) | exact H
 have Ny385 := Aside0.mk hy385
 clear hy385
 replace H := Option.bind_eq_some_iff.mp H
 obtain ⟨t388, A20, H⟩ := H
 replace H : (impl_stateBytes.l0 k l0_1 (l0_1.length : Int) 0 a0_0 l0_1 l0_2 a0_3 l0_4 l0_5 t388) = some r := H
 have A2 := Aside0.mk A20
 clear A20
 have H' := Aside0.mk H
 clear H
 go_enter Try.func30, Try.ntmps30
 go_wp2_with (first | ((with_reducible refine gate_dst (N := 1) rfl ?_); refine bx_ 1 #[.int .i64 a0_0, .slice A0_1 l0_1.length c0_1, .slice A0_2 l0_2.length c0_2, .int .i64 a0_3, .slice A0_4 l0_4.length c0_4, .slice A0_5 l0_5.length c0_5] 37 (h := ?_); intro gb383 hg w3 hbox hb; have BK383 := Aside0.mk (hbox); have GW383 := Aside0.mk ((by rw [hg]; exact (below_size bel) : w.heap.size ≤ gb383)); have GE383 := GW383; replace HB := bst hb; clear hb hbox hg) | ((with_reducible refine gate_dst (N := 3) rfl ?_); refine bx_ 3 #[.slice none 0 0] 29 (h := ?_); intro gb384 hg w4 hbox hb; have BK384 := Aside0.mk (hbox); have GW384 := Aside0.mk ((by rw [hg]; exact (below_size bel) : w.heap.size ≤ gb384)); have GE384 := GW384; have NB383_384 := Aside0.mk ((by rw [hg]; exact Nat.ne_of_lt (blt BK383) : gb383 ≠ gb384)); have NB384_383 := Aside0.mk NB383_384.out.symm; replace BK383 := Aside0.mk (blb BK383 hb); replace HB := bst hb; clear hb hbox hg; have hnb5 := NB383_384.out; have hnc5 := NB384_383.out; obtain ⟨C6_0, C6_1, C6_2, C6_3, C6_4, C6_5, -⟩ := cells_6 BK383.out trivial; obtain ⟨F6_0, F6_1, F6_2, F6_3, F6_4, F6_5, -⟩ := frz_6 BK383.out) | ((with_reducible refine gate_dst (N := 22) rfl ?_); refine Kd.R_lit (Kd.int .i64) _ 3 ?hg (N := 22) ?hd (xs := ([a0_0, a0_3, (l0_1.length : Int)] : List Int)) (inner := [.int .i64 a0_0, .int .i64 a0_3, .int .i64 (l0_1.length : Int)]) (ok := fun _ => True) (okp := fun _ => True) ?hr ?hp (fun _ hk => hk) trivial (Below.refl _ _) (Nat.le_refl _) (by simp) ?_; (case hd => rfl); (case hg => rfl); (case hr => first | (go_simp; done) | (go_simp; rfl)); (case hp => exact (Reps.one (show Kd.M (Kd.int .i64) _ _ _ a0_0 [.int .i64 a0_0] from rfl) (Reps.one (show Kd.M (Kd.int .i64) _ _ _ a0_3 [.int .i64 a0_3] from rfl) (Reps.one (show Kd.M (Kd.int .i64) _ _ _ (l0_1.length : Int) [.int .i64 (l0_1.length : Int)] from rfl) (Reps.none _ _))))); intro v386 w7 ho8 hb hg_ hnew_; clear hg_ hnew_; (first | rw [← Ny385.out] at ho8 | (simp only [Int.reduceToNat] at ho8; rw [← Ny385.out] at ho8)); have HO387 := Aside0.mk (Kd.R_lower ho8 (below_size bel)); replace BK383 := Aside0.mk (blb BK383 hb); replace BK384 := Aside0.mk (blb BK384 hb); replace HB := bst hb; clear hb ho8; have C9_0 : w7.cell? ⟨gb384, 0, none⟩ = some (.slice none 0 0) := (blk_cell BK384.out 0).trans rfl; have F9_0 := blk_frozen BK384.out 0; obtain ⟨Ao10, co10, eo10⟩ := Kd.R_slice HO387.out; subst eo10) | ((with_reducible refine gate_dst (N := 23) rfl ?_); refine virtual_put.glc_ (some 23) Try.func67 #[.slice Ao10 y385.length co10, .pointer (some ⟨gb384, 0, none⟩)] (c := .pointer (some ⟨gb384, 0, none⟩)) (h := ?_); (refine (virtual_put.calls k (.slice none 0 0) ([] : List Int) _ _ y385 t388 w _ gb384 (bkp BK384) GE384.out ?side1 ?side2 ?side3 ?side4 (by rw [Ny385.out]; simp) A2.out).mono ?_); (case side1 => repeat (first | (with_reducible first | exact HB.out | apply below_alloc | apply pw_below_drewN | apply below_drew1 | refine below_set ?_ GE383.out | refine below_set ?_ GE384.out) | exact HB.out)); (case side2 => exact Kd.R_nil _ _ _ _ _); (case side3 => exact Kd.C_kept_own (HO387.out) (fun k_ hk_ hs_ => (fun e_ => by simp [Value.ownBlock] at e_) hs_)); (case side4 => exact (Kd.R_reads' HO387.out).2.1); rintro e _ ⟨w11, v389, rfl, rfl, ho0, hb, hkp⟩; refine ⟨_, rfl, ?_⟩; have HO390 := Aside0.mk (Kd.R_mono (ok' := fun k_ => True) ho0 (fun k_ hk_ => trivial)); replace BK383 := Aside0.mk (blk_kept (bkp BK383) hkp (fun hs_ => (fun e_ => by simp [Value.ownBlock] at e_) hs_)); replace BK384 := Aside0.mk (blk_kept (bkp BK384) hkp (fun hs_ => (fun e_ => by simp [Value.ownBlock] at e_) hs_)); replace HO387 := Aside0.mk (Kd.R_mono (ok' := fun k_ => True) (Kd.R_keptB (HO387.out) hkp (fun k_ hk_ hs_ => (fun e_ => by simp [Value.ownBlock] at e_) hs_)) (fun k_ hk_ => trivial)); replace HB := Aside0.mk (hb); (try clear hb); (try clear hkp); (try clear ho0); obtain ⟨Ao12, co12, eo12⟩ := Kd.R_slice HO390.out; subst eo12; have C13_0 : w11.cell? ⟨gb384, 0, none⟩ = some (.slice none 0 0) := (blk_cell BK384.out 0).trans rfl; have F13_0 := blk_frozen BK384.out 0; obtain ⟨C14_0, C14_1, C14_2, C14_3, C14_4, C14_5, -⟩ := cells_6 BK383.out trivial; obtain ⟨F14_0, F14_1, F14_2, F14_3, F14_4, F14_5, -⟩ := frz_6 BK383.out))
 go_loopg [27] k (fun kq v27 w' => ∃ (x27_1 : Int) (x385000_1 : List Int) (u385000 : Value), v27 = .int .i64 x27_1 ∧ Aside0 (impl_stateBytes.l0 kq l0_1 (l0_1.length : Int) x27_1 a0_0 l0_1 l0_2 a0_3 l0_4 l0_5 x385000_1 = some r) ∧ Aside0 (kq ≤ k) ∧ Aside0 (Kd.R (Kd.int .u8) 5 w' w.heap.size (fun _ => True) u385000 x385000_1) ∧ Aside0 (w'.heap[gb383]? = some (.cells #[.int .i64 a0_0, (.slice A0_1 l0_1.length c0_1), (.slice A0_2 l0_2.length c0_2), .int .i64 a0_3, (.slice A0_4 l0_4.length c0_4), (.slice A0_5 l0_5.length c0_5)] 37 (0, 0))) ∧ Aside0 (w'.heap[gb384]? = some (.cells #[u385000] 29 (0, 0))) ∧ Aside0 (Below w.heap.size w w'))
 case atStart => exact ⟨(0), (t388), (.slice Ao12 t388.length co12), rs_, H', ⟨Nat.le_refl _⟩, ⟨by (with_reducible repeat (first | apply Kd.R_alloc | apply Kd.R_drewN | apply Kd.R_drew)); exact Kd.R_mono (Kd.R_far (p := ⟨gb384, 0, none⟩) (Kd.R_types HO390.out BK384.out (by decide)) (fun _ hk => hk.2) (.slice Ao12 t388.length co12)) (fun _ hk => trivial)⟩, ⟨by (with_reducible repeat (first | refine blk_drewN ?_ _ | refine blk_drew ?_ | refine blk_alloc ?_ _)); refine blk_far ?_ NB383_384.out _; (with_reducible repeat (first | refine blk_drewN ?_ _ | refine blk_drew ?_ | refine blk_alloc ?_ _)); exact BK383.out⟩, ⟨by (with_reducible repeat (first | refine blk_drewN ?_ _ | refine blk_drew ?_ | refine blk_alloc ?_ _)); refine blk_put (cs := #[.slice none 0 0]) ?_ 0 _ rfl; (with_reducible repeat (first | refine blk_drewN ?_ _ | refine blk_drew ?_ | refine blk_alloc ?_ _)); exact BK384.out⟩, ⟨bel⟩⟩
 case round =>
  clear H'
  try clear c1; try clear p2; try clear c3; try clear c5; try clear c10; try clear C13_0; try clear C14_0 C14_1 C14_2 C14_3 C14_4 C14_5; try clear C6_0 C6_1 C6_2 C6_3 C6_4 C6_5; try clear C9_0; try clear F13_0; try clear F14_0 F14_1 F14_2 F14_3 F14_4 F14_5; try clear F6_0 F6_1 F6_2 F6_3 F6_4 F6_5; try clear F9_0
  obtain ⟨x27_1, x385000_1, u385000, rfl, HA, HK1, HO_385000, BK383, BK384, HB⟩ := hrel
  cases gk with
  | zero => exact absurd HA.out (by simp [impl_stateBytes.l0])
  | succ k1 =>
   have H := HA.out
   clear HA
   simp only [impl_stateBytes.l0] at H
   by_cases c15 : x27_1 < (l0_1.length : Int)
   ·rw [if_pos c15] at H
    have c15b0 : decide (x27_1 < (l0_1.length : Int)) = true := decide_eq_true c15
    clear c15
    by_cases c16 : 0 ≤ x27_1
    ·rw [if_pos c16] at H
     have c16b0 : decide (0 ≤ x27_1) = true := decide_eq_true c16
     clear c16
     by_cases c17 : x27_1 < (l0_1.length : Int)
     ·rw [if_pos c17] at H
      have c17b0 : decide (x27_1 < (l0_1.length : Int)) = true := decide_eq_true c17
      clear c17
      replace H := Option.bind_eq_some_iff.mp H
      obtain ⟨t393, A180, H⟩ := H
      replace H : ((impl_putText.f k1 t393 ((rd_T70 l0_1 x27_1).f1)).bind fun t396 => ((virtual_put.f k1 t396 (([(rd_T70 l0_1 x27_1).f2, (rd_T70 l0_1 x27_1).f3] : List Int))).bind fun t402 => (impl_stateBytes.l0 k1 l0_1 (l0_1.length : Int) (wrap64 (x27_1 + 1)) a0_0 l0_1 l0_2 a0_3 l0_4 l0_5 t402))) = some r := H
      have A18 := Aside0.mk A180
      clear A180
      replace H := Option.bind_eq_some_iff.mp H
      obtain ⟨t396, A190, H⟩ := H
      replace H : ((virtual_put.f k1 t396 (([(rd_T70 l0_1 x27_1).f2, (rd_T70 l0_1 x27_1).f3] : List Int))).bind fun t402 => (impl_stateBytes.l0 k1 l0_1 (l0_1.length : Int) (wrap64 (x27_1 + 1)) a0_0 l0_1 l0_2 a0_3 l0_4 l0_5 t402)) = some r := H
      have A19 := Aside0.mk A190
      clear A190
      obtain ⟨y399, hy399⟩ : ∃ y_ : List Int, y_ = (([(rd_T70 l0_1 x27_1).f2, (rd_T70 l0_1 x27_1).f3] : List Int)) := ⟨_, rfl⟩
      replace H : ((virtual_put.f k1 t396 y399).bind fun t402 => (impl_stateBytes.l0 k1 l0_1 (l0_1.length : Int) (wrap64 (x27_1 + 1)) a0_0 l0_1 l0_2 a0_3 l0_4 l0_5 t402)) = some r := by first | (rw [hy399]; with_reducible exact H) | (have H2_ := (Option.bind_some _ _).symm.trans H; rw [hy399]; with_reducible exact H2_) | (have H2_ := (Option.bind_some _ _).symm.trans H; with_reducible exact H2_) | with_reducible exact H | (rw [hy399]; exact H) | exact H
      have Ny399 := Aside0.mk hy399
      clear hy399
      replace H := Option.bind_eq_some_iff.mp H
      obtain ⟨t402, A200, H⟩ := H
      replace H : (impl_stateBytes.l0 k1 l0_1 (l0_1.length : Int) (wrap64 (x27_1 + 1)) a0_0 l0_1 l0_2 a0_3 l0_4 l0_5 t402) = some r := H
      have A20 := Aside0.mk A200
      clear A200
      have H' := Aside0.mk H
      clear H
      have p391 : 0 ≤ (x27_1 : Int) := od
      have q391 : x27_1 < (l0_1.length : Int) := od
      obtain ⟨ad391, A391_0, c391_0, A391_1, c391_1, e391, hx391_0, hx391_1, hx391_2, hx391_3, hl391_0, hi391_0, hl391_1, hi391_1⟩ := at_T70 HR0_1.out x27_1 p391 q391
      cases e391
      replace hx391_0 := hxb HB hx391_0
      replace hx391_1 := hxb HB hx391_1
      replace hx391_2 := hxb HB hx391_2
      replace hx391_3 := hxb HB hx391_3
      have HR391_0 := Aside0.mk hi391_0
      have HC391_0 := Aside0.mk hl391_0
      clear hi391_0 hl391_0
      have HR391_1 := Aside0.mk hi391_1
      have HC391_1 := Aside0.mk hl391_1
      clear hi391_1 hl391_1
      replace p391 := eq_true p391
      replace q391 := eq_true q391
      try go_wp2_with (first | ((with_reducible refine gate_dst (N := 6) rfl ?_); refine bx_ 6 #[.slice none 0 0, .slice none 0 0, .int .i64 0, .int .i64 0] 70 (h := ?_); intro gb392 hg w21 hbox hb; have BK392 := Aside0.mk (hbox); have GW392 := Aside0.mk ((by rw [hg]; exact (below_size bel) : w.heap.size ≤ gb392)); have GE392 := GW392; have NB383_392 := Aside0.mk ((by rw [hg]; exact Nat.ne_of_lt (blt BK383) : gb383 ≠ gb392)); have NB392_383 := Aside0.mk NB383_392.out.symm; have NB384_392 := Aside0.mk ((by rw [hg]; exact Nat.ne_of_lt (blt BK384) : gb384 ≠ gb392)); have NB392_384 := Aside0.mk NB384_392.out.symm; replace HO_385000 := Aside0.mk (rbl HO_385000 hb); replace BK383 := Aside0.mk (blb BK383 hb); replace BK384 := Aside0.mk (blb BK384 hb); replace HB := bst hb; clear hb hbox hg; have hnb22 := NB392_383.out; have hnc22 := NB383_392.out; have hnb23 := NB392_384.out; have hnc23 := NB384_392.out; obtain ⟨C24_0, C24_1, C24_2, C24_3, -⟩ := cells_4 BK392.out trivial; obtain ⟨F24_0, F24_1, F24_2, F24_3, -⟩ := frz_4 BK392.out))
      have n0_ : Aside0 (Kd.R (Kd.int .u8) 5 ((((w21.setCell ⟨gb392, 0, none⟩ (.slice A391_0 ((rd_T70 l0_1 x27_1).f0).length c391_0)).setCell ⟨gb392, 1, none⟩ (.slice A391_1 ((rd_T70 l0_1 x27_1).f1).length c391_1)).setCell ⟨gb392, 2, none⟩ (.int .i64 ((rd_T70 l0_1 x27_1).f2))).setCell ⟨gb392, 3, none⟩ (.int .i64 ((rd_T70 l0_1 x27_1).f3))) w.heap.size (fun _ => True) u385000 x385000_1) := ⟨by (with_reducible repeat (first | apply Kd.R_alloc | apply Kd.R_drewN | apply Kd.R_drew)); exact Kd.R_mono (Kd.R_far (p := ⟨gb392, 3, none⟩) (Kd.R_far (p := ⟨gb392, 2, none⟩) (Kd.R_far (p := ⟨gb392, 1, none⟩) (Kd.R_far (p := ⟨gb392, 0, none⟩) (Kd.R_types HO_385000.out BK392.out (by decide)) (fun _ hk => hk.2) (.slice A391_0 ((rd_T70 l0_1 x27_1).f0).length c391_0)) (fun _ hk => hk.2) (.slice A391_1 ((rd_T70 l0_1 x27_1).f1).length c391_1)) (fun _ hk => hk.2) (.int .i64 ((rd_T70 l0_1 x27_1).f2))) (fun _ hk => hk.2) (.int .i64 ((rd_T70 l0_1 x27_1).f3))) (fun _ hk => trivial)⟩
      have n1_ : Aside0 (((((w21.setCell ⟨gb392, 0, none⟩ (.slice A391_0 ((rd_T70 l0_1 x27_1).f0).length c391_0)).setCell ⟨gb392, 1, none⟩ (.slice A391_1 ((rd_T70 l0_1 x27_1).f1).length c391_1)).setCell ⟨gb392, 2, none⟩ (.int .i64 ((rd_T70 l0_1 x27_1).f2))).setCell ⟨gb392, 3, none⟩ (.int .i64 ((rd_T70 l0_1 x27_1).f3))).heap[gb383]? = some (.cells #[.int .i64 a0_0, .slice (some ad391) l0_1.length c0_1, .slice A0_2 l0_2.length c0_2, .int .i64 a0_3, .slice A0_4 l0_4.length c0_4, .slice A0_5 l0_5.length c0_5] 37 (0, 0))) := ⟨by (with_reducible repeat (first | refine blk_drewN ?_ _ | refine blk_drew ?_ | refine blk_alloc ?_ _)); refine blk_far ?_ NB383_392.out _; (with_reducible repeat (first | refine blk_drewN ?_ _ | refine blk_drew ?_ | refine blk_alloc ?_ _)); refine blk_far ?_ NB383_392.out _; (with_reducible repeat (first | refine blk_drewN ?_ _ | refine blk_drew ?_ | refine blk_alloc ?_ _)); refine blk_far ?_ NB383_392.out _; (with_reducible repeat (first | refine blk_drewN ?_ _ | refine blk_drew ?_ | refine blk_alloc ?_ _)); refine blk_far ?_ NB383_392.out _; (with_reducible repeat (first | refine blk_drewN ?_ _ | refine blk_drew ?_ | refine blk_alloc ?_ _)); exact BK383.out⟩
      have n2_ : Aside0 (((((w21.setCell ⟨gb392, 0, none⟩ (.slice A391_0 ((rd_T70 l0_1 x27_1).f0).length c391_0)).setCell ⟨gb392, 1, none⟩ (.slice A391_1 ((rd_T70 l0_1 x27_1).f1).length c391_1)).setCell ⟨gb392, 2, none⟩ (.int .i64 ((rd_T70 l0_1 x27_1).f2))).setCell ⟨gb392, 3, none⟩ (.int .i64 ((rd_T70 l0_1 x27_1).f3))).heap[gb384]? = some (.cells #[u385000] 29 (0, 0))) := ⟨by (with_reducible repeat (first | refine blk_drewN ?_ _ | refine blk_drew ?_ | refine blk_alloc ?_ _)); refine blk_far ?_ NB384_392.out _; (with_reducible repeat (first | refine blk_drewN ?_ _ | refine blk_drew ?_ | refine blk_alloc ?_ _)); refine blk_far ?_ NB384_392.out _; (with_reducible repeat (first | refine blk_drewN ?_ _ | refine blk_drew ?_ | refine blk_alloc ?_ _)); refine blk_far ?_ NB384_392.out _; (with_reducible repeat (first | refine blk_drewN ?_ _ | refine blk_drew ?_ | refine blk_alloc ?_ _)); refine blk_far ?_ NB384_392.out _; (with_reducible repeat (first | refine blk_drewN ?_ _ | refine blk_drew ?_ | refine blk_alloc ?_ _)); exact BK384.out⟩
      have n3_ : Aside0 (((((w21.setCell ⟨gb392, 0, none⟩ (.slice A391_0 ((rd_T70 l0_1 x27_1).f0).length c391_0)).setCell ⟨gb392, 1, none⟩ (.slice A391_1 ((rd_T70 l0_1 x27_1).f1).length c391_1)).setCell ⟨gb392, 2, none⟩ (.int .i64 ((rd_T70 l0_1 x27_1).f2))).setCell ⟨gb392, 3, none⟩ (.int .i64 ((rd_T70 l0_1 x27_1).f3))).heap[gb392]? = some (.cells #[.slice A391_0 ((rd_T70 l0_1 x27_1).f0).length c391_0, .slice A391_1 ((rd_T70 l0_1 x27_1).f1).length c391_1, .int .i64 ((rd_T70 l0_1 x27_1).f2), .int .i64 ((rd_T70 l0_1 x27_1).f3)] 70 (0, 0))) := ⟨by (with_reducible repeat (first | refine blk_drewN ?_ _ | refine blk_drew ?_ | refine blk_alloc ?_ _)); refine blk_put (cs := #[.slice A391_0 ((rd_T70 l0_1 x27_1).f0).length c391_0, .slice A391_1 ((rd_T70 l0_1 x27_1).f1).length c391_1, .int .i64 ((rd_T70 l0_1 x27_1).f2), .int .i64 0]) ?_ 3 _ rfl; (with_reducible repeat (first | refine blk_drewN ?_ _ | refine blk_drew ?_ | refine blk_alloc ?_ _)); refine blk_put (cs := #[.slice A391_0 ((rd_T70 l0_1 x27_1).f0).length c391_0, .slice A391_1 ((rd_T70 l0_1 x27_1).f1).length c391_1, .int .i64 0, .int .i64 0]) ?_ 2 _ rfl; (with_reducible repeat (first | refine blk_drewN ?_ _ | refine blk_drew ?_ | refine blk_alloc ?_ _)); refine blk_put (cs := #[.slice A391_0 ((rd_T70 l0_1 x27_1).f0).length c391_0, .slice none 0 0, .int .i64 0, .int .i64 0]) ?_ 1 _ rfl; (with_reducible repeat (first | refine blk_drewN ?_ _ | refine blk_drew ?_ | refine blk_alloc ?_ _)); refine blk_put (cs := #[.slice none 0 0, .slice none 0 0, .int .i64 0, .int .i64 0]) ?_ 0 _ rfl; (with_reducible repeat (first | refine blk_drewN ?_ _ | refine blk_drew ?_ | refine blk_alloc ?_ _)); exact BK392.out⟩
      have n4_ : Aside0 (Below w.heap.size w ((((w21.setCell ⟨gb392, 0, none⟩ (.slice A391_0 ((rd_T70 l0_1 x27_1).f0).length c391_0)).setCell ⟨gb392, 1, none⟩ (.slice A391_1 ((rd_T70 l0_1 x27_1).f1).length c391_1)).setCell ⟨gb392, 2, none⟩ (.int .i64 ((rd_T70 l0_1 x27_1).f2))).setCell ⟨gb392, 3, none⟩ (.int .i64 ((rd_T70 l0_1 x27_1).f3)))) := ⟨bel⟩
      (try clear HO_385000)
      (try clear BK383)
      (try clear BK384)
      (try clear BK392)
      (try clear HB)
      generalize ((((w21.setCell ⟨gb392, 0, none⟩ (.slice A391_0 ((rd_T70 l0_1 x27_1).f0).length c391_0)).setCell ⟨gb392, 1, none⟩ (.slice A391_1 ((rd_T70 l0_1 x27_1).f1).length c391_1)).setCell ⟨gb392, 2, none⟩ (.int .i64 ((rd_T70 l0_1 x27_1).f2))).setCell ⟨gb392, 3, none⟩ (.int .i64 ((rd_T70 l0_1 x27_1).f3))) = w25 at n0_ n1_ n2_ n3_ n4_ ⊢
      have HO_385000 := n0_
      have BK383 := n1_
      have BK384 := n2_
      have BK392 := n3_
      have HB := n4_
      clear n0_ n1_ n2_ n3_ n4_
      replace HO_385000 := Aside0.mk (Kd.R_drew HO_385000.out)
      replace BK383 := Aside0.mk (blk_drew BK383.out)
      replace BK384 := Aside0.mk (blk_drew BK384.out)
      replace BK392 := Aside0.mk (blk_drew BK392.out)
      replace HB := Aside0.mk (below_drew1 HB.out)
      obtain ⟨Ao27, co27, eo27⟩ := Kd.R_slice HO_385000.out
      (first | subst eo27 | (injection eo27 with f1_ f2_ f3_; have f4_ := f1_.symm; have f5_ := f3_.symm; clear f1_ f2_ f3_; subst f4_; subst f5_))
      refine start_ (n := 8) (S := fun w' => w'.cell? ⟨gb384, 0, none⟩ = some (.slice Ao27 x385000_1.length co27) ∧ w'.cell? ⟨gb392, 0, none⟩ = some (.slice A391_0 ((rd_T70 l0_1 x27_1).f0).length c391_0) ∧ w'.cell? ⟨gb392, 1, none⟩ = some (.slice A391_1 ((rd_T70 l0_1 x27_1).f1).length c391_1) ∧ w'.cell? ⟨gb392, 2, none⟩ = some (.int .i64 ((rd_T70 l0_1 x27_1).f2)) ∧ w'.cell? ⟨gb392, 3, none⟩ = some (.int .i64 ((rd_T70 l0_1 x27_1).f3))) (ds := [7]) (tf 0 8) (by kernel_rfl) rfl rfl ⟨(blk_cell BK384.out 0).trans rfl, (blk_cell BK392.out 0).trans rfl, (blk_cell BK392.out 1).trans rfl, (blk_cell BK392.out 2).trans rfl, (blk_cell BK392.out 3).trans rfl⟩ (fun hHeld => ?_); refine with_tabW impl_stateBytes.tab7 impl_stateBytes.bits7 (fun HT_ HW_ => ?_)
      generalize w25.drew = w26 at HO_385000 BK383 BK384 BK392 HB hHeld ⊢
      refine pv_ HT_ 1 (some 32) (tb 8 2) (h := ?_)
      refine pv_ HT_ 4 (some 35) (tb 8 18) (h := ?_)
      refine tv_ HT_ HW_ hHeld 0 (some 31) (tb 8 19) (h := ?_)
      refine tv_ HT_ HW_ hHeld 2 (some 33) (tb 8 23) (h := ?_)
      refine tv_ HT_ HW_ hHeld 5 (some 36) (tb 8 55) (h := ?_)
      refine one_ (i := 3) (N := some 34) (tf 6 2) rfl rfl (one_of HT_.out (by kernel_rfl)) (by decide) (fun K hK => ?_)
      refine gs_ Try.func69 #[.slice Ao27 x385000_1.length co27, .slice A391_0 ((rd_T70 l0_1 x27_1).f0).length c391_0] (h := ?_)
      with_reducible refine (impl_putText.calls k1 (fun k_ => some k_ = (.slice Ao27 x385000_1.length co27 : Value).ownBlock) (.slice Ao27 x385000_1.length co27) x385000_1 _ _ ((rd_T70 l0_1 x27_1).f0) t393 w _ ?side1 ?side2 ?side3 ?side4 A18.out).mono ?_
      (case side1 => repeat (first | (with_reducible first | exact HB.out | apply below_alloc | apply pw_below_drewN | apply below_drew1 | refine below_set ?_ GE383.out | refine below_set ?_ GE384.out | refine below_set ?_ GE392.out) | exact HB.out))
      (case side2 => exact Kd.R_tight rfl HO_385000.out)
      (case side3 => exact Kd.C_kept_came (Kd.heap_int .u8) HR391_0.out bel (fun k_ hs_ => (fun e_ => Kd.R_base HO_385000.out k_ e_.symm) hs_))
      (case side4 => exact HC391_0.out)
      rintro e w28 ⟨v394, rfl, ho0, hb, hkp⟩
      refine ⟨_, rfl, ?_⟩
      have n0_ := Aside0.mk (blk_kept (bkp BK383) hkp (fun hs_ => (fun e_ => (Kd.R_ne HO_385000.out BK383.out (by decide)) e_) hs_))
      have n1_ := Aside0.mk (blk_kept (bkp BK384) hkp (fun hs_ => (fun e_ => (Kd.R_ne HO_385000.out BK384.out (by decide)) e_) hs_))
      have n2_ := Aside0.mk (blk_kept (bkp BK392) hkp (fun hs_ => (fun e_ => (Kd.R_ne HO_385000.out BK392.out (by decide)) e_) hs_))
      have n3_ := Aside0.mk (Kd.R_mono (ok' := fun k_ => True) ho0 (fun k_ hk_ => trivial))
      have n4_ := Aside0.mk (hb)
      clear BK383
      clear BK384
      clear BK392
      clear HB
      clear HO_385000
      have BK383 := n0_
      have BK384 := n1_
      have BK392 := n2_
      have HO395 := n3_
      have HB := n4_
      clear n0_ n1_ n2_ n3_ n4_
      (try clear hb)
      (try clear hkp)
      (try clear ho0)
      obtain ⟨Ao29, co29, eo29⟩ := Kd.R_slice HO395.out
      (first | subst eo29 | (injection eo29 with f1_ f2_ f3_; have f4_ := f1_.symm; have f5_ := f3_.symm; clear f1_ f2_ f3_; subst f4_; subst f5_))
      refine hK.out _ _ ⟨(blk_cell BK384.out 0).trans rfl, (blk_cell BK392.out 0).trans rfl, (blk_cell BK392.out 1).trans rfl, (blk_cell BK392.out 2).trans rfl, (blk_cell BK392.out 3).trans rfl⟩ (fun hHeld => ?_)
      clear hK K
      refine nrm_ (some 34) (h := ?_)
      refine one_ (i := 6) (N := some 37) (tf 7 1) rfl rfl (one_of HT_.out (by kernel_rfl)) (by decide) (fun K hK => ?_)
      refine gs_ Try.func69 #[.slice Ao29 t393.length co29, .slice A391_1 ((rd_T70 l0_1 x27_1).f1).length c391_1] (h := ?_)
      with_reducible refine (impl_putText.calls k1 (fun k_ => some k_ = (.slice Ao29 t393.length co29 : Value).ownBlock) (.slice Ao29 t393.length co29) t393 _ _ ((rd_T70 l0_1 x27_1).f1) t396 w _ ?side1 ?side2 ?side3 ?side4 A19.out).mono ?_
      (case side1 => repeat (first | (with_reducible first | exact HB.out | apply below_alloc | apply pw_below_drewN | apply below_drew1 | refine below_set ?_ GE383.out | refine below_set ?_ GE384.out | refine below_set ?_ GE392.out) | exact HB.out))
      (case side2 => exact Kd.R_tight rfl HO395.out)
      (case side3 => exact Kd.C_kept_came (Kd.heap_int .u8) HR391_1.out bel (fun k_ hs_ => (fun e_ => Kd.R_base HO395.out k_ e_.symm) hs_))
      (case side4 => exact HC391_1.out)
      rintro e w30 ⟨v397, rfl, ho0, hb, hkp⟩
      refine ⟨_, rfl, ?_⟩
      have n0_ := Aside0.mk (blk_kept (bkp BK383) hkp (fun hs_ => (fun e_ => (Kd.R_ne HO395.out BK383.out (by decide)) e_) hs_))
      have n1_ := Aside0.mk (blk_kept (bkp BK384) hkp (fun hs_ => (fun e_ => (Kd.R_ne HO395.out BK384.out (by decide)) e_) hs_))
      have n2_ := Aside0.mk (blk_kept (bkp BK392) hkp (fun hs_ => (fun e_ => (Kd.R_ne HO395.out BK392.out (by decide)) e_) hs_))
      have n3_ := Aside0.mk (Kd.R_mono (ok' := fun k_ => True) ho0 (fun k_ hk_ => trivial))
      have n4_ := Aside0.mk (hb)
      clear BK383
      clear BK384
      clear BK392
      clear HB
      clear HO395
      have BK383 := n0_
      have BK384 := n1_
      have BK392 := n2_
      have HO398 := n3_
      have HB := n4_
      clear n0_ n1_ n2_ n3_ n4_
      (try clear hb)
      (try clear hkp)
      (try clear ho0)
      obtain ⟨Ao31, co31, eo31⟩ := Kd.R_slice HO398.out
      (first | subst eo31 | (injection eo31 with f1_ f2_ f3_; have f4_ := f1_.symm; have f5_ := f3_.symm; clear f1_ f2_ f3_; subst f4_; subst f5_))
      refine hK.out _ _ ⟨(blk_cell BK384.out 0).trans rfl, (blk_cell BK392.out 0).trans rfl, (blk_cell BK392.out 1).trans rfl, (blk_cell BK392.out 2).trans rfl, (blk_cell BK392.out 3).trans rfl⟩ (fun hHeld => ?_)
      clear hK K
      refine nrm_ (some 37) (h := ?_)
      refine last_ (i := 7) (N := none) (tf 8 0) rfl rfl (one_of HT_.out (by kernel_rfl)) (by decide) (fun K hK => ?_)
      have hs32 : w30.cell? ⟨gb384, 0, none⟩ = some (.slice Ao27 x385000_1.length co27) := (blk_cell BK384.out 0).trans rfl
      have hfs32 := blk_frozen BK384.out 0
      have hns32_0 := NB383_384.out
      have hns32_2 := NB392_384.out
      have hms32_0 := NB384_383.out
      have hms32_2 := NB384_392.out
      refine skip_ (w1 := ?_) (by rfl) rfl ?_ ?_
      rotate_left
      ·go_simp
       rfl
      refine hK.out _ _ ?_
      clear hK K
      refine done_ (done_of HT_.out (by kernel_rfl)) ?_
      have C33_0 : w30.cell? ⟨gb392, 0, none⟩ = some (.slice A391_0 ((rd_T70 l0_1 x27_1).f0).length c391_0) := (blk_cell BK392.out 0).trans rfl
      have C33_1 : w30.cell? ⟨gb392, 1, none⟩ = some (.slice A391_1 ((rd_T70 l0_1 x27_1).f1).length c391_1) := (blk_cell BK392.out 1).trans rfl
      have C33_2 : w30.cell? ⟨gb392, 2, none⟩ = some (.int .i64 ((rd_T70 l0_1 x27_1).f2)) := (blk_cell BK392.out 2).trans rfl
      have C33_3 : w30.cell? ⟨gb392, 3, none⟩ = some (.int .i64 ((rd_T70 l0_1 x27_1).f3)) := (blk_cell BK392.out 3).trans rfl
      obtain ⟨F33_0, F33_1, F33_2, F33_3, -⟩ := frz_4 BK392.out
      try go_wp2_with (first | ((with_reducible refine gate_dst (N := 43) rfl ?_); refine Kd.R_lit (Kd.int .i64) _ 3 ?hg (N := 43) ?hd (xs := ([(rd_T70 l0_1 x27_1).f2, (rd_T70 l0_1 x27_1).f3] : List Int)) (inner := [.int .i64 ((rd_T70 l0_1 x27_1).f2), .int .i64 ((rd_T70 l0_1 x27_1).f3)]) (ok := fun _ => True) (okp := fun _ => True) ?hr ?hp (fun _ hk => hk) trivial (Below.refl _ _) (Nat.le_refl _) (by simp) ?_; (case hd => rfl); (case hg => rfl); (case hr => first | (go_simp; done) | (go_simp; rfl)); (case hp => exact (Reps.one (show Kd.M (Kd.int .i64) _ _ _ ((rd_T70 l0_1 x27_1).f2) [.int .i64 ((rd_T70 l0_1 x27_1).f2)] from rfl) (Reps.one (show Kd.M (Kd.int .i64) _ _ _ ((rd_T70 l0_1 x27_1).f3) [.int .i64 ((rd_T70 l0_1 x27_1).f3)] from rfl) (Reps.none _ _)))); intro v400 w34 ho35 hb hg_ hnew_; clear hg_ hnew_; (first | rw [← Ny399.out] at ho35 | (simp only [Int.reduceToNat] at ho35; rw [← Ny399.out] at ho35)); have HO401 := Aside0.mk (Kd.R_lower ho35 (below_size bel)); replace HO398 := Aside0.mk (Kd.R_below (by (with_reducible repeat (first | apply Kd.R_alloc | apply Kd.R_drewN | apply Kd.R_drew)); exact (Kd.R_mono (Kd.R_far (p := ⟨gb384, 0, none⟩) (Kd.R_types HO398.out BK384.out (by decide)) (fun _ hk => hk.2) (.slice Ao31 t396.length co31)) (fun _ h_ => h_.1))) hb); replace BK383 := Aside0.mk (blk_below (g := gb383) (o := .cells #[.int .i64 a0_0, .slice (some ad391) l0_1.length c0_1, .slice A0_2 l0_2.length c0_2, .int .i64 a0_3, .slice A0_4 l0_4.length c0_4, .slice A0_5 l0_5.length c0_5] 37 (0, 0)) (by (with_reducible repeat (first | refine blk_drewN ?_ _ | refine blk_drew ?_ | refine blk_alloc ?_ _)); refine blk_far ?_ NB383_384.out _; (with_reducible repeat (first | refine blk_drewN ?_ _ | refine blk_drew ?_ | refine blk_alloc ?_ _)); exact BK383.out) hb); replace BK384 := Aside0.mk (blk_below (g := gb384) (o := .cells #[.slice Ao31 t396.length co31] 29 (0, 0)) (by (with_reducible repeat (first | refine blk_drewN ?_ _ | refine blk_drew ?_ | refine blk_alloc ?_ _)); refine blk_put (cs := #[.slice Ao27 x385000_1.length co27]) ?_ 0 _ rfl; (with_reducible repeat (first | refine blk_drewN ?_ _ | refine blk_drew ?_ | refine blk_alloc ?_ _)); exact BK384.out) hb); replace BK392 := Aside0.mk (blk_below (g := gb392) (o := .cells #[.slice A391_0 ((rd_T70 l0_1 x27_1).f0).length c391_0, .slice A391_1 ((rd_T70 l0_1 x27_1).f1).length c391_1, .int .i64 ((rd_T70 l0_1 x27_1).f2), .int .i64 ((rd_T70 l0_1 x27_1).f3)] 70 (0, 0)) (by (with_reducible repeat (first | refine blk_drewN ?_ _ | refine blk_drew ?_ | refine blk_alloc ?_ _)); refine blk_far ?_ NB392_384.out _; (with_reducible repeat (first | refine blk_drewN ?_ _ | refine blk_drew ?_ | refine blk_alloc ?_ _)); exact BK392.out) hb); replace HB := bst hb; clear hb ho35; have hnb36 := NB384_383.out; have hnc36 := NB383_384.out; have C37_0 : w34.cell? ⟨gb384, 0, none⟩ = some (.slice Ao31 t396.length co31) := (blk_cell BK384.out 0).trans rfl; have F37_0 := blk_frozen BK384.out 0; obtain ⟨Ao38, co38, eo38⟩ := Kd.R_slice HO401.out; subst eo38) | ((with_reducible refine gate_dst (N := 44) rfl ?_); refine virtual_put.glc_ (some 44) Try.func67 #[.slice Ao38 y399.length co38, .pointer (some ⟨gb384, 0, none⟩)] (c := .pointer (some ⟨gb384, 0, none⟩)) (h := ?_); (with_reducible refine (virtual_put.calls k1 (.slice Ao31 t396.length co31) t396 _ _ y399 t402 w _ gb384 (bkp BK384) GE384.out ?side1 ?side2 ?side3 ?side4 (by rw [Ny399.out]; simp) A20.out).mono ?_); (case side1 => repeat (first | (with_reducible first | exact HB.out | apply below_alloc | apply pw_below_drewN | apply below_drew1 | refine below_set ?_ GE383.out | refine below_set ?_ GE384.out | refine below_set ?_ GE392.out) | exact HB.out)); (case side2 => exact Kd.R_tight rfl HO398.out); (case side3 => exact Kd.C_kept_own ((Kd.R_apart' HO401.out (Kd.R_typed HO398.out) (by decide))) (fun k_ hk_ hs_ => (hk_.2) hs_)); (case side4 => exact (Kd.R_reads' HO401.out).2.1); rintro e _ ⟨w39, v403, rfl, rfl, ho0, hb, hkp⟩; refine ⟨_, rfl, ?_⟩; have n0_ := Aside0.mk (blk_kept (bkp BK383) hkp (fun hs_ => (fun e_ => (Kd.R_ne HO398.out BK383.out (by decide)) e_) hs_)); have n1_ := Aside0.mk (blk_kept (bkp BK384) hkp (fun hs_ => (fun e_ => (Kd.R_ne HO398.out BK384.out (by decide)) e_) hs_)); have n2_ := Aside0.mk (blk_kept (bkp BK392) hkp (fun hs_ => (fun e_ => (Kd.R_ne HO398.out BK392.out (by decide)) e_) hs_)); have n3_ := Aside0.mk (Kd.R_mono (ok' := fun k_ => True) (Kd.R_keptB ((Kd.R_apart' HO401.out (Kd.R_typed HO398.out) (by decide))) hkp (fun k_ hk_ hs_ => (hk_.2) hs_)) (fun k_ hk_ => trivial)); have n4_ := Aside0.mk (Kd.R_mono (ok' := fun k_ => True) ho0 (fun k_ hk_ => trivial)); have n5_ := Aside0.mk (hb); clear BK383; clear BK384; clear BK392; clear HO401; clear HB; clear HO398; have BK383 := n0_; have BK384 := n1_; have BK392 := n2_; have HO401 := n3_; have HO404 := n4_; have HB := n5_; clear n0_ n1_ n2_ n3_ n4_ n5_; (try clear hb); (try clear hkp); (try clear ho0); obtain ⟨Ao40, co40, eo40⟩ := Kd.R_slice HO404.out; subst eo40; have C41_0 : w39.cell? ⟨gb384, 0, none⟩ = some (.slice Ao31 t396.length co31) := (blk_cell BK384.out 0).trans rfl; have F41_0 := blk_frozen BK384.out 0))
      go_roundg k1
      case measure => have := HK1.out; omega
      case rel => exact ⟨(wrap64 (x27_1 + 1)), (t402), (.slice Ao40 t402.length co40), rs_, H', ⟨by have := HK1.out; omega⟩, ⟨by (with_reducible repeat (first | apply Kd.R_alloc | apply Kd.R_drewN | apply Kd.R_drew)); exact Kd.R_mono (Kd.R_far (p := ⟨gb384, 0, none⟩) (Kd.R_types HO404.out BK384.out (by decide)) (fun _ hk => hk.2) (.slice Ao40 t402.length co40)) (fun _ hk => trivial)⟩, ⟨by (with_reducible repeat (first | refine blk_drewN ?_ _ | refine blk_drew ?_ | refine blk_alloc ?_ _)); refine blk_far ?_ NB383_384.out _; (with_reducible repeat (first | refine blk_drewN ?_ _ | refine blk_drew ?_ | refine blk_alloc ?_ _)); exact BK383.out⟩, ⟨by (with_reducible repeat (first | refine blk_drewN ?_ _ | refine blk_drew ?_ | refine blk_alloc ?_ _)); refine blk_put (cs := #[.slice Ao31 t396.length co31]) ?_ 0 _ rfl; (with_reducible repeat (first | refine blk_drewN ?_ _ | refine blk_drew ?_ | refine blk_alloc ?_ _)); exact BK384.out⟩, ⟨bel⟩⟩
     rw [if_neg c17] at H
     exact absurd H (by simp)
    rw [if_neg c16] at H
    exact absurd H (by simp)
   rw [if_neg c15] at H
   have c15b0 : decide (x27_1 < (l0_1.length : Int)) = false := decide_eq_false c15
   clear c15
   obtain ⟨y405, hy405⟩ : ∃ y_ : List Int, y_ = (([(l0_2.length : Int)] : List Int)) := ⟨_, rfl⟩
   replace H : ((virtual_put.f k1 x385000_1 y405).bind fun t408 => (impl_stateBytes.l1 k1 l0_2 (l0_2.length : Int) 0 a0_0 l0_1 l0_2 a0_3 l0_4 l0_5 t408)) = some r := by first | (rw [hy405]; with_reducible exact H) | (have H2_ := (Option.bind_some _ _).symm.trans H; rw [hy405]; with_reducible exact H2_) | (have H2_ := (Option.bind_some _ _).symm.trans H; with_reducible exact H2_) | with_reducible exact H | (rw [hy405]; exact H) | exact H
   have Ny405 := Aside0.mk hy405
   clear hy405
   replace H := Option.bind_eq_some_iff.mp H
   obtain ⟨t408, A420, H⟩ := H
   replace H : (impl_stateBytes.l1 k1 l0_2 (l0_2.length : Int) 0 a0_0 l0_1 l0_2 a0_3 l0_4 l0_5 t408) = some r := H
   have A42 := Aside0.mk A420
   clear A420
   have H' := Aside0.mk H
   clear H
   have hnb43 := NB383_384.out
   have hnc43 := NB384_383.out
   obtain ⟨C44_0, C44_1, C44_2, C44_3, C44_4, C44_5, -⟩ := cells_6 BK383.out trivial
   obtain ⟨F44_0, F44_1, F44_2, F44_3, F44_4, F44_5, -⟩ := frz_6 BK383.out
   go_wp2_with (first | ((with_reducible refine gate_dst (N := 50) rfl ?_); refine Kd.R_lit (Kd.int .i64) _ 3 ?hg (N := 50) ?hd (xs := ([(l0_2.length : Int)] : List Int)) (inner := [.int .i64 (l0_2.length : Int)]) (ok := fun _ => True) (okp := fun _ => True) ?hr ?hp (fun _ hk => hk) trivial (Below.refl _ _) (Nat.le_refl _) (by simp) ?_; (case hd => rfl); (case hg => rfl); (case hr => first | (go_simp; done) | (go_simp; rfl)); (case hp => exact (Reps.one (show Kd.M (Kd.int .i64) _ _ _ (l0_2.length : Int) [.int .i64 (l0_2.length : Int)] from rfl) (Reps.none _ _))); intro v406 w45 ho46 hb hg_ hnew_; clear hg_ hnew_; (first | rw [← Ny405.out] at ho46 | (simp only [Int.reduceToNat] at ho46; rw [← Ny405.out] at ho46)); have HO407 := Aside0.mk (Kd.R_lower ho46 (below_size bel)); replace HO_385000 := Aside0.mk (rbl HO_385000 hb); replace BK383 := Aside0.mk (blb BK383 hb); replace BK384 := Aside0.mk (blb BK384 hb); replace HB := bst hb; clear hb ho46; have C47_0 : w45.cell? ⟨gb384, 0, none⟩ = some (u385000) := (blk_cell BK384.out 0).trans rfl; have F47_0 := blk_frozen BK384.out 0; obtain ⟨Ao48, co48, eo48⟩ := Kd.R_slice HO_385000.out; subst eo48; obtain ⟨Ao49, co49, eo49⟩ := Kd.R_slice HO407.out; subst eo49) | ((with_reducible refine gate_dst (N := 51) rfl ?_); refine virtual_put.glc_ (some 51) Try.func67 #[.slice Ao49 y405.length co49, .pointer (some ⟨gb384, 0, none⟩)] (c := .pointer (some ⟨gb384, 0, none⟩)) (h := ?_); (with_reducible refine (virtual_put.calls k1 (.slice Ao48 x385000_1.length co48) x385000_1 _ _ y405 t408 w _ gb384 (bkp BK384) GE384.out ?side1 ?side2 ?side3 ?side4 (by rw [Ny405.out]; simp) A42.out).mono ?_); (case side1 => repeat (first | (with_reducible first | exact HB.out | apply below_alloc | apply pw_below_drewN | apply below_drew1 | refine below_set ?_ GE383.out | refine below_set ?_ GE384.out) | exact HB.out)); (case side2 => exact Kd.R_tight rfl HO_385000.out); (case side3 => exact Kd.C_kept_own ((Kd.R_apart' HO407.out (Kd.R_typed HO_385000.out) (by decide))) (fun k_ hk_ hs_ => (hk_.2) hs_)); (case side4 => exact (Kd.R_reads' HO407.out).2.1); rintro e _ ⟨w50, v409, rfl, rfl, ho0, hb, hkp⟩; refine ⟨_, rfl, ?_⟩; have n0_ := Aside0.mk (blk_kept (bkp BK383) hkp (fun hs_ => (fun e_ => (Kd.R_ne HO_385000.out BK383.out (by decide)) e_) hs_)); have n1_ := Aside0.mk (blk_kept (bkp BK384) hkp (fun hs_ => (fun e_ => (Kd.R_ne HO_385000.out BK384.out (by decide)) e_) hs_)); have n2_ := Aside0.mk (Kd.R_mono (ok' := fun k_ => True) (Kd.R_keptB ((Kd.R_apart' HO407.out (Kd.R_typed HO_385000.out) (by decide))) hkp (fun k_ hk_ hs_ => (hk_.2) hs_)) (fun k_ hk_ => trivial)); have n3_ := Aside0.mk (Kd.R_mono (ok' := fun k_ => True) ho0 (fun k_ hk_ => trivial)); have n4_ := Aside0.mk (hb); clear BK383; clear BK384; clear HO407; clear HB; clear HO_385000; have BK383 := n0_; have BK384 := n1_; have HO407 := n2_; have HO410 := n3_; have HB := n4_; clear n0_ n1_ n2_ n3_ n4_; (try clear hb); (try clear hkp); (try clear ho0); obtain ⟨Ao51, co51, eo51⟩ := Kd.R_slice HO410.out; subst eo51; have C52_0 : w50.cell? ⟨gb384, 0, none⟩ = some (.slice Ao48 x385000_1.length co48) := (blk_cell BK384.out 0).trans rfl; have F52_0 := blk_frozen BK384.out 0; obtain ⟨C53_0, C53_1, C53_2, C53_3, C53_4, C53_5, -⟩ := cells_6 BK383.out trivial; obtain ⟨F53_0, F53_1, F53_2, F53_3, F53_4, F53_5, -⟩ := frz_6 BK383.out))
   go_loopg [55] k1 (fun kq v55 w' => ∃ (x55_2 : Int) (x385000_2 : List Int) (u385000 : Value), v55 = .int .i64 x55_2 ∧ Aside0 (impl_stateBytes.l1 kq l0_2 (l0_2.length : Int) x55_2 a0_0 l0_1 l0_2 a0_3 l0_4 l0_5 x385000_2 = some r) ∧ Aside0 (kq ≤ k1) ∧ Aside0 (Kd.R (Kd.int .u8) 5 w' w.heap.size (fun _ => True) u385000 x385000_2) ∧ Aside0 (w'.heap[gb383]? = some (.cells #[.int .i64 a0_0, (.slice A0_1 l0_1.length c0_1), (.slice A0_2 l0_2.length c0_2), .int .i64 a0_3, (.slice A0_4 l0_4.length c0_4), (.slice A0_5 l0_5.length c0_5)] 37 (0, 0))) ∧ Aside0 (w'.heap[gb384]? = some (.cells #[u385000] 29 (0, 0))) ∧ Aside0 (Below w.heap.size w w'))
   case atStart => exact ⟨(0), (t408), (.slice Ao51 t408.length co51), rs_, H', ⟨Nat.le_refl _⟩, ⟨by (with_reducible repeat (first | apply Kd.R_alloc | apply Kd.R_drewN | apply Kd.R_drew)); exact Kd.R_mono (Kd.R_far (p := ⟨gb384, 0, none⟩) (Kd.R_types HO410.out BK384.out (by decide)) (fun _ hk => hk.2) (.slice Ao51 t408.length co51)) (fun _ hk => trivial)⟩, ⟨by (with_reducible repeat (first | refine blk_drewN ?_ _ | refine blk_drew ?_ | refine blk_alloc ?_ _)); refine blk_far ?_ NB383_384.out _; (with_reducible repeat (first | refine blk_drewN ?_ _ | refine blk_drew ?_ | refine blk_alloc ?_ _)); exact BK383.out⟩, ⟨by (with_reducible repeat (first | refine blk_drewN ?_ _ | refine blk_drew ?_ | refine blk_alloc ?_ _)); refine blk_put (cs := #[.slice Ao48 x385000_1.length co48]) ?_ 0 _ rfl; (with_reducible repeat (first | refine blk_drewN ?_ _ | refine blk_drew ?_ | refine blk_alloc ?_ _)); exact BK384.out⟩, ⟨bel⟩⟩
   case round =>
    clear H'
    try clear c1; try clear c2; try clear p2; try clear c3; try clear p3; try clear q3; try clear hx3; try clear c4; try clear c5; try clear c6; try clear p6; try clear c10; try clear c15; try clear c15b0; try clear c16; try clear c16b0; try clear c17; try clear c17b0; try clear c22; try clear c23; try clear c30; try clear c36; try clear c39; try clear p39; try clear q39; try clear hx39; try clear c43; try clear C13_0; try clear C14_0 C14_1 C14_2 C14_3 C14_4 C14_5; try clear C24_0 C24_1 C24_2 C24_3; try clear C33_0 C33_1 C33_2 C33_3; try clear C37_0; try clear C41_0; try clear C44_0 C44_1 C44_2 C44_3 C44_4 C44_5; try clear C47_0; try clear C52_0; try clear C53_0 C53_1 C53_2 C53_3 C53_4 C53_5; try clear C6_0 C6_1 C6_2 C6_3 C6_4 C6_5; try clear C9_0; try clear F13_0; try clear F14_0 F14_1 F14_2 F14_3 F14_4 F14_5; try clear F24_0 F24_1 F24_2 F24_3; try clear F33_0 F33_1 F33_2 F33_3; try clear F37_0; try clear F41_0; try clear F44_0 F44_1 F44_2 F44_3 F44_4 F44_5; try clear F47_0; try clear F52_0; try clear F53_0 F53_1 F53_2 F53_3 F53_4 F53_5; try clear F6_0 F6_1 F6_2 F6_3 F6_4 F6_5; try clear F9_0; try clear hx391_0; try clear hx391_1; try clear hx391_2; try clear hx391_3; try clear p2; try clear p391; try clear q391
    obtain ⟨x55_2, x385000_2, u385000, rfl, HA, HK2, HO_385000, BK383, BK384, HB⟩ := hrel
    cases gk with
    | zero => exact absurd HA.out (by simp [impl_stateBytes.l1])
    | succ k2 =>
     have H := HA.out
     clear HA
     simp only [impl_stateBytes.l1] at H
     by_cases c54 : x55_2 < (l0_2.length : Int)
     ·rw [if_pos c54] at H
      have c54b0 : decide (x55_2 < (l0_2.length : Int)) = true := decide_eq_true c54
      clear c54
      by_cases c55 : 0 ≤ x55_2
      ·rw [if_pos c55] at H
       have c55b0 : decide (0 ≤ x55_2) = true := decide_eq_true c55
       clear c55
       by_cases c56 : x55_2 < (l0_2.length : Int)
       ·rw [if_pos c56] at H
        have c56b0 : decide (x55_2 < (l0_2.length : Int)) = true := decide_eq_true c56
        clear c56
        replace H := Option.bind_eq_some_iff.mp H
        obtain ⟨t413, A570, H⟩ := H
        replace H : ((virtual_put.f k2 t413 (([(rd_T85 l0_2 x55_2).f1] : List Int))).bind fun t419 => (impl_stateBytes.l1 k2 l0_2 (l0_2.length : Int) (wrap64 (x55_2 + 1)) a0_0 l0_1 l0_2 a0_3 l0_4 l0_5 t419)) = some r := H
        have A57 := Aside0.mk A570
        clear A570
        obtain ⟨y416, hy416⟩ : ∃ y_ : List Int, y_ = (([(rd_T85 l0_2 x55_2).f1] : List Int)) := ⟨_, rfl⟩
        replace H : ((virtual_put.f k2 t413 y416).bind fun t419 => (impl_stateBytes.l1 k2 l0_2 (l0_2.length : Int) (wrap64 (x55_2 + 1)) a0_0 l0_1 l0_2 a0_3 l0_4 l0_5 t419)) = some r := by first | (rw [hy416]; with_reducible exact H) | (have H2_ := (Option.bind_some _ _).symm.trans H; rw [hy416]; with_reducible exact H2_) | (have H2_ := (Option.bind_some _ _).symm.trans H; with_reducible exact H2_) | with_reducible exact H | (rw [hy416]; exact H) | exact H
        have Ny416 := Aside0.mk hy416
        clear hy416
        replace H := Option.bind_eq_some_iff.mp H
        obtain ⟨t419, A580, H⟩ := H
        replace H : (impl_stateBytes.l1 k2 l0_2 (l0_2.length : Int) (wrap64 (x55_2 + 1)) a0_0 l0_1 l0_2 a0_3 l0_4 l0_5 t419) = some r := H
        have A58 := Aside0.mk A580
        clear A580
        have H' := Aside0.mk H
        clear H
        have p411 : 0 ≤ (x55_2 : Int) := od
        have q411 : x55_2 < (l0_2.length : Int) := od
        obtain ⟨ad411, A411_0, c411_0, e411, hx411_0, hx411_1, hl411_0, hi411_0⟩ := at_T85 HR0_2.out x55_2 p411 q411
        cases e411
        replace hx411_0 := hxb HB hx411_0
        replace hx411_1 := hxb HB hx411_1
        have HR411_0 := Aside0.mk hi411_0
        have HC411_0 := Aside0.mk hl411_0
        clear hi411_0 hl411_0
        replace p411 := eq_true p411
        replace q411 := eq_true q411
        go_wp2_with (first | ((with_reducible refine gate_dst (N := 8) rfl ?_); refine bx_ 8 #[.slice none 0 0, .int .i64 0] 85 (h := ?_); intro gb412 hg w59 hbox hb; have BK412 := Aside0.mk (hbox); have GW412 := Aside0.mk ((by rw [hg]; exact (below_size bel) : w.heap.size ≤ gb412)); have GE412 := GW412; have NB383_412 := Aside0.mk ((by rw [hg]; exact Nat.ne_of_lt (blt BK383) : gb383 ≠ gb412)); have NB412_383 := Aside0.mk NB383_412.out.symm; have NB384_412 := Aside0.mk ((by rw [hg]; exact Nat.ne_of_lt (blt BK384) : gb384 ≠ gb412)); have NB412_384 := Aside0.mk NB384_412.out.symm; replace HO_385000 := Aside0.mk (rbl HO_385000 hb); replace BK383 := Aside0.mk (blb BK383 hb); replace BK384 := Aside0.mk (blb BK384 hb); replace HB := bst hb; clear hb hbox hg; have hnb60 := NB412_383.out; have hnc60 := NB383_412.out; have hnb61 := NB412_384.out; have hnc61 := NB384_412.out; obtain ⟨C62_0, C62_1, -⟩ := cells_2 BK412.out trivial; obtain ⟨F62_0, F62_1, -⟩ := frz_2 BK412.out) | ((with_reducible refine gate_store (t := 85) (p := 8) rfl ?_); refine store_event (t := 85) (p := 8) (v := ?vo_w63) (w1 := ((w59.setCell ⟨gb412, 0, none⟩ (.slice A411_0 ((rd_T85 l0_2 x55_2).f0).length c411_0)).setCell ⟨gb412, 1, none⟩ (.int .i64 ((rd_T85 l0_2 x55_2).f1)))) ?hg ?ho ?hn ?hr ?_; (case ho => rfl); (case hg => rfl); (case hn => rfl); (case hr => first | (go_simp; done) | (go_simp; rfl)); intro w63 hw; have n0_ : Aside0 (Kd.R (Kd.int .u8) 5 w63 w.heap.size (fun _ => True) u385000 x385000_2) := ⟨(by rw [hw]; exact (by (with_reducible repeat (first | apply Kd.R_alloc | apply Kd.R_drewN | apply Kd.R_drew)); exact Kd.R_mono (Kd.R_far (p := ⟨gb412, 1, none⟩) (Kd.R_far (p := ⟨gb412, 0, none⟩) (Kd.R_types HO_385000.out BK412.out (by decide)) (fun _ hk => hk.2) (.slice A411_0 ((rd_T85 l0_2 x55_2).f0).length c411_0)) (fun _ hk => hk.2) (.int .i64 ((rd_T85 l0_2 x55_2).f1))) (fun _ hk => trivial)))⟩; have n1_ : Aside0 (w63.heap[gb383]? = some (.cells #[.int .i64 a0_0, .slice A0_1 l0_1.length c0_1, .slice (some ad411) l0_2.length c0_2, .int .i64 a0_3, .slice A0_4 l0_4.length c0_4, .slice A0_5 l0_5.length c0_5] 37 (0, 0))) := ⟨(by rw [hw]; exact (by (with_reducible repeat (first | refine blk_drewN ?_ _ | refine blk_drew ?_ | refine blk_alloc ?_ _)); refine blk_far ?_ NB383_412.out _; (with_reducible repeat (first | refine blk_drewN ?_ _ | refine blk_drew ?_ | refine blk_alloc ?_ _)); refine blk_far ?_ NB383_412.out _; (with_reducible repeat (first | refine blk_drewN ?_ _ | refine blk_drew ?_ | refine blk_alloc ?_ _)); exact BK383.out))⟩; have n2_ : Aside0 (w63.heap[gb384]? = some (.cells #[u385000] 29 (0, 0))) := ⟨(by rw [hw]; exact (by (with_reducible repeat (first | refine blk_drewN ?_ _ | refine blk_drew ?_ | refine blk_alloc ?_ _)); refine blk_far ?_ NB384_412.out _; (with_reducible repeat (first | refine blk_drewN ?_ _ | refine blk_drew ?_ | refine blk_alloc ?_ _)); refine blk_far ?_ NB384_412.out _; (with_reducible repeat (first | refine blk_drewN ?_ _ | refine blk_drew ?_ | refine blk_alloc ?_ _)); exact BK384.out))⟩; have n3_ : Aside0 (w63.heap[gb412]? = some (.cells #[.slice A411_0 ((rd_T85 l0_2 x55_2).f0).length c411_0, .int .i64 ((rd_T85 l0_2 x55_2).f1)] 85 (0, 0))) := ⟨(by rw [hw]; exact (by (with_reducible repeat (first | refine blk_drewN ?_ _ | refine blk_drew ?_ | refine blk_alloc ?_ _)); refine blk_put (cs := #[.slice A411_0 ((rd_T85 l0_2 x55_2).f0).length c411_0, .int .i64 0]) ?_ 1 _ rfl; (with_reducible repeat (first | refine blk_drewN ?_ _ | refine blk_drew ?_ | refine blk_alloc ?_ _)); refine blk_put (cs := #[.slice none 0 0, .int .i64 0]) ?_ 0 _ rfl; (with_reducible repeat (first | refine blk_drewN ?_ _ | refine blk_drew ?_ | refine blk_alloc ?_ _)); exact BK412.out))⟩; have n4_ : Aside0 (Below w.heap.size w w63) := ⟨(by rw [hw]; exact bel)⟩; clear hw; clear HO_385000; clear BK383; clear BK384; clear BK412; clear HB; have HO_385000 := n0_; have BK383 := n1_; have BK384 := n2_; have BK412 := n3_; have HB := n4_; clear n0_ n1_ n2_ n3_ n4_; have hnb64 := NB384_383.out; have hnc64 := NB383_384.out; have C65_0 : w63.cell? ⟨gb384, 0, none⟩ = some (u385000) := (blk_cell BK384.out 0).trans rfl; have F65_0 := blk_frozen BK384.out 0; have C66_0 : w63.cell? ⟨gb412, 0, none⟩ = some (.slice A411_0 ((rd_T85 l0_2 x55_2).f0).length c411_0) := (blk_cell BK412.out 0).trans rfl; have C66_1 : w63.cell? ⟨gb412, 1, none⟩ = some (.int .i64 ((rd_T85 l0_2 x55_2).f1)) := (blk_cell BK412.out 1).trans rfl; obtain ⟨F66_0, F66_1, -⟩ := frz_2 BK412.out; obtain ⟨Ao67, co67, eo67⟩ := Kd.R_slice HO_385000.out; subst eo67) | ((with_reducible refine gate_callee (f := 69) rfl ?_); refine gl_ (some 62) Try.func69 #[.slice Ao67 x385000_2.length co67, .slice A411_0 ((rd_T85 l0_2 x55_2).f0).length c411_0] (h := ?_); (with_reducible refine (impl_putText.calls k2 (fun k_ => some k_ = (.slice Ao67 x385000_2.length co67 : Value).ownBlock) (.slice Ao67 x385000_2.length co67) x385000_2 _ _ ((rd_T85 l0_2 x55_2).f0) t413 w _ ?side1 ?side2 ?side3 ?side4 A57.out).mono ?_); (case side1 => repeat (first | (with_reducible first | exact HB.out | apply below_alloc | apply pw_below_drewN | apply below_drew1 | refine below_set ?_ GE383.out | refine below_set ?_ GE384.out | refine below_set ?_ GE412.out) | exact HB.out)); (case side2 => exact Kd.R_tight rfl HO_385000.out); (case side3 => exact Kd.C_kept_came (Kd.heap_int .u8) HR411_0.out bel (fun k_ hs_ => (fun e_ => Kd.R_base HO_385000.out k_ e_.symm) hs_)); (case side4 => exact HC411_0.out); rintro e w68 ⟨v414, rfl, ho0, hb, hkp⟩; refine ⟨_, rfl, ?_⟩; have n0_ := Aside0.mk (blk_kept (bkp BK383) hkp (fun hs_ => (fun e_ => (Kd.R_ne HO_385000.out BK383.out (by decide)) e_) hs_)); have n1_ := Aside0.mk (blk_kept (bkp BK384) hkp (fun hs_ => (fun e_ => (Kd.R_ne HO_385000.out BK384.out (by decide)) e_) hs_)); have n2_ := Aside0.mk (blk_kept (bkp BK412) hkp (fun hs_ => (fun e_ => (Kd.R_ne HO_385000.out BK412.out (by decide)) e_) hs_)); have n3_ := Aside0.mk (Kd.R_mono (ok' := fun k_ => True) ho0 (fun k_ hk_ => trivial)); have n4_ := Aside0.mk (hb); clear BK383; clear BK384; clear BK412; clear HB; clear HO_385000; have BK383 := n0_; have BK384 := n1_; have BK412 := n2_; have HO415 := n3_; have HB := n4_; clear n0_ n1_ n2_ n3_ n4_; (try clear hb); (try clear hkp); (try clear ho0); obtain ⟨Ao69, co69, eo69⟩ := Kd.R_slice HO415.out; subst eo69; have C70_0 : w68.cell? ⟨gb384, 0, none⟩ = some (.slice Ao67 x385000_2.length co67) := (blk_cell BK384.out 0).trans rfl; have F70_0 := blk_frozen BK384.out 0; have C71_0 : w68.cell? ⟨gb412, 0, none⟩ = some (.slice A411_0 ((rd_T85 l0_2 x55_2).f0).length c411_0) := (blk_cell BK412.out 0).trans rfl; have C71_1 : w68.cell? ⟨gb412, 1, none⟩ = some (.int .i64 ((rd_T85 l0_2 x55_2).f1)) := (blk_cell BK412.out 1).trans rfl; obtain ⟨F71_0, F71_1, -⟩ := frz_2 BK412.out) | ((with_reducible refine gate_dst (N := 66) rfl ?_); refine Kd.R_lit (Kd.int .i64) _ 3 ?hg (N := 66) ?hd (xs := ([(rd_T85 l0_2 x55_2).f1] : List Int)) (inner := [.int .i64 ((rd_T85 l0_2 x55_2).f1)]) (ok := fun _ => True) (okp := fun _ => True) ?hr ?hp (fun _ hk => hk) trivial (Below.refl _ _) (Nat.le_refl _) (by simp) ?_; (case hd => rfl); (case hg => rfl); (case hr => first | (go_simp; done) | (go_simp; rfl)); (case hp => exact (Reps.one (show Kd.M (Kd.int .i64) _ _ _ ((rd_T85 l0_2 x55_2).f1) [.int .i64 ((rd_T85 l0_2 x55_2).f1)] from rfl) (Reps.none _ _))); intro v417 w72 ho73 hb hg_ hnew_; clear hg_ hnew_; (first | rw [← Ny416.out] at ho73 | (simp only [Int.reduceToNat] at ho73; rw [← Ny416.out] at ho73)); have HO418 := Aside0.mk (Kd.R_lower ho73 (below_size bel)); replace HO415 := Aside0.mk (Kd.R_below (by (with_reducible repeat (first | apply Kd.R_alloc | apply Kd.R_drewN | apply Kd.R_drew)); exact (Kd.R_mono (Kd.R_far (p := ⟨gb384, 0, none⟩) (Kd.R_types HO415.out BK384.out (by decide)) (fun _ hk => hk.2) (.slice Ao69 t413.length co69)) (fun _ h_ => h_.1))) hb); replace BK383 := Aside0.mk (blk_below (g := gb383) (o := .cells #[.int .i64 a0_0, .slice A0_1 l0_1.length c0_1, .slice (some ad411) l0_2.length c0_2, .int .i64 a0_3, .slice A0_4 l0_4.length c0_4, .slice A0_5 l0_5.length c0_5] 37 (0, 0)) (by (with_reducible repeat (first | refine blk_drewN ?_ _ | refine blk_drew ?_ | refine blk_alloc ?_ _)); refine blk_far ?_ NB383_384.out _; (with_reducible repeat (first | refine blk_drewN ?_ _ | refine blk_drew ?_ | refine blk_alloc ?_ _)); exact BK383.out) hb); replace BK384 := Aside0.mk (blk_below (g := gb384) (o := .cells #[.slice Ao69 t413.length co69] 29 (0, 0)) (by (with_reducible repeat (first | refine blk_drewN ?_ _ | refine blk_drew ?_ | refine blk_alloc ?_ _)); refine blk_put (cs := #[.slice Ao67 x385000_2.length co67]) ?_ 0 _ rfl; (with_reducible repeat (first | refine blk_drewN ?_ _ | refine blk_drew ?_ | refine blk_alloc ?_ _)); exact BK384.out) hb); replace BK412 := Aside0.mk (blk_below (g := gb412) (o := .cells #[.slice A411_0 ((rd_T85 l0_2 x55_2).f0).length c411_0, .int .i64 ((rd_T85 l0_2 x55_2).f1)] 85 (0, 0)) (by (with_reducible repeat (first | refine blk_drewN ?_ _ | refine blk_drew ?_ | refine blk_alloc ?_ _)); refine blk_far ?_ NB412_384.out _; (with_reducible repeat (first | refine blk_drewN ?_ _ | refine blk_drew ?_ | refine blk_alloc ?_ _)); exact BK412.out) hb); replace HB := bst hb; clear hb ho73; have C74_0 : w72.cell? ⟨gb384, 0, none⟩ = some (.slice Ao69 t413.length co69) := (blk_cell BK384.out 0).trans rfl; have F74_0 := blk_frozen BK384.out 0; obtain ⟨Ao75, co75, eo75⟩ := Kd.R_slice HO418.out; subst eo75) | ((with_reducible refine gate_dst (N := 67) rfl ?_); refine virtual_put.glc_ (some 67) Try.func67 #[.slice Ao75 y416.length co75, .pointer (some ⟨gb384, 0, none⟩)] (c := .pointer (some ⟨gb384, 0, none⟩)) (h := ?_); (with_reducible refine (virtual_put.calls k2 (.slice Ao69 t413.length co69) t413 _ _ y416 t419 w _ gb384 (bkp BK384) GE384.out ?side1 ?side2 ?side3 ?side4 (by rw [Ny416.out]; simp) A58.out).mono ?_); (case side1 => repeat (first | (with_reducible first | exact HB.out | apply below_alloc | apply pw_below_drewN | apply below_drew1 | refine below_set ?_ GE383.out | refine below_set ?_ GE384.out | refine below_set ?_ GE412.out) | exact HB.out)); (case side2 => exact Kd.R_tight rfl HO415.out); (case side3 => exact Kd.C_kept_own ((Kd.R_apart' HO418.out (Kd.R_typed HO415.out) (by decide))) (fun k_ hk_ hs_ => (hk_.2) hs_)); (case side4 => exact (Kd.R_reads' HO418.out).2.1); rintro e _ ⟨w76, v420, rfl, rfl, ho0, hb, hkp⟩; refine ⟨_, rfl, ?_⟩; have n0_ := Aside0.mk (blk_kept (bkp BK383) hkp (fun hs_ => (fun e_ => (Kd.R_ne HO415.out BK383.out (by decide)) e_) hs_)); have n1_ := Aside0.mk (blk_kept (bkp BK384) hkp (fun hs_ => (fun e_ => (Kd.R_ne HO415.out BK384.out (by decide)) e_) hs_)); have n2_ := Aside0.mk (blk_kept (bkp BK412) hkp (fun hs_ => (fun e_ => (Kd.R_ne HO415.out BK412.out (by decide)) e_) hs_)); have n3_ := Aside0.mk (Kd.R_mono (ok' := fun k_ => True) (Kd.R_keptB ((Kd.R_apart' HO418.out (Kd.R_typed HO415.out) (by decide))) hkp (fun k_ hk_ hs_ => (hk_.2) hs_)) (fun k_ hk_ => trivial)); have n4_ := Aside0.mk (Kd.R_mono (ok' := fun k_ => True) ho0 (fun k_ hk_ => trivial)); have n5_ := Aside0.mk (hb); clear BK383; clear BK384; clear BK412; clear HO418; clear HB; clear HO415; have BK383 := n0_; have BK384 := n1_; have BK412 := n2_; have HO418 := n3_; have HO421 := n4_; have HB := n5_; clear n0_ n1_ n2_ n3_ n4_ n5_; (try clear hb); (try clear hkp); (try clear ho0); obtain ⟨Ao77, co77, eo77⟩ := Kd.R_slice HO421.out; subst eo77; have C78_0 : w76.cell? ⟨gb384, 0, none⟩ = some (.slice Ao69 t413.length co69) := (blk_cell BK384.out 0).trans rfl; have F78_0 := blk_frozen BK384.out 0))
        go_roundg k2
        case measure => have := HK1.out; have := HK2.out; omega
        case rel => exact ⟨(wrap64 (x55_2 + 1)), (t419), (.slice Ao77 t419.length co77), rs_, H', ⟨by have := HK1.out; have := HK2.out; omega⟩, ⟨by (with_reducible repeat (first | apply Kd.R_alloc | apply Kd.R_drewN | apply Kd.R_drew)); exact Kd.R_mono (Kd.R_far (p := ⟨gb384, 0, none⟩) (Kd.R_types HO421.out BK384.out (by decide)) (fun _ hk => hk.2) (.slice Ao77 t419.length co77)) (fun _ hk => trivial)⟩, ⟨by (with_reducible repeat (first | refine blk_drewN ?_ _ | refine blk_drew ?_ | refine blk_alloc ?_ _)); refine blk_far ?_ NB383_384.out _; (with_reducible repeat (first | refine blk_drewN ?_ _ | refine blk_drew ?_ | refine blk_alloc ?_ _)); exact BK383.out⟩, ⟨by (with_reducible repeat (first | refine blk_drewN ?_ _ | refine blk_drew ?_ | refine blk_alloc ?_ _)); refine blk_put (cs := #[.slice Ao69 t413.length co69]) ?_ 0 _ rfl; (with_reducible repeat (first | refine blk_drewN ?_ _ | refine blk_drew ?_ | refine blk_alloc ?_ _)); exact BK384.out⟩, ⟨bel⟩⟩
       rw [if_neg c56] at H
       exact absurd H (by simp)
      rw [if_neg c55] at H
      exact absurd H (by simp)
     rw [if_neg c54] at H
     have c54b0 : decide (x55_2 < (l0_2.length : Int)) = false := decide_eq_false c54
     clear c54
     obtain ⟨y422, hy422⟩ : ∃ y_ : List Int, y_ = (([(l0_4.length : Int)] : List Int)) := ⟨_, rfl⟩
     replace H : ((virtual_put.f k2 x385000_2 y422).bind fun t425 => (impl_stateBytes.l2 k2 l0_4 (l0_4.length : Int) 0 a0_0 l0_1 l0_2 a0_3 l0_4 l0_5 t425)) = some r := by first | (rw [hy422]; with_reducible exact H) | (have H2_ := (Option.bind_some _ _).symm.trans H; rw [hy422]; with_reducible exact H2_) | (have H2_ := (Option.bind_some _ _).symm.trans H; with_reducible exact H2_) | with_reducible exact H | (rw [hy422]; exact H) | exact H
     have Ny422 := Aside0.mk hy422
     clear hy422
     replace H := Option.bind_eq_some_iff.mp H
     obtain ⟨t425, A790, H⟩ := H
     replace H : (impl_stateBytes.l2 k2 l0_4 (l0_4.length : Int) 0 a0_0 l0_1 l0_2 a0_3 l0_4 l0_5 t425) = some r := H
     have A79 := Aside0.mk A790
     clear A790
     have H' := Aside0.mk H
     clear H
     have hnb80 := NB383_384.out
     have hnc80 := NB384_383.out
     obtain ⟨C81_0, C81_1, C81_2, C81_3, C81_4, C81_5, -⟩ := cells_6 BK383.out trivial
     obtain ⟨F81_0, F81_1, F81_2, F81_3, F81_4, F81_5, -⟩ := frz_6 BK383.out
     go_wp2_with (first | ((with_reducible refine gate_dst (N := 73) rfl ?_); refine Kd.R_lit (Kd.int .i64) _ 3 ?hg (N := 73) ?hd (xs := ([(l0_4.length : Int)] : List Int)) (inner := [.int .i64 (l0_4.length : Int)]) (ok := fun _ => True) (okp := fun _ => True) ?hr ?hp (fun _ hk => hk) trivial (Below.refl _ _) (Nat.le_refl _) (by simp) ?_; (case hd => rfl); (case hg => rfl); (case hr => first | (go_simp; done) | (go_simp; rfl)); (case hp => exact (Reps.one (show Kd.M (Kd.int .i64) _ _ _ (l0_4.length : Int) [.int .i64 (l0_4.length : Int)] from rfl) (Reps.none _ _))); intro v423 w82 ho83 hb hg_ hnew_; clear hg_ hnew_; (first | rw [← Ny422.out] at ho83 | (simp only [Int.reduceToNat] at ho83; rw [← Ny422.out] at ho83)); have HO424 := Aside0.mk (Kd.R_lower ho83 (below_size bel)); replace HO_385000 := Aside0.mk (rbl HO_385000 hb); replace BK383 := Aside0.mk (blb BK383 hb); replace BK384 := Aside0.mk (blb BK384 hb); replace HB := bst hb; clear hb ho83; have C84_0 : w82.cell? ⟨gb384, 0, none⟩ = some (u385000) := (blk_cell BK384.out 0).trans rfl; have F84_0 := blk_frozen BK384.out 0; obtain ⟨Ao85, co85, eo85⟩ := Kd.R_slice HO_385000.out; subst eo85; obtain ⟨Ao86, co86, eo86⟩ := Kd.R_slice HO424.out; subst eo86) | ((with_reducible refine gate_dst (N := 74) rfl ?_); refine virtual_put.glc_ (some 74) Try.func67 #[.slice Ao86 y422.length co86, .pointer (some ⟨gb384, 0, none⟩)] (c := .pointer (some ⟨gb384, 0, none⟩)) (h := ?_); (with_reducible refine (virtual_put.calls k2 (.slice Ao85 x385000_2.length co85) x385000_2 _ _ y422 t425 w _ gb384 (bkp BK384) GE384.out ?side1 ?side2 ?side3 ?side4 (by rw [Ny422.out]; simp) A79.out).mono ?_); (case side1 => repeat (first | (with_reducible first | exact HB.out | apply below_alloc | apply pw_below_drewN | apply below_drew1 | refine below_set ?_ GE383.out | refine below_set ?_ GE384.out) | exact HB.out)); (case side2 => exact Kd.R_tight rfl HO_385000.out); (case side3 => exact Kd.C_kept_own ((Kd.R_apart' HO424.out (Kd.R_typed HO_385000.out) (by decide))) (fun k_ hk_ hs_ => (hk_.2) hs_)); (case side4 => exact (Kd.R_reads' HO424.out).2.1); rintro e _ ⟨w87, v426, rfl, rfl, ho0, hb, hkp⟩; refine ⟨_, rfl, ?_⟩; have n0_ := Aside0.mk (blk_kept (bkp BK383) hkp (fun hs_ => (fun e_ => (Kd.R_ne HO_385000.out BK383.out (by decide)) e_) hs_)); have n1_ := Aside0.mk (blk_kept (bkp BK384) hkp (fun hs_ => (fun e_ => (Kd.R_ne HO_385000.out BK384.out (by decide)) e_) hs_)); have n2_ := Aside0.mk (Kd.R_mono (ok' := fun k_ => True) (Kd.R_keptB ((Kd.R_apart' HO424.out (Kd.R_typed HO_385000.out) (by decide))) hkp (fun k_ hk_ hs_ => (hk_.2) hs_)) (fun k_ hk_ => trivial)); have n3_ := Aside0.mk (Kd.R_mono (ok' := fun k_ => True) ho0 (fun k_ hk_ => trivial)); have n4_ := Aside0.mk (hb); clear BK383; clear BK384; clear HO424; clear HB; clear HO_385000; have BK383 := n0_; have BK384 := n1_; have HO424 := n2_; have HO427 := n3_; have HB := n4_; clear n0_ n1_ n2_ n3_ n4_; (try clear hb); (try clear hkp); (try clear ho0); obtain ⟨Ao88, co88, eo88⟩ := Kd.R_slice HO427.out; subst eo88; have C89_0 : w87.cell? ⟨gb384, 0, none⟩ = some (.slice Ao85 x385000_2.length co85) := (blk_cell BK384.out 0).trans rfl; have F89_0 := blk_frozen BK384.out 0; obtain ⟨C90_0, C90_1, C90_2, C90_3, C90_4, C90_5, -⟩ := cells_6 BK383.out trivial; obtain ⟨F90_0, F90_1, F90_2, F90_3, F90_4, F90_5, -⟩ := frz_6 BK383.out))
     go_loopg [78] k2 (fun kq v78 w' => ∃ (x78_3 : Int) (x385000_3 : List Int) (u385000 : Value), v78 = .int .i64 x78_3 ∧ Aside0 (impl_stateBytes.l2 kq l0_4 (l0_4.length : Int) x78_3 a0_0 l0_1 l0_2 a0_3 l0_4 l0_5 x385000_3 = some r) ∧ Aside0 (kq ≤ k2) ∧ Aside0 (Kd.R (Kd.int .u8) 5 w' w.heap.size (fun _ => True) u385000 x385000_3) ∧ Aside0 (w'.heap[gb383]? = some (.cells #[.int .i64 a0_0, (.slice A0_1 l0_1.length c0_1), (.slice A0_2 l0_2.length c0_2), .int .i64 a0_3, (.slice A0_4 l0_4.length c0_4), (.slice A0_5 l0_5.length c0_5)] 37 (0, 0))) ∧ Aside0 (w'.heap[gb384]? = some (.cells #[u385000] 29 (0, 0))) ∧ Aside0 (Below w.heap.size w w'))
     case atStart => exact ⟨(0), (t425), (.slice Ao88 t425.length co88), rs_, H', ⟨Nat.le_refl _⟩, ⟨by (with_reducible repeat (first | apply Kd.R_alloc | apply Kd.R_drewN | apply Kd.R_drew)); exact Kd.R_mono (Kd.R_far (p := ⟨gb384, 0, none⟩) (Kd.R_types HO427.out BK384.out (by decide)) (fun _ hk => hk.2) (.slice Ao88 t425.length co88)) (fun _ hk => trivial)⟩, ⟨by (with_reducible repeat (first | refine blk_drewN ?_ _ | refine blk_drew ?_ | refine blk_alloc ?_ _)); refine blk_far ?_ NB383_384.out _; (with_reducible repeat (first | refine blk_drewN ?_ _ | refine blk_drew ?_ | refine blk_alloc ?_ _)); exact BK383.out⟩, ⟨by (with_reducible repeat (first | refine blk_drewN ?_ _ | refine blk_drew ?_ | refine blk_alloc ?_ _)); refine blk_put (cs := #[.slice Ao85 x385000_2.length co85]) ?_ 0 _ rfl; (with_reducible repeat (first | refine blk_drewN ?_ _ | refine blk_drew ?_ | refine blk_alloc ?_ _)); exact BK384.out⟩, ⟨bel⟩⟩
     case round =>
      clear H'
      try clear c1; try clear c2; try clear p2; try clear c3; try clear p3; try clear q3; try clear hx3; try clear c4; try clear p4; try clear q4; try clear hx4; try clear c5; try clear c6; try clear p6; try clear c8; try clear c10; try clear c15; try clear c15b0; try clear c16; try clear c16b0; try clear c17; try clear c17b0; try clear c22; try clear c23; try clear c30; try clear c36; try clear c39; try clear p39; try clear q39; try clear hx39; try clear c41; try clear p41; try clear q41; try clear hx41; try clear c43; try clear c54; try clear c54b0; try clear c55; try clear c55b0; try clear c56; try clear c56b0; try clear c60; try clear c61; try clear c64; try clear p64; try clear c69; try clear c80; try clear C13_0; try clear C14_0 C14_1 C14_2 C14_3 C14_4 C14_5; try clear C24_0 C24_1 C24_2 C24_3; try clear C33_0 C33_1 C33_2 C33_3; try clear C37_0; try clear C41_0; try clear C44_0 C44_1 C44_2 C44_3 C44_4 C44_5; try clear C47_0; try clear C52_0; try clear C53_0 C53_1 C53_2 C53_3 C53_4 C53_5; try clear C62_0 C62_1; try clear C65_0; try clear C66_0 C66_1; try clear C6_0 C6_1 C6_2 C6_3 C6_4 C6_5; try clear C70_0; try clear C71_0 C71_1; try clear C74_0; try clear C78_0; try clear C81_0 C81_1 C81_2 C81_3 C81_4 C81_5; try clear C84_0; try clear C89_0; try clear C90_0 C90_1 C90_2 C90_3 C90_4 C90_5; try clear C9_0; try clear F13_0; try clear F14_0 F14_1 F14_2 F14_3 F14_4 F14_5; try clear F24_0 F24_1 F24_2 F24_3; try clear F33_0 F33_1 F33_2 F33_3; try clear F37_0; try clear F41_0; try clear F44_0 F44_1 F44_2 F44_3 F44_4 F44_5; try clear F47_0; try clear F52_0; try clear F53_0 F53_1 F53_2 F53_3 F53_4 F53_5; try clear F62_0 F62_1; try clear F65_0; try clear F66_0 F66_1; try clear F6_0 F6_1 F6_2 F6_3 F6_4 F6_5; try clear F70_0; try clear F71_0 F71_1; try clear F74_0; try clear F78_0; try clear F81_0 F81_1 F81_2 F81_3 F81_4 F81_5; try clear F84_0; try clear F89_0; try clear F90_0 F90_1 F90_2 F90_3 F90_4 F90_5; try clear F9_0; try clear hx391_0; try clear hx391_1; try clear hx391_2; try clear hx391_3; try clear hx411_0; try clear hx411_1; try clear p2; try clear p3; try clear p39; try clear p391; try clear p411; try clear p6; try clear q3; try clear q39; try clear q391; try clear q411
      obtain ⟨x78_3, x385000_3, u385000, rfl, HA, HK3, HO_385000, BK383, BK384, HB⟩ := hrel
      cases gk with
      | zero => exact absurd HA.out (by simp [impl_stateBytes.l2])
      | succ k3 =>
       have H := HA.out
       clear HA
       simp only [impl_stateBytes.l2] at H
       by_cases c91 : x78_3 < (l0_4.length : Int)
       ·rw [if_pos c91] at H
        have c91b0 : decide (x78_3 < (l0_4.length : Int)) = true := decide_eq_true c91
        clear c91
        by_cases c92 : 0 ≤ x78_3
        ·rw [if_pos c92] at H
         have c92b0 : decide (0 ≤ x78_3) = true := decide_eq_true c92
         clear c92
         by_cases c93 : x78_3 < (l0_4.length : Int)
         ·rw [if_pos c93] at H
          have c93b0 : decide (x78_3 < (l0_4.length : Int)) = true := decide_eq_true c93
          clear c93
          replace H := Option.bind_eq_some_iff.mp H
          obtain ⟨t430, A940, H⟩ := H
          replace H : ((virtual_put.f k3 x385000_3 (([(rd_T88 l0_4 x78_3).f0, t430] : List Int))).bind fun t434 => (impl_stateBytes.l2 k3 l0_4 (l0_4.length : Int) (wrap64 (x78_3 + 1)) a0_0 l0_1 l0_2 a0_3 l0_4 l0_5 t434)) = some r := H
          have A94 := Aside0.mk A940
          clear A940
          obtain ⟨y431, hy431⟩ : ∃ y_ : List Int, y_ = (([(rd_T88 l0_4 x78_3).f0, t430] : List Int)) := ⟨_, rfl⟩
          replace H : ((virtual_put.f k3 x385000_3 y431).bind fun t434 => (impl_stateBytes.l2 k3 l0_4 (l0_4.length : Int) (wrap64 (x78_3 + 1)) a0_0 l0_1 l0_2 a0_3 l0_4 l0_5 t434)) = some r := by first | (rw [hy431]; with_reducible exact H) | (have H2_ := (Option.bind_some _ _).symm.trans H; rw [hy431]; with_reducible exact H2_) | (have H2_ := (Option.bind_some _ _).symm.trans H; with_reducible exact H2_) | with_reducible exact H | (rw [hy431]; exact H) | exact H
          have Ny431 := Aside0.mk hy431
          clear hy431
          replace H := Option.bind_eq_some_iff.mp H
          obtain ⟨t434, A950, H⟩ := H
          replace H : (impl_stateBytes.l2 k3 l0_4 (l0_4.length : Int) (wrap64 (x78_3 + 1)) a0_0 l0_1 l0_2 a0_3 l0_4 l0_5 t434) = some r := H
          have A95 := Aside0.mk A950
          clear A950
          have H' := Aside0.mk H
          clear H
          have p428 : 0 ≤ (x78_3 : Int) := od
          have q428 : x78_3 < (l0_4.length : Int) := od
          obtain ⟨ad428, e428, hx428_0, hx428_1⟩ := at_T88 HR0_4.out x78_3 p428 q428
          cases e428
          replace hx428_0 := hxb HB hx428_0
          replace hx428_1 := hxb HB hx428_1
          replace p428 := eq_true p428
          replace q428 := eq_true q428
          try go_wp2_with (first | ((with_reducible refine gate_dst (N := 10) rfl ?_); refine bx_ 10 #[.int .i64 0, .bool false] 88 (h := ?_); intro gb429 hg w96 hbox hb; have BK429 := Aside0.mk (hbox); have GW429 := Aside0.mk ((by rw [hg]; exact (below_size bel) : w.heap.size ≤ gb429)); have GE429 := GW429; have NB383_429 := Aside0.mk ((by rw [hg]; exact Nat.ne_of_lt (blt BK383) : gb383 ≠ gb429)); have NB429_383 := Aside0.mk NB383_429.out.symm; have NB384_429 := Aside0.mk ((by rw [hg]; exact Nat.ne_of_lt (blt BK384) : gb384 ≠ gb429)); have NB429_384 := Aside0.mk NB384_429.out.symm; replace HO_385000 := Aside0.mk (rbl HO_385000 hb); replace BK383 := Aside0.mk (blb BK383 hb); replace BK384 := Aside0.mk (blb BK384 hb); replace HB := bst hb; clear hb hbox hg; have hnb97 := NB429_383.out; have hnc97 := NB383_429.out; have hnb98 := NB429_384.out; have hnc98 := NB384_429.out; obtain ⟨C99_0, C99_1, -⟩ := cells_2 BK429.out trivial; obtain ⟨F99_0, F99_1, -⟩ := frz_2 BK429.out))
          have n0_ : Aside0 (Kd.R (Kd.int .u8) 5 ((w96.setCell ⟨gb429, 0, none⟩ (.int .i64 ((rd_T88 l0_4 x78_3).f0))).setCell ⟨gb429, 1, none⟩ (.bool ((rd_T88 l0_4 x78_3).f1))) w.heap.size (fun _ => True) u385000 x385000_3) := ⟨by (with_reducible repeat (first | apply Kd.R_alloc | apply Kd.R_drewN | apply Kd.R_drew)); exact Kd.R_mono (Kd.R_far (p := ⟨gb429, 1, none⟩) (Kd.R_far (p := ⟨gb429, 0, none⟩) (Kd.R_types HO_385000.out BK429.out (by decide)) (fun _ hk => hk.2) (.int .i64 ((rd_T88 l0_4 x78_3).f0))) (fun _ hk => hk.2) (.bool ((rd_T88 l0_4 x78_3).f1))) (fun _ hk => trivial)⟩
          have n1_ : Aside0 (((w96.setCell ⟨gb429, 0, none⟩ (.int .i64 ((rd_T88 l0_4 x78_3).f0))).setCell ⟨gb429, 1, none⟩ (.bool ((rd_T88 l0_4 x78_3).f1))).heap[gb383]? = some (.cells #[.int .i64 a0_0, .slice A0_1 l0_1.length c0_1, .slice A0_2 l0_2.length c0_2, .int .i64 a0_3, .slice (some ad428) l0_4.length c0_4, .slice A0_5 l0_5.length c0_5] 37 (0, 0))) := ⟨by (with_reducible repeat (first | refine blk_drewN ?_ _ | refine blk_drew ?_ | refine blk_alloc ?_ _)); refine blk_far ?_ NB383_429.out _; (with_reducible repeat (first | refine blk_drewN ?_ _ | refine blk_drew ?_ | refine blk_alloc ?_ _)); refine blk_far ?_ NB383_429.out _; (with_reducible repeat (first | refine blk_drewN ?_ _ | refine blk_drew ?_ | refine blk_alloc ?_ _)); exact BK383.out⟩
          have n2_ : Aside0 (((w96.setCell ⟨gb429, 0, none⟩ (.int .i64 ((rd_T88 l0_4 x78_3).f0))).setCell ⟨gb429, 1, none⟩ (.bool ((rd_T88 l0_4 x78_3).f1))).heap[gb384]? = some (.cells #[u385000] 29 (0, 0))) := ⟨by (with_reducible repeat (first | refine blk_drewN ?_ _ | refine blk_drew ?_ | refine blk_alloc ?_ _)); refine blk_far ?_ NB384_429.out _; (with_reducible repeat (first | refine blk_drewN ?_ _ | refine blk_drew ?_ | refine blk_alloc ?_ _)); refine blk_far ?_ NB384_429.out _; (with_reducible repeat (first | refine blk_drewN ?_ _ | refine blk_drew ?_ | refine blk_alloc ?_ _)); exact BK384.out⟩
          have n3_ : Aside0 (((w96.setCell ⟨gb429, 0, none⟩ (.int .i64 ((rd_T88 l0_4 x78_3).f0))).setCell ⟨gb429, 1, none⟩ (.bool ((rd_T88 l0_4 x78_3).f1))).heap[gb429]? = some (.cells #[.int .i64 ((rd_T88 l0_4 x78_3).f0), .bool ((rd_T88 l0_4 x78_3).f1)] 88 (0, 0))) := ⟨by (with_reducible repeat (first | refine blk_drewN ?_ _ | refine blk_drew ?_ | refine blk_alloc ?_ _)); refine blk_put (cs := #[.int .i64 ((rd_T88 l0_4 x78_3).f0), .bool false]) ?_ 1 _ rfl; (with_reducible repeat (first | refine blk_drewN ?_ _ | refine blk_drew ?_ | refine blk_alloc ?_ _)); refine blk_put (cs := #[.int .i64 0, .bool false]) ?_ 0 _ rfl; (with_reducible repeat (first | refine blk_drewN ?_ _ | refine blk_drew ?_ | refine blk_alloc ?_ _)); exact BK429.out⟩
          have n4_ : Aside0 (Below w.heap.size w ((w96.setCell ⟨gb429, 0, none⟩ (.int .i64 ((rd_T88 l0_4 x78_3).f0))).setCell ⟨gb429, 1, none⟩ (.bool ((rd_T88 l0_4 x78_3).f1)))) := ⟨bel⟩
          (try clear HO_385000)
          (try clear BK383)
          (try clear BK384)
          (try clear BK429)
          (try clear HB)
          generalize ((w96.setCell ⟨gb429, 0, none⟩ (.int .i64 ((rd_T88 l0_4 x78_3).f0))).setCell ⟨gb429, 1, none⟩ (.bool ((rd_T88 l0_4 x78_3).f1))) = w100 at n0_ n1_ n2_ n3_ n4_ ⊢
          have HO_385000 := n0_
          have BK383 := n1_
          have BK384 := n2_
          have BK429 := n3_
          have HB := n4_
          clear n0_ n1_ n2_ n3_ n4_
          replace HO_385000 := Aside0.mk (Kd.R_drew HO_385000.out)
          replace BK383 := Aside0.mk (blk_drew BK383.out)
          replace BK384 := Aside0.mk (blk_drew BK384.out)
          replace BK429 := Aside0.mk (blk_drew BK429.out)
          replace HB := Aside0.mk (below_drew1 HB.out)
          refine start_ (n := 8) (S := fun w' => w'.cell? ⟨gb429, 0, none⟩ = some (.int .i64 ((rd_T88 l0_4 x78_3).f0)) ∧ w'.cell? ⟨gb429, 1, none⟩ = some (.bool ((rd_T88 l0_4 x78_3).f1)) ∧ w'.cell? ⟨gb384, 0, none⟩ = some (u385000)) (ds := [7]) (tf 0 8) (by kernel_rfl) rfl rfl (cells_2 BK429.out ((blk_cell BK384.out 0).trans rfl)) (fun hHeld => ?_); refine with_tabW impl_stateBytes.tab21 impl_stateBytes.bits21 (fun HT_ HW_ => ?_)
          generalize w100.drew = w101 at HO_385000 BK383 BK384 BK429 HB hHeld ⊢
          iterate 2 (refine pvn_ HT_ (h := ?_))
          refine pv_ HT_ 3 (some 85) (tb 8 11) (h := ?_)
          refine tv_ HT_ HW_ hHeld 2 (some 84) (tf 4 4) (h := ?_)
          refine tvn_ HT_ HW_ hHeld (h := ?_)
          refine one_ (i := 5) (N := some 87) (tf 6 2) rfl rfl (one_of HT_.out (by kernel_rfl)) (by decide) (fun K hK => ?_)
          refine gs_ Try.func70 #[.bool ((rd_T88 l0_4 x78_3).f1)] (h := ?_)
          with_reducible refine (impl_truth.calls ((rd_T88 l0_4 x78_3).f1) t430 _ A94.out).mono ?_
          rintro e w' ⟨rfl, ⟨nd, rfl⟩⟩
          refine ⟨_, rfl, ?_⟩
          refine hK.out _ _ (cells_2 BK429.out ((blk_cell BK384.out 0).trans rfl)) (fun hHeld => ?_)
          clear hK K
          refine nrm_ (some 87) (h := ?_)
          refine one_ (i := 6) (N := some 88) (tf 7 1) rfl rfl (one_of HT_.out (by kernel_rfl)) (by decide) (fun K hK => ?_)
          refine Kd.R_lit_step (Kd.int .i64) _ 3 ?hg (N := 88) ?hd (xs := ([(rd_T88 l0_4 x78_3).f0, t430] : List Int)) (inner := [.int .i64 ((rd_T88 l0_4 x78_3).f0), .int .i64 t430]) (ok := fun _ => True) (okp := fun _ => True) ?hr ?hp (fun _ hk => hk) trivial (Below.refl _ _) (Nat.le_refl _) (by simp) ?_; (case hd => rfl); (case hg => rfl); (case hr => first | (go_simp; done) | (go_simp; rfl)); (case hp => exact (Reps.one (show Kd.M (Kd.int .i64) _ _ _ ((rd_T88 l0_4 x78_3).f0) [.int .i64 ((rd_T88 l0_4 x78_3).f0)] from rfl) (Reps.one (show Kd.M (Kd.int .i64) _ _ _ t430 [.int .i64 t430] from rfl) (Reps.none _ _))))
          intro v432 w102 ho103 hb hg_ hnew_
          clear hg_ hnew_
          (first | rw [← Ny431.out] at ho103 | (simp only [Int.reduceToNat] at ho103; rw [← Ny431.out] at ho103))
          have HO433 := Aside0.mk (Kd.R_lower ho103 (below_size bel))
          replace HO_385000 := Aside0.mk (rbl HO_385000 hb)
          replace BK383 := Aside0.mk (blb BK383 hb)
          replace BK384 := Aside0.mk (blb BK384 hb)
          replace BK429 := Aside0.mk (blb BK429 hb)
          replace HB := bst hb
          clear hb ho103
          obtain ⟨Ao104, co104, eo104⟩ := Kd.R_slice HO_385000.out
          (first | subst eo104 | (injection eo104 with f1_ f2_ f3_; have f4_ := f1_.symm; have f5_ := f3_.symm; clear f1_ f2_ f3_; subst f4_; subst f5_))
          obtain ⟨Ao105, co105, eo105⟩ := Kd.R_slice HO433.out
          (first | subst eo105 | (injection eo105 with f1_ f2_ f3_; have f4_ := f1_.symm; have f5_ := f3_.symm; clear f1_ f2_ f3_; subst f4_; subst f5_))
          refine hK.out _ _ (cells_2 BK429.out ((blk_cell BK384.out 0).trans rfl)) (fun hHeld => ?_)
          clear hK K
          refine nrm_ (some 88) (h := ?_)
          refine last_ (i := 7) (N := some 89) (tf 8 0) rfl rfl (one_of HT_.out (by kernel_rfl)) (by decide) (fun K hK => ?_)
          refine virtual_put.gsc_ Try.func67 #[.slice Ao105 y431.length co105, .pointer (some ⟨gb384, 0, none⟩)] (c := .pointer (some ⟨gb384, 0, none⟩)) (h := ?_)
          with_reducible refine (virtual_put.calls k3 (.slice Ao104 x385000_3.length co104) x385000_3 _ _ y431 t434 w _ gb384 (bkp BK384) GE384.out ?side1 ?side2 ?side3 ?side4 (by rw [Ny431.out]; simp) A95.out).mono ?_
          (case side1 => repeat (first | (with_reducible first | exact HB.out | apply below_alloc | apply pw_below_drewN | apply below_drew1 | refine below_set ?_ GE383.out | refine below_set ?_ GE384.out | refine below_set ?_ GE429.out) | exact HB.out))
          (case side2 => exact Kd.R_tight rfl HO_385000.out)
          (case side3 => exact Kd.C_kept_own ((Kd.R_apart' HO433.out (Kd.R_typed HO_385000.out) (by decide))) (fun k_ hk_ hs_ => (hk_.2) hs_))
          (case side4 => exact (Kd.R_reads' HO433.out).2.1)
          rintro e _ ⟨w106, v435, rfl, rfl, ho0, hb, hkp⟩
          refine ⟨_, rfl, ?_⟩
          have n0_ := Aside0.mk (blk_kept (bkp BK383) hkp (fun hs_ => (fun e_ => (Kd.R_ne HO_385000.out BK383.out (by decide)) e_) hs_))
          have n1_ := Aside0.mk (blk_kept (bkp BK384) hkp (fun hs_ => (fun e_ => (Kd.R_ne HO_385000.out BK384.out (by decide)) e_) hs_))
          have n2_ := Aside0.mk (blk_kept (bkp BK429) hkp (fun hs_ => (fun e_ => (Kd.R_ne HO_385000.out BK429.out (by decide)) e_) hs_))
          have n3_ := Aside0.mk (Kd.R_mono (ok' := fun k_ => True) (Kd.R_keptB ((Kd.R_apart' HO433.out (Kd.R_typed HO_385000.out) (by decide))) hkp (fun k_ hk_ hs_ => (hk_.2) hs_)) (fun k_ hk_ => trivial))
          have n4_ := Aside0.mk (Kd.R_mono (ok' := fun k_ => True) ho0 (fun k_ hk_ => trivial))
          have n5_ := Aside0.mk (hb)
          clear BK383
          clear BK384
          clear BK429
          clear HO433
          clear HB
          clear HO_385000
          have BK383 := n0_
          have BK384 := n1_
          have BK429 := n2_
          have HO433 := n3_
          have HO436 := n4_
          have HB := n5_
          clear n0_ n1_ n2_ n3_ n4_ n5_
          (try clear hb)
          (try clear hkp)
          (try clear ho0)
          obtain ⟨Ao107, co107, eo107⟩ := Kd.R_slice HO436.out
          (first | subst eo107 | (injection eo107 with f1_ f2_ f3_; have f4_ := f1_.symm; have f5_ := f3_.symm; clear f1_ f2_ f3_; subst f4_; subst f5_))
          refine hK.out _ _ ?_
          clear hK K
          refine done_ (done_of HT_.out (by kernel_rfl)) ?_
          try go_wp2
          go_roundg k3
          case measure => have := HK1.out; have := HK2.out; have := HK3.out; omega
          case rel => exact ⟨(wrap64 (x78_3 + 1)), (t434), (.slice Ao107 t434.length co107), rs_, H', ⟨by have := HK1.out; have := HK2.out; have := HK3.out; omega⟩, ⟨by (with_reducible repeat (first | apply Kd.R_alloc | apply Kd.R_drewN | apply Kd.R_drew)); exact Kd.R_mono (Kd.R_far (p := ⟨gb384, 0, none⟩) (Kd.R_types HO436.out BK384.out (by decide)) (fun _ hk => hk.2) (.slice Ao107 t434.length co107)) (fun _ hk => trivial)⟩, ⟨by (with_reducible repeat (first | refine blk_drewN ?_ _ | refine blk_drew ?_ | refine blk_alloc ?_ _)); refine blk_far ?_ NB383_384.out _; (with_reducible repeat (first | refine blk_drewN ?_ _ | refine blk_drew ?_ | refine blk_alloc ?_ _)); exact BK383.out⟩, ⟨by (with_reducible repeat (first | refine blk_drewN ?_ _ | refine blk_drew ?_ | refine blk_alloc ?_ _)); refine blk_put (cs := #[.slice Ao104 x385000_3.length co104]) ?_ 0 _ rfl; (with_reducible repeat (first | refine blk_drewN ?_ _ | refine blk_drew ?_ | refine blk_alloc ?_ _)); exact BK384.out⟩, ⟨bel⟩⟩
         rw [if_neg c93] at H
         exact absurd H (by simp)
        rw [if_neg c92] at H
        exact absurd H (by simp)
       rw [if_neg c91] at H
       have c91b0 : decide (x78_3 < (l0_4.length : Int)) = false := decide_eq_false c91
       clear c91
       obtain ⟨y437, hy437⟩ : ∃ y_ : List Int, y_ = (([(l0_5.length : Int)] : List Int)) := ⟨_, rfl⟩
       replace H : ((virtual_put.f k3 x385000_3 y437).bind fun t440 => (impl_stateBytes.l3 k3 l0_5 (l0_5.length : Int) 0 t440)) = some r := by first | (rw [hy437]; with_reducible exact H) | (have H2_ := (Option.bind_some _ _).symm.trans H; rw [hy437]; with_reducible exact H2_) | (have H2_ := (Option.bind_some _ _).symm.trans H; with_reducible exact H2_) | with_reducible exact H | (rw [hy437]; exact H) | exact H
       have Ny437 := Aside0.mk hy437
       clear hy437
       replace H := Option.bind_eq_some_iff.mp H
       obtain ⟨t440, A1090, H⟩ := H
       replace H : (impl_stateBytes.l3 k3 l0_5 (l0_5.length : Int) 0 t440) = some r := H
       have A109 := Aside0.mk A1090
       clear A1090
       have H' := Aside0.mk H
       clear H
       have hnb110 := NB383_384.out
       have hnc110 := NB384_383.out
       obtain ⟨C111_0, C111_1, C111_2, C111_3, C111_4, C111_5, -⟩ := cells_6 BK383.out trivial
       obtain ⟨F111_0, F111_1, F111_2, F111_3, F111_4, F111_5, -⟩ := frz_6 BK383.out
       go_wp2_with (first | ((with_reducible refine gate_dst (N := 95) rfl ?_); refine Kd.R_lit (Kd.int .i64) _ 3 ?hg (N := 95) ?hd (xs := ([(l0_5.length : Int)] : List Int)) (inner := [.int .i64 (l0_5.length : Int)]) (ok := fun _ => True) (okp := fun _ => True) ?hr ?hp (fun _ hk => hk) trivial (Below.refl _ _) (Nat.le_refl _) (by simp) ?_; (case hd => rfl); (case hg => rfl); (case hr => first | (go_simp; done) | (go_simp; rfl)); (case hp => exact (Reps.one (show Kd.M (Kd.int .i64) _ _ _ (l0_5.length : Int) [.int .i64 (l0_5.length : Int)] from rfl) (Reps.none _ _))); intro v438 w112 ho113 hb hg_ hnew_; clear hg_ hnew_; (first | rw [← Ny437.out] at ho113 | (simp only [Int.reduceToNat] at ho113; rw [← Ny437.out] at ho113)); have HO439 := Aside0.mk (Kd.R_lower ho113 (below_size bel)); replace HO_385000 := Aside0.mk (rbl HO_385000 hb); replace BK383 := Aside0.mk (blb BK383 hb); replace BK384 := Aside0.mk (blb BK384 hb); replace HB := bst hb; clear hb ho113; have C114_0 : w112.cell? ⟨gb384, 0, none⟩ = some (u385000) := (blk_cell BK384.out 0).trans rfl; have F114_0 := blk_frozen BK384.out 0; obtain ⟨Ao115, co115, eo115⟩ := Kd.R_slice HO_385000.out; subst eo115; obtain ⟨Ao116, co116, eo116⟩ := Kd.R_slice HO439.out; subst eo116) | ((with_reducible refine gate_dst (N := 96) rfl ?_); refine virtual_put.glc_ (some 96) Try.func67 #[.slice Ao116 y437.length co116, .pointer (some ⟨gb384, 0, none⟩)] (c := .pointer (some ⟨gb384, 0, none⟩)) (h := ?_); (with_reducible refine (virtual_put.calls k3 (.slice Ao115 x385000_3.length co115) x385000_3 _ _ y437 t440 w _ gb384 (bkp BK384) GE384.out ?side1 ?side2 ?side3 ?side4 (by rw [Ny437.out]; simp) A109.out).mono ?_); (case side1 => repeat (first | (with_reducible first | exact HB.out | apply below_alloc | apply pw_below_drewN | apply below_drew1 | refine below_set ?_ GE383.out | refine below_set ?_ GE384.out) | exact HB.out)); (case side2 => exact Kd.R_tight rfl HO_385000.out); (case side3 => exact Kd.C_kept_own ((Kd.R_apart' HO439.out (Kd.R_typed HO_385000.out) (by decide))) (fun k_ hk_ hs_ => (hk_.2) hs_)); (case side4 => exact (Kd.R_reads' HO439.out).2.1); rintro e _ ⟨w117, v441, rfl, rfl, ho0, hb, hkp⟩; refine ⟨_, rfl, ?_⟩; have n0_ := Aside0.mk (blk_kept (bkp BK383) hkp (fun hs_ => (fun e_ => (Kd.R_ne HO_385000.out BK383.out (by decide)) e_) hs_)); have n1_ := Aside0.mk (blk_kept (bkp BK384) hkp (fun hs_ => (fun e_ => (Kd.R_ne HO_385000.out BK384.out (by decide)) e_) hs_)); have n2_ := Aside0.mk (Kd.R_mono (ok' := fun k_ => True) (Kd.R_keptB ((Kd.R_apart' HO439.out (Kd.R_typed HO_385000.out) (by decide))) hkp (fun k_ hk_ hs_ => (hk_.2) hs_)) (fun k_ hk_ => trivial)); have n3_ := Aside0.mk (Kd.R_mono (ok' := fun k_ => True) ho0 (fun k_ hk_ => trivial)); have n4_ := Aside0.mk (hb); clear BK383; clear BK384; clear HO439; clear HB; clear HO_385000; have BK383 := n0_; have BK384 := n1_; have HO439 := n2_; have HO442 := n3_; have HB := n4_; clear n0_ n1_ n2_ n3_ n4_; (try clear hb); (try clear hkp); (try clear ho0); obtain ⟨Ao118, co118, eo118⟩ := Kd.R_slice HO442.out; subst eo118; have C119_0 : w117.cell? ⟨gb384, 0, none⟩ = some (.slice Ao115 x385000_3.length co115) := (blk_cell BK384.out 0).trans rfl; have F119_0 := blk_frozen BK384.out 0; obtain ⟨C120_0, C120_1, C120_2, C120_3, C120_4, C120_5, -⟩ := cells_6 BK383.out trivial; obtain ⟨F120_0, F120_1, F120_2, F120_3, F120_4, F120_5, -⟩ := frz_6 BK383.out))
       go_loopg [100] k3 (fun kq v100 w' => ∃ (x100_4 : Int) (x385000_4 : List Int) (u385000 : Value), v100 = .int .i64 x100_4 ∧ Aside0 (impl_stateBytes.l3 kq l0_5 (l0_5.length : Int) x100_4 x385000_4 = some r) ∧ Aside0 (kq ≤ k3) ∧ Aside0 (Kd.R (Kd.int .u8) 5 w' w.heap.size (fun _ => True) u385000 x385000_4) ∧ Aside0 (w'.heap[gb383]? = some (.cells #[.int .i64 a0_0, (.slice A0_1 l0_1.length c0_1), (.slice A0_2 l0_2.length c0_2), .int .i64 a0_3, (.slice A0_4 l0_4.length c0_4), (.slice A0_5 l0_5.length c0_5)] 37 (0, 0))) ∧ Aside0 (w'.heap[gb384]? = some (.cells #[u385000] 29 (0, 0))) ∧ Aside0 (Below w.heap.size w w'))
       case atStart => exact ⟨(0), (t440), (.slice Ao118 t440.length co118), rs_, H', ⟨Nat.le_refl _⟩, ⟨by (with_reducible repeat (first | apply Kd.R_alloc | apply Kd.R_drewN | apply Kd.R_drew)); exact Kd.R_mono (Kd.R_far (p := ⟨gb384, 0, none⟩) (Kd.R_types HO442.out BK384.out (by decide)) (fun _ hk => hk.2) (.slice Ao118 t440.length co118)) (fun _ hk => trivial)⟩, ⟨by (with_reducible repeat (first | refine blk_drewN ?_ _ | refine blk_drew ?_ | refine blk_alloc ?_ _)); refine blk_far ?_ NB383_384.out _; (with_reducible repeat (first | refine blk_drewN ?_ _ | refine blk_drew ?_ | refine blk_alloc ?_ _)); exact BK383.out⟩, ⟨by (with_reducible repeat (first | refine blk_drewN ?_ _ | refine blk_drew ?_ | refine blk_alloc ?_ _)); refine blk_put (cs := #[.slice Ao115 x385000_3.length co115]) ?_ 0 _ rfl; (with_reducible repeat (first | refine blk_drewN ?_ _ | refine blk_drew ?_ | refine blk_alloc ?_ _)); exact BK384.out⟩, ⟨bel⟩⟩
       case round =>
        clear H'
        try clear c1; try clear c2; try clear p2; try clear c3; try clear p3; try clear q3; try clear hx3; try clear c4; try clear p4; try clear q4; try clear hx4; try clear c5; try clear c6; try clear p6; try clear c7; try clear c8; try clear c9; try clear c10; try clear c11; try clear c15; try clear c15b0; try clear c16; try clear c16b0; try clear c17; try clear c17b0; try clear c22; try clear c23; try clear c30; try clear c36; try clear c39; try clear p39; try clear q39; try clear hx39; try clear c41; try clear p41; try clear q41; try clear hx41; try clear p42; try clear q42; try clear hx42; try clear c43; try clear c54; try clear c54b0; try clear c55; try clear c55b0; try clear c56; try clear c56b0; try clear c60; try clear c61; try clear c64; try clear p64; try clear c69; try clear c70; try clear c80; try clear c91; try clear c91b0; try clear c92; try clear c92b0; try clear c93; try clear c93b0; try clear c97; try clear c98; try clear c108; try clear c110; try clear C111_0 C111_1 C111_2 C111_3 C111_4 C111_5; try clear C114_0; try clear C119_0; try clear C120_0 C120_1 C120_2 C120_3 C120_4 C120_5; try clear C13_0; try clear C14_0 C14_1 C14_2 C14_3 C14_4 C14_5; try clear C24_0 C24_1 C24_2 C24_3; try clear C33_0 C33_1 C33_2 C33_3; try clear C37_0; try clear C41_0; try clear C44_0 C44_1 C44_2 C44_3 C44_4 C44_5; try clear C47_0; try clear C52_0; try clear C53_0 C53_1 C53_2 C53_3 C53_4 C53_5; try clear C62_0 C62_1; try clear C65_0; try clear C66_0 C66_1; try clear C6_0 C6_1 C6_2 C6_3 C6_4 C6_5; try clear C70_0; try clear C71_0 C71_1; try clear C74_0; try clear C78_0; try clear C81_0 C81_1 C81_2 C81_3 C81_4 C81_5; try clear C84_0; try clear C89_0; try clear C90_0 C90_1 C90_2 C90_3 C90_4 C90_5; try clear C99_0 C99_1; try clear C9_0; try clear F111_0 F111_1 F111_2 F111_3 F111_4 F111_5; try clear F114_0; try clear F119_0; try clear F120_0 F120_1 F120_2 F120_3 F120_4 F120_5; try clear F13_0; try clear F14_0 F14_1 F14_2 F14_3 F14_4 F14_5; try clear F24_0 F24_1 F24_2 F24_3; try clear F33_0 F33_1 F33_2 F33_3; try clear F37_0; try clear F41_0; try clear F44_0 F44_1 F44_2 F44_3 F44_4 F44_5; try clear F47_0; try clear F52_0; try clear F53_0 F53_1 F53_2 F53_3 F53_4 F53_5; try clear F62_0 F62_1; try clear F65_0; try clear F66_0 F66_1; try clear F6_0 F6_1 F6_2 F6_3 F6_4 F6_5; try clear F70_0; try clear F71_0 F71_1; try clear F74_0; try clear F78_0; try clear F81_0 F81_1 F81_2 F81_3 F81_4 F81_5; try clear F84_0; try clear F89_0; try clear F90_0 F90_1 F90_2 F90_3 F90_4 F90_5; try clear F99_0 F99_1; try clear F9_0; try clear hx391_0; try clear hx391_1; try clear hx391_2; try clear hx391_3; try clear hx411_0; try clear hx411_1; try clear hx428_0; try clear hx428_1; try clear p2; try clear p3; try clear p39; try clear p391; try clear p4; try clear p41; try clear p411; try clear p428; try clear p6; try clear p64; try clear q3; try clear q39; try clear q391; try clear q4; try clear q41; try clear q411; try clear q428
        obtain ⟨x100_4, x385000_4, u385000, rfl, HA, HK4, HO_385000, BK383, BK384, HB⟩ := hrel
        cases gk with
        | zero => exact absurd HA.out (by simp [impl_stateBytes.l3])
        | succ k4 =>
         have H := HA.out
         clear HA
         simp only [impl_stateBytes.l3] at H
         by_cases c121 : x100_4 < (l0_5.length : Int)
         ·rw [if_pos c121] at H
          have c121b0 : decide (x100_4 < (l0_5.length : Int)) = true := decide_eq_true c121
          clear c121
          by_cases c122 : 0 ≤ x100_4
          ·rw [if_pos c122] at H
           have c122b0 : decide (0 ≤ x100_4) = true := decide_eq_true c122
           clear c122
           by_cases c123 : x100_4 < (l0_5.length : Int)
           ·rw [if_pos c123] at H
            have c123b0 : decide (x100_4 < (l0_5.length : Int)) = true := decide_eq_true c123
            clear c123
            obtain ⟨y445, hy445⟩ : ∃ y_ : List Int, y_ = (([(rd_T92 l0_5 x100_4).f0, (rd_T92 l0_5 x100_4).f1, (rd_T92 l0_5 x100_4).f2.f0, (rd_T92 l0_5 x100_4).f2.f1] : List Int)) := ⟨_, rfl⟩
            replace H : ((virtual_put.f k4 x385000_4 y445).bind fun t448 => (impl_stateBytes.l3 k4 l0_5 (l0_5.length : Int) (wrap64 (x100_4 + 1)) t448)) = some r := by first | (rw [hy445]; with_reducible exact H) | (have H2_ := (Option.bind_some _ _).symm.trans H; rw [hy445]; with_reducible exact H2_) | (have H2_ := (Option.bind_some _ _).symm.trans H; with_reducible exact H2_) | with_reducible exact H | (rw [hy445]; exact H) | exact H
            have Ny445 := Aside0.mk hy445
            clear hy445
            replace H := Option.bind_eq_some_iff.mp H
            obtain ⟨t448, A1240, H⟩ := H
            replace H : (impl_stateBytes.l3 k4 l0_5 (l0_5.length : Int) (wrap64 (x100_4 + 1)) t448) = some r := H
            have A124 := Aside0.mk A1240
            clear A1240
            have H' := Aside0.mk H
            clear H
            have p443 : 0 ≤ (x100_4 : Int) := od
            have q443 : x100_4 < (l0_5.length : Int) := od
            obtain ⟨ad443, e443, hx443_0, hx443_1, hx443_2, hx443_3⟩ := at_T92 HR0_5.out x100_4 p443 q443
            cases e443
            replace hx443_0 := hxb HB hx443_0
            replace hx443_1 := hxb HB hx443_1
            replace hx443_2 := hxb HB hx443_2
            replace hx443_3 := hxb HB hx443_3
            replace p443 := eq_true p443
            replace q443 := eq_true q443
            go_wp2_with (first | ((with_reducible refine gate_dst (N := 12) rfl ?_); refine bx_ 12 #[.int .i64 0, .int .i64 0, .int .i64 0, .int .i64 0] 92 (h := ?_); intro gb444 hg w125 hbox hb; have BK444 := Aside0.mk (hbox); have GW444 := Aside0.mk ((by rw [hg]; exact (below_size bel) : w.heap.size ≤ gb444)); have GE444 := GW444; have NB383_444 := Aside0.mk ((by rw [hg]; exact Nat.ne_of_lt (blt BK383) : gb383 ≠ gb444)); have NB444_383 := Aside0.mk NB383_444.out.symm; have NB384_444 := Aside0.mk ((by rw [hg]; exact Nat.ne_of_lt (blt BK384) : gb384 ≠ gb444)); have NB444_384 := Aside0.mk NB384_444.out.symm; replace HO_385000 := Aside0.mk (rbl HO_385000 hb); replace BK383 := Aside0.mk (blb BK383 hb); replace BK384 := Aside0.mk (blb BK384 hb); replace HB := bst hb; clear hb hbox hg; have hnb126 := NB444_383.out; have hnc126 := NB383_444.out; have hnb127 := NB444_384.out; have hnc127 := NB384_444.out; obtain ⟨C128_0, C128_1, C128_2, C128_3, -⟩ := cells_4 BK444.out trivial; obtain ⟨F128_0, F128_1, F128_2, F128_3, -⟩ := frz_4 BK444.out) | ((with_reducible refine gate_dst (N := 115) rfl ?_); refine Kd.R_lit (Kd.int .i64) _ 3 ?hg (N := 115) ?hd (xs := ([(rd_T92 l0_5 x100_4).f0, (rd_T92 l0_5 x100_4).f1, (rd_T92 l0_5 x100_4).f2.f0, (rd_T92 l0_5 x100_4).f2.f1] : List Int)) (inner := [.int .i64 ((rd_T92 l0_5 x100_4).f0), .int .i64 ((rd_T92 l0_5 x100_4).f1), .int .i64 ((rd_T92 l0_5 x100_4).f2.f0), .int .i64 ((rd_T92 l0_5 x100_4).f2.f1)]) (ok := fun _ => True) (okp := fun _ => True) ?hr ?hp (fun _ hk => hk) trivial (Below.refl _ _) (Nat.le_refl _) (by simp) ?_; (case hd => rfl); (case hg => rfl); (case hr => first | (go_simp; done) | (go_simp; rfl)); (case hp => exact (Reps.one (show Kd.M (Kd.int .i64) _ _ _ ((rd_T92 l0_5 x100_4).f0) [.int .i64 ((rd_T92 l0_5 x100_4).f0)] from rfl) (Reps.one (show Kd.M (Kd.int .i64) _ _ _ ((rd_T92 l0_5 x100_4).f1) [.int .i64 ((rd_T92 l0_5 x100_4).f1)] from rfl) (Reps.one (show Kd.M (Kd.int .i64) _ _ _ ((rd_T92 l0_5 x100_4).f2.f0) [.int .i64 ((rd_T92 l0_5 x100_4).f2.f0)] from rfl) (Reps.one (show Kd.M (Kd.int .i64) _ _ _ ((rd_T92 l0_5 x100_4).f2.f1) [.int .i64 ((rd_T92 l0_5 x100_4).f2.f1)] from rfl) (Reps.none _ _)))))); intro v446 w129 ho130 hb hg_ hnew_; clear hg_ hnew_; (first | rw [← Ny445.out] at ho130 | (simp only [Int.reduceToNat] at ho130; rw [← Ny445.out] at ho130)); have HO447 := Aside0.mk (Kd.R_lower ho130 (below_size bel)); replace HO_385000 := Aside0.mk (Kd.R_below (by (with_reducible repeat (first | apply Kd.R_alloc | apply Kd.R_drewN | apply Kd.R_drew)); exact (Kd.R_mono (Kd.R_far (p := ⟨gb444, 3, none⟩) (Kd.R_far (p := ⟨gb444, 2, none⟩) (Kd.R_far (p := ⟨gb444, 1, none⟩) (Kd.R_far (p := ⟨gb444, 0, none⟩) (Kd.R_types HO_385000.out BK444.out (by decide)) (fun _ hk => hk.2) (.int .i64 ((rd_T92 l0_5 x100_4).f0))) (fun _ hk => hk.2) (.int .i64 ((rd_T92 l0_5 x100_4).f1))) (fun _ hk => hk.2) (.int .i64 ((rd_T92 l0_5 x100_4).f2.f0))) (fun _ hk => hk.2) (.int .i64 ((rd_T92 l0_5 x100_4).f2.f1))) (fun _ h_ => h_.1))) hb); replace BK383 := Aside0.mk (blk_below (g := gb383) (o := .cells #[.int .i64 a0_0, .slice A0_1 l0_1.length c0_1, .slice A0_2 l0_2.length c0_2, .int .i64 a0_3, .slice A0_4 l0_4.length c0_4, .slice (some ad443) l0_5.length c0_5] 37 (0, 0)) (by (with_reducible repeat (first | refine blk_drewN ?_ _ | refine blk_drew ?_ | refine blk_alloc ?_ _)); refine blk_far ?_ NB383_444.out _; (with_reducible repeat (first | refine blk_drewN ?_ _ | refine blk_drew ?_ | refine blk_alloc ?_ _)); refine blk_far ?_ NB383_444.out _; (with_reducible repeat (first | refine blk_drewN ?_ _ | refine blk_drew ?_ | refine blk_alloc ?_ _)); refine blk_far ?_ NB383_444.out _; (with_reducible repeat (first | refine blk_drewN ?_ _ | refine blk_drew ?_ | refine blk_alloc ?_ _)); refine blk_far ?_ NB383_444.out _; (with_reducible repeat (first | refine blk_drewN ?_ _ | refine blk_drew ?_ | refine blk_alloc ?_ _)); exact BK383.out) hb); replace BK384 := Aside0.mk (blk_below (g := gb384) (o := .cells #[u385000] 29 (0, 0)) (by (with_reducible repeat (first | refine blk_drewN ?_ _ | refine blk_drew ?_ | refine blk_alloc ?_ _)); refine blk_far ?_ NB384_444.out _; (with_reducible repeat (first | refine blk_drewN ?_ _ | refine blk_drew ?_ | refine blk_alloc ?_ _)); refine blk_far ?_ NB384_444.out _; (with_reducible repeat (first | refine blk_drewN ?_ _ | refine blk_drew ?_ | refine blk_alloc ?_ _)); refine blk_far ?_ NB384_444.out _; (with_reducible repeat (first | refine blk_drewN ?_ _ | refine blk_drew ?_ | refine blk_alloc ?_ _)); refine blk_far ?_ NB384_444.out _; (with_reducible repeat (first | refine blk_drewN ?_ _ | refine blk_drew ?_ | refine blk_alloc ?_ _)); exact BK384.out) hb); replace BK444 := Aside0.mk (blk_below (g := gb444) (o := .cells #[.int .i64 ((rd_T92 l0_5 x100_4).f0), .int .i64 ((rd_T92 l0_5 x100_4).f1), .int .i64 ((rd_T92 l0_5 x100_4).f2.f0), .int .i64 ((rd_T92 l0_5 x100_4).f2.f1)] 92 (0, 0)) (by (with_reducible repeat (first | refine blk_drewN ?_ _ | refine blk_drew ?_ | refine blk_alloc ?_ _)); refine blk_put (cs := #[.int .i64 ((rd_T92 l0_5 x100_4).f0), .int .i64 ((rd_T92 l0_5 x100_4).f1), .int .i64 ((rd_T92 l0_5 x100_4).f2.f0), .int .i64 0]) ?_ 3 _ rfl; (with_reducible repeat (first | refine blk_drewN ?_ _ | refine blk_drew ?_ | refine blk_alloc ?_ _)); refine blk_put (cs := #[.int .i64 ((rd_T92 l0_5 x100_4).f0), .int .i64 ((rd_T92 l0_5 x100_4).f1), .int .i64 0, .int .i64 0]) ?_ 2 _ rfl; (with_reducible repeat (first | refine blk_drewN ?_ _ | refine blk_drew ?_ | refine blk_alloc ?_ _)); refine blk_put (cs := #[.int .i64 ((rd_T92 l0_5 x100_4).f0), .int .i64 0, .int .i64 0, .int .i64 0]) ?_ 1 _ rfl; (with_reducible repeat (first | refine blk_drewN ?_ _ | refine blk_drew ?_ | refine blk_alloc ?_ _)); refine blk_put (cs := #[.int .i64 0, .int .i64 0, .int .i64 0, .int .i64 0]) ?_ 0 _ rfl; (with_reducible repeat (first | refine blk_drewN ?_ _ | refine blk_drew ?_ | refine blk_alloc ?_ _)); exact BK444.out) hb); replace HB := bst hb; clear hb ho130; have hnb131 := NB384_383.out; have hnc131 := NB383_384.out; have C132_0 : w129.cell? ⟨gb384, 0, none⟩ = some (u385000) := (blk_cell BK384.out 0).trans rfl; have F132_0 := blk_frozen BK384.out 0; obtain ⟨Ao133, co133, eo133⟩ := Kd.R_slice HO_385000.out; subst eo133; obtain ⟨Ao134, co134, eo134⟩ := Kd.R_slice HO447.out; subst eo134) | ((with_reducible refine gate_dst (N := 116) rfl ?_); refine virtual_put.glc_ (some 116) Try.func67 #[.slice Ao134 y445.length co134, .pointer (some ⟨gb384, 0, none⟩)] (c := .pointer (some ⟨gb384, 0, none⟩)) (h := ?_); (with_reducible refine (virtual_put.calls k4 (.slice Ao133 x385000_4.length co133) x385000_4 _ _ y445 t448 w _ gb384 (bkp BK384) GE384.out ?side1 ?side2 ?side3 ?side4 (by rw [Ny445.out]; simp) A124.out).mono ?_); (case side1 => repeat (first | (with_reducible first | exact HB.out | apply below_alloc | apply pw_below_drewN | apply below_drew1 | refine below_set ?_ GE383.out | refine below_set ?_ GE384.out | refine below_set ?_ GE444.out) | exact HB.out)); (case side2 => exact Kd.R_tight rfl HO_385000.out); (case side3 => exact Kd.C_kept_own ((Kd.R_apart' HO447.out (Kd.R_typed HO_385000.out) (by decide))) (fun k_ hk_ hs_ => (hk_.2) hs_)); (case side4 => exact (Kd.R_reads' HO447.out).2.1); rintro e _ ⟨w135, v449, rfl, rfl, ho0, hb, hkp⟩; refine ⟨_, rfl, ?_⟩; have n0_ := Aside0.mk (blk_kept (bkp BK383) hkp (fun hs_ => (fun e_ => (Kd.R_ne HO_385000.out BK383.out (by decide)) e_) hs_)); have n1_ := Aside0.mk (blk_kept (bkp BK384) hkp (fun hs_ => (fun e_ => (Kd.R_ne HO_385000.out BK384.out (by decide)) e_) hs_)); have n2_ := Aside0.mk (blk_kept (bkp BK444) hkp (fun hs_ => (fun e_ => (Kd.R_ne HO_385000.out BK444.out (by decide)) e_) hs_)); have n3_ := Aside0.mk (Kd.R_mono (ok' := fun k_ => True) (Kd.R_keptB ((Kd.R_apart' HO447.out (Kd.R_typed HO_385000.out) (by decide))) hkp (fun k_ hk_ hs_ => (hk_.2) hs_)) (fun k_ hk_ => trivial)); have n4_ := Aside0.mk (Kd.R_mono (ok' := fun k_ => True) ho0 (fun k_ hk_ => trivial)); have n5_ := Aside0.mk (hb); clear BK383; clear BK384; clear BK444; clear HO447; clear HB; clear HO_385000; have BK383 := n0_; have BK384 := n1_; have BK444 := n2_; have HO447 := n3_; have HO450 := n4_; have HB := n5_; clear n0_ n1_ n2_ n3_ n4_ n5_; (try clear hb); (try clear hkp); (try clear ho0); obtain ⟨Ao136, co136, eo136⟩ := Kd.R_slice HO450.out; subst eo136; have C137_0 : w135.cell? ⟨gb384, 0, none⟩ = some (.slice Ao133 x385000_4.length co133) := (blk_cell BK384.out 0).trans rfl; have F137_0 := blk_frozen BK384.out 0))
            go_roundg k4
            case measure => have := HK1.out; have := HK2.out; have := HK3.out; have := HK4.out; omega
            case rel => exact ⟨(wrap64 (x100_4 + 1)), (t448), (.slice Ao136 t448.length co136), rs_, H', ⟨by have := HK1.out; have := HK2.out; have := HK3.out; have := HK4.out; omega⟩, ⟨by (with_reducible repeat (first | apply Kd.R_alloc | apply Kd.R_drewN | apply Kd.R_drew)); exact Kd.R_mono (Kd.R_far (p := ⟨gb384, 0, none⟩) (Kd.R_types HO450.out BK384.out (by decide)) (fun _ hk => hk.2) (.slice Ao136 t448.length co136)) (fun _ hk => trivial)⟩, ⟨by (with_reducible repeat (first | refine blk_drewN ?_ _ | refine blk_drew ?_ | refine blk_alloc ?_ _)); refine blk_far ?_ NB383_384.out _; (with_reducible repeat (first | refine blk_drewN ?_ _ | refine blk_drew ?_ | refine blk_alloc ?_ _)); exact BK383.out⟩, ⟨by (with_reducible repeat (first | refine blk_drewN ?_ _ | refine blk_drew ?_ | refine blk_alloc ?_ _)); refine blk_put (cs := #[.slice Ao133 x385000_4.length co133]) ?_ 0 _ rfl; (with_reducible repeat (first | refine blk_drewN ?_ _ | refine blk_drew ?_ | refine blk_alloc ?_ _)); exact BK384.out⟩, ⟨bel⟩⟩
           rw [if_neg c123] at H
           exact absurd H (by simp)
          rw [if_neg c122] at H
          exact absurd H (by simp)
         rw [if_neg c121] at H
         have c121b0 : decide (x100_4 < (l0_5.length : Int)) = false := decide_eq_false c121
         clear c121
         obtain rfl := Option.some.inj H
         have hnb138 := NB384_383.out
         have hnc138 := NB383_384.out
         have C139_0 : wr.cell? ⟨gb384, 0, none⟩ = some (u385000) := (blk_cell BK384.out 0).trans rfl
         have F139_0 := blk_frozen BK384.out 0
         go_wp2
         go_ret
         exact ⟨_, rz_, by (with_reducible repeat (first | apply Kd.R_alloc | apply Kd.R_drewN | apply Kd.R_drew)); exact HO_385000.out, bel⟩

/-! ### impl_StateBytes: function 8 -/
def impl_StateBytes.f (k : Nat) (a0_0 : Int) (l0_1 : List (S70)) (l0_2 : List (S85)) (a0_3 : Int) (l0_4 : List (S88)) (l0_5 : List (S92)) : Option (List Int × Bool) := (impl_StateOk.f k a0_0 l0_1 l0_2 a0_3 l0_4 l0_5).bind fun t452 => (if t452 = true then ((impl_stateBytes.f k a0_0 l0_1 l0_2 a0_3 l0_4 l0_5).bind fun t453 => (some (t453, true))) else (some (([] : List Int), false)))
set_option maxHeartbeats 8000000 in
set_option maxRecDepth 100000 in
theorem impl_StateBytes.calls (k : Nat) (a0_0 : Int) (A0_1 : Option Addr) (c0_1 : Nat) (l0_1 : List (S70)) (A0_2 : Option Addr) (c0_2 : Nat) (l0_2 : List (S85)) (a0_3 : Int) (A0_4 : Option Addr) (c0_4 : Nat) (l0_4 : List (S88)) (A0_5 : Option Addr) (c0_5 : Nat) (l0_5 : List (S92)) (r1 : List Int) (r2 : Bool) (w : World) (hr0_1 : Kd.C k70 w A0_1 l0_1.length l0_1) (hc0_1 : l0_1.length ≤ c0_1) (hr0_2 : Kd.C k85 w A0_2 l0_2.length l0_2) (hc0_2 : l0_2.length ≤ c0_2) (hr0_4 : Kd.C k88 w A0_4 l0_4.length l0_4) (hc0_4 : l0_4.length ≤ c0_4) (hr0_5 : Kd.C k92 w A0_5 l0_5.length l0_5) (hc0_5 : l0_5.length ≤ c0_5) (h : impl_StateBytes.f k a0_0 l0_1 l0_2 a0_3 l0_4 l0_5 = some (r1, r2)) :
  Calls Try.prog 8 #[.agg #[.int .i64 a0_0, .slice A0_1 l0_1.length c0_1, .slice A0_2 l0_2.length c0_2, .int .i64 a0_3, .slice A0_4 l0_4.length c0_4, .slice A0_5 l0_5.length c0_5]] w fun e w' => ∃ v0_ : Value, e = .returned (.tuple #[v0_, .bool r2]) ∧ Kd.R (Kd.int .u8) 5 w' w.heap.size (fun _ => True) v0_ r1 ∧ Below w.heap.size w w' := by
 have hu37 := Try.underlying37
 have HR0_1 := Aside0.mk hr0_1
 have HC0_1 := Aside0.mk hc0_1
 clear hr0_1 hc0_1
 have HR0_2 := Aside0.mk hr0_2
 have HC0_2 := Aside0.mk hc0_2
 clear hr0_2 hc0_2
 have HR0_4 := Aside0.mk hr0_4
 have HC0_4 := Aside0.mk hc0_4
 clear hr0_4 hc0_4
 have HR0_5 := Aside0.mk hr0_5
 have HC0_5 := Aside0.mk hc0_5
 clear hr0_5 hc0_5
 have HB := Aside0.mk (Below.refl w.heap.size w)
 have H : ((impl_StateOk.f k a0_0 l0_1 l0_2 a0_3 l0_4 l0_5).bind fun t452 => (if t452 = true then ((impl_stateBytes.f k a0_0 l0_1 l0_2 a0_3 l0_4 l0_5).bind fun t453 => (some (t453, true))) else (some (([] : List Int), false)))) = some (r1, r2) := h
 clear h
 replace H := Option.bind_eq_some_iff.mp H
 obtain ⟨t452, A20, H⟩ := H
 replace H : (if t452 = true then ((impl_stateBytes.f k a0_0 l0_1 l0_2 a0_3 l0_4 l0_5).bind fun t453 => (some (t453, true))) else (some (([] : List Int), false))) = some (r1, r2) := H
 have A2 := Aside0.mk A20
 clear A20
 by_cases c3 : t452 = true
 ·subst c3
  have H1 : ((impl_stateBytes.f k a0_0 l0_1 l0_2 a0_3 l0_4 l0_5).bind fun t453 => (some (t453, true))) = some (r1, r2) := by rw [if_pos rfl] at H; exact H
  clear H
  have H := H1
  clear H1
  replace H := Option.bind_eq_some_iff.mp H
  obtain ⟨t453, A40, H⟩ := H
  replace H : (some (t453, true)) = some (r1, r2) := H
  have A4 := Aside0.mk A40
  clear A40
  simp only [Option.some.injEq, Prod.mk.injEq] at H
  obtain ⟨rfl, rfl⟩ := H
  go_enter Try.func8, Try.ntmps8
  go_wp2_with (first | ((with_reducible refine gate_dst (N := 1) rfl ?_); refine bx_ 1 #[.int .i64 a0_0, .slice A0_1 l0_1.length c0_1, .slice A0_2 l0_2.length c0_2, .int .i64 a0_3, .slice A0_4 l0_4.length c0_4, .slice A0_5 l0_5.length c0_5] 37 (h := ?_); intro gb451 hg w5 hbox hb; have BK451 := Aside0.mk (hbox); have GW451 := Aside0.mk ((by rw [hg]; exact (below_size bel) : w.heap.size ≤ gb451)); have GE451 := GW451; replace HB := bst hb; clear hb hbox hg; obtain ⟨C6_0, C6_1, C6_2, C6_3, C6_4, C6_5, -⟩ := cells_6 BK451.out trivial; obtain ⟨F6_0, F6_1, F6_2, F6_3, F6_4, F6_5, -⟩ := frz_6 BK451.out) | ((with_reducible refine gate_callee (f := 29) rfl ?_); refine gl_ (some 5) Try.func29 #[.agg #[.int .i64 a0_0, .slice A0_1 l0_1.length c0_1, .slice A0_2 l0_2.length c0_2, .int .i64 a0_3, .slice A0_4 l0_4.length c0_4, .slice A0_5 l0_5.length c0_5]] (h := ?_); (with_reducible refine (impl_StateOk.calls k a0_0 _ _ l0_1 _ _ l0_2 a0_3 _ _ l0_4 _ _ l0_5 true _ ?side1 ?side2 ?side3 ?side4 ?side5 ?side6 ?side7 ?side8 A2.out).mono ?_); (case side1 => exact kcb); (case side2 => exact HC0_1.out); (case side3 => exact kcb); (case side4 => exact HC0_2.out); (case side5 => exact kcb); (case side6 => exact HC0_4.out); (case side7 => exact kcb); (case side8 => exact HC0_5.out); rintro e w7 ⟨rfl, hb⟩; refine ⟨_, rfl, ?_⟩; replace BK451 := Aside0.mk (blb BK451 hb); replace HB := bst hb; (try clear hb); (try clear hb2); (try clear hk); (try clear hi); obtain ⟨C8_0, C8_1, C8_2, C8_3, C8_4, C8_5, -⟩ := cells_6 BK451.out trivial; obtain ⟨F8_0, F8_1, F8_2, F8_3, F8_4, F8_5, -⟩ := frz_6 BK451.out) | ((with_reducible refine gate_callee (f := 30) rfl ?_); refine gl_ (some 8) Try.func30 #[.agg #[.int .i64 a0_0, .slice A0_1 l0_1.length c0_1, .slice A0_2 l0_2.length c0_2, .int .i64 a0_3, .slice A0_4 l0_4.length c0_4, .slice A0_5 l0_5.length c0_5]] (h := ?_); (with_reducible refine (impl_stateBytes.calls k a0_0 _ _ l0_1 _ _ l0_2 a0_3 _ _ l0_4 _ _ l0_5 t453 _ ?side1 ?side2 ?side3 ?side4 ?side5 ?side6 ?side7 ?side8 A4.out).mono ?_); (case side1 => exact kcb); (case side2 => exact HC0_1.out); (case side3 => exact kcb); (case side4 => exact HC0_2.out); (case side5 => exact kcb); (case side6 => exact HC0_4.out); (case side7 => exact kcb); (case side8 => exact HC0_5.out); rintro e w9 ⟨v454, rfl, ho0, hb⟩; refine ⟨_, rfl, ?_⟩; have HO455 := Aside0.mk (Kd.R_lower ho0 (below_size bel)); replace BK451 := Aside0.mk (blb BK451 hb); replace HB := bst hb; (try clear hb); (try clear hb2); (try clear hk); (try clear hi); (try clear ho0)))
  go_ret2
  exact ⟨_, rz_, by (with_reducible repeat (first | apply Kd.R_alloc | apply Kd.R_drewN | apply Kd.R_drew)); exact HO455.out, bel⟩
 replace c3 := Bool.eq_false_iff.mpr c3
 subst c3
 have H1 : (some (([] : List Int), false)) = some (r1, r2) := by rw [if_neg (show ¬ (false = true) by decide)] at H; exact H
 clear H
 have H := H1
 clear H1
 simp only [Option.some.injEq, Prod.mk.injEq] at H
 obtain ⟨rfl, rfl⟩ := H
 go_enter Try.func8, Try.ntmps8
 go_wp2_with (first | ((with_reducible refine gate_dst (N := 1) rfl ?_); refine bx_ 1 #[.int .i64 a0_0, .slice A0_1 l0_1.length c0_1, .slice A0_2 l0_2.length c0_2, .int .i64 a0_3, .slice A0_4 l0_4.length c0_4, .slice A0_5 l0_5.length c0_5] 37 (h := ?_); intro gb451 hg w10 hbox hb; have BK451 := Aside0.mk (hbox); have GW451 := Aside0.mk ((by rw [hg]; exact (below_size bel) : w.heap.size ≤ gb451)); have GE451 := GW451; replace HB := bst hb; clear hb hbox hg; obtain ⟨C11_0, C11_1, C11_2, C11_3, C11_4, C11_5, -⟩ := cells_6 BK451.out trivial; obtain ⟨F11_0, F11_1, F11_2, F11_3, F11_4, F11_5, -⟩ := frz_6 BK451.out) | ((with_reducible refine gate_callee (f := 29) rfl ?_); refine gl_ (some 5) Try.func29 #[.agg #[.int .i64 a0_0, .slice A0_1 l0_1.length c0_1, .slice A0_2 l0_2.length c0_2, .int .i64 a0_3, .slice A0_4 l0_4.length c0_4, .slice A0_5 l0_5.length c0_5]] (h := ?_); (with_reducible refine (impl_StateOk.calls k a0_0 _ _ l0_1 _ _ l0_2 a0_3 _ _ l0_4 _ _ l0_5 false _ ?side1 ?side2 ?side3 ?side4 ?side5 ?side6 ?side7 ?side8 A2.out).mono ?_); (case side1 => exact kcb); (case side2 => exact HC0_1.out); (case side3 => exact kcb); (case side4 => exact HC0_2.out); (case side5 => exact kcb); (case side6 => exact HC0_4.out); (case side7 => exact kcb); (case side8 => exact HC0_5.out); rintro e w12 ⟨rfl, hb⟩; refine ⟨_, rfl, ?_⟩; replace BK451 := Aside0.mk (blb BK451 hb); replace HB := bst hb; (try clear hb); (try clear hb2); (try clear hk); (try clear hi)))
 go_ret2
 exact ⟨_, rz_, by first | exact Kd.R_nil _ _ _ _ _ | exact Kd.N_nil _ _ _ _ _ | exact Kd.V_nil _ _ _ _ _ | exact Kd.Q_nil _ _ _ _ _ | exact Kd.S_nil _ _ _ _ _, bel⟩

end Go.Proofs.Ytmfedjoofnlncaa.PB
