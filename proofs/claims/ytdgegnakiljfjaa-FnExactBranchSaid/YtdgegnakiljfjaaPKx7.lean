-- Written for this claim by the session's program pp.py, out of the kit's print and the seat's translation.
import Derived.Test.YtdgegnakiljfjaaPKx0
import Derived.Test.YtdgegnakiljfjaaPKx5
import Derived.Test.YtdgegnakiljfjaaPKx6
namespace Go.Proofs.Ytdgegnakiljfjaa.PK
open Go.RowKit Go.Proofs.YtdgegnakiljfjaaW.PrintWords Go.Proofs.YtdgegnakiljfjaaW.PrintLast Go.Proofs.YtdgegnakiljfjaaW.PrintMore
attribute [local go_sem] max2_int min2_int max_two min_two max_three min_three max_four min_four   -- for this text's walks alone
set_option linter.unusedVariables false
set_option linter.unusedSimpArgs false

/-! ### bytes_HasPrefix: function 131 -/
def bytes_HasPrefix.f (l0 : List Int) (l1 : List Int) : Option (Bool) := if (l0.length : Int) ≥ (l1.length : Int) then (if 0 ≤ (l1.length : Int) then (if (l1.length : Int) ≤ (l0.length : Int) then ((bytes_Equal.f (l0.take ((l1.length : Int) : Int).toNat) l1).bind fun t277 => (some t277)) else (none)) else (none)) else (some false)
set_option maxHeartbeats 8000000 in
set_option maxRecDepth 100000 in
theorem bytes_HasPrefix.calls (A0 : Option Addr) (c0 : Nat) (l0 : List Int) (A1 : Option Addr) (c1 : Nat) (l1 : List Int) (r : Bool) (w : World) (hr0 : Kd.C (Kd.int .u8) w A0 l0.length l0) (hc0 : l0.length ≤ c0) (hr1 : Kd.C (Kd.int .u8) w A1 l1.length l1) (hc1 : l1.length ≤ c1) (h : bytes_HasPrefix.f l0 l1 = some r) :
  Calls Try.prog 131 #[.slice A0 l0.length c0, .slice A1 l1.length c1] w fun e w' => e = .returned (.bool r) ∧ Drawn0 w w' := by
 have HR0 := Aside0.mk hr0
 have HC0 := Aside0.mk hc0
 clear hr0 hc0
 have HR1 := Aside0.mk hr1
 have HC1 := Aside0.mk hc1
 clear hr1 hc1
 have H : (if (l0.length : Int) ≥ (l1.length : Int) then (if 0 ≤ (l1.length : Int) then (if (l1.length : Int) ≤ (l0.length : Int) then ((bytes_Equal.f (l0.take ((l1.length : Int) : Int).toNat) l1).bind fun t277 => (some t277)) else (none)) else (none)) else (some false)) = some r := h
 clear h
 by_cases c3 : (l0.length : Int) ≥ (l1.length : Int)
 ·rw [if_pos c3] at H
  have c3b0 : decide ((l1.length : Int) ≤ (l0.length : Int)) = true := decide_eq_true c3
  have c3b1 : decide (l1.length ≤ l0.length) = true := decide_eq_true (Int.ofNat_le.mp c3)
  clear c3
  by_cases c4 : 0 ≤ (l1.length : Int)
  ·rw [if_pos c4] at H
   have c4b0 := eq_true c4
   have c4b1 : decide (0 ≤ (l1.length : Int)) = true := decide_eq_true c4
   clear c4
   by_cases c5 : (l1.length : Int) ≤ (l0.length : Int)
   ·rw [if_pos c5] at H
    have c5b0 := eq_true c5
    have c5b1 : decide ((l1.length : Int) ≤ (l0.length : Int)) = true := decide_eq_true c5
    clear c5
    replace H := Option.bind_eq_some_iff.mp H
    obtain ⟨t277, A60, H⟩ := H
    replace H : (some t277) = some r := H
    have A6 := Aside0.mk A60
    clear A60
    obtain rfl := Option.some.inj H
    obtain ⟨i07, hi07, _, hsz7, _⟩ := info_parts info5
    obtain ⟨hcut7, hA7, hC7⟩ := print_take_of (P := Try.prog) (Value.int .u8) 0 52 5 .i64 Try.underlying52 hi07 hsz7 A0 c0 l0 (l1.length : Int) od od HC0.out
    have HR276 := Aside0.mk (Kd.C_of_reads (h1 := fun _ => rfl) (hA7 _ (Kd.reads_of_C HR0.out)))
    have HC276 := Aside0.mk hC7
    clear hA7 hC7 hi07 hsz7
    (try rw [show (l0.take ((l1.length : Int) : Int).toNat).length = (l1.length : Int).toNat from (by rw [List.length_take]; have h_ : ((l1.length : Int) : Int) ≤ (l0.length : Int) := od; omega)] at hcut7)
    (try simp only [Int.toNat_natCast] at hcut7)
    go_enter Try.func131, Try.ntmps131
    go_wp2_with (first | (go_at_call 116; refine calls_of_args (args' := #[.slice A0 (l0.take ((l1.length : Int) : Int).toNat).length c0, .slice A1 l1.length c1]) (by first | (rw [show (l0.take ((l1.length : Int) : Int).toNat).length = (l1.length : Int).toNat from (by rw [List.length_take]; have h_ : ((l1.length : Int) : Int) ≤ (l0.length : Int) := od; omega)] <;> rfl) | rfl) ?_; (with_reducible refine (bytes_Equal.calls _ _ (l0.take ((l1.length : Int) : Int).toNat) _ _ l1 t277 _ ?side1 ?side2 ?side3 ?side4 A6.out).mono ?_); (case side1 => repeat (first | exact HR276.out | (with_reducible refine Kd.C_alloc ?_ _) | (with_reducible refine Kd.C_drewN ?_ _) | (with_reducible refine Kd.C_drew ?_))); (case side2 => exact HC276.out); (case side3 => repeat (first | exact HR1.out | (with_reducible refine Kd.C_alloc ?_ _) | (with_reducible refine Kd.C_drewN ?_ _) | (with_reducible refine Kd.C_drew ?_))); (case side4 => exact HC1.out); rintro e w' ⟨rfl, ⟨nd, rfl⟩⟩))
    go_ret
    exact ⟨by first | rfl | (simp; done) | (simp [*]; done), by repeat (first | exact Drawn0.refl _ | apply Drawn0.step)⟩
   rw [if_neg c5] at H
   exact absurd H (by simp)
  rw [if_neg c4] at H
  exact absurd H (by simp)
 rw [if_neg c3] at H
 have c3b0 : decide ((l1.length : Int) ≤ (l0.length : Int)) = false := decide_eq_false c3
 have c3b1 : decide (l1.length ≤ l0.length) = false := decide_eq_false (fun h => c3 (Int.ofNat_le.mpr h))
 clear c3
 obtain rfl := Option.some.inj H
 go_enter Try.func131, Try.ntmps131
 go_wp2
 go_ret
 exact ⟨by first | rfl | (simp; done) | (simp [*]; done), by repeat (first | exact Drawn0.refl _ | apply Drawn0.step)⟩

/-! ### impl_HasPrefix: function 50 -/
def impl_HasPrefix.f (l0 : List Int) (l1 : List Int) : Option (Bool) := (bytes_HasPrefix.f l0 l1).bind fun t278 => (some t278)
set_option maxHeartbeats 8000000 in
set_option maxRecDepth 100000 in
theorem impl_HasPrefix.calls (A0 : Option Addr) (c0 : Nat) (l0 : List Int) (A1 : Option Addr) (c1 : Nat) (l1 : List Int) (r : Bool) (w : World) (hr0 : Kd.C (Kd.int .u8) w A0 l0.length l0) (hc0 : l0.length ≤ c0) (hr1 : Kd.C (Kd.int .u8) w A1 l1.length l1) (hc1 : l1.length ≤ c1) (h : impl_HasPrefix.f l0 l1 = some r) :
  Calls Try.prog 50 #[.slice A0 l0.length c0, .slice A1 l1.length c1] w fun e w' => e = .returned (.bool r) ∧ Drawn0 w w' := by
 have HR0 := Aside0.mk hr0
 have HC0 := Aside0.mk hc0
 clear hr0 hc0
 have HR1 := Aside0.mk hr1
 have HC1 := Aside0.mk hc1
 clear hr1 hc1
 have H : ((bytes_HasPrefix.f l0 l1).bind fun t278 => (some t278)) = some r := h
 clear h
 replace H := Option.bind_eq_some_iff.mp H
 obtain ⟨t278, A30, H⟩ := H
 replace H : (some t278) = some r := H
 have A3 := Aside0.mk A30
 clear A30
 obtain rfl := Option.some.inj H
 go_enter Try.func50, Try.ntmps50
 go_wp2_with (first | ((with_reducible refine gate_callee (f := 131) rfl ?_); refine gl_ (some 7) Try.func131 #[.slice A0 l0.length c0, .slice A1 l1.length c1] (h := ?_); (with_reducible refine (bytes_HasPrefix.calls _ _ l0 _ _ l1 t278 _ ?side1 ?side2 ?side3 ?side4 A3.out).mono ?_); (case side1 => repeat (first | exact HR0.out | (with_reducible refine Kd.C_alloc ?_ _) | (with_reducible refine Kd.C_drewN ?_ _) | (with_reducible refine Kd.C_drew ?_))); (case side2 => exact HC0.out); (case side3 => repeat (first | exact HR1.out | (with_reducible refine Kd.C_alloc ?_ _) | (with_reducible refine Kd.C_drewN ?_ _) | (with_reducible refine Kd.C_drew ?_))); (case side4 => exact HC1.out); rintro e w' ⟨rfl, ⟨nd, rfl⟩⟩; refine ⟨_, rfl, ?_⟩))
 go_ret
 exact ⟨by first | rfl | (simp; done) | (simp [*]; done), by repeat (first | exact Drawn0.refl _ | apply Drawn0.step)⟩

/-! ### impl_Branch: function 49 -/
mutual
def impl_Branch.l0 : Nat → List Int → List (S92) → Int → Int → Int → List (S92) → List (S94) → Int → List (S109) → List (S75) → Int → Bool → Option (Int × Bool × List Int)
 | 0, _, _, _, _, _, _, _, _, _, _, _, _ => none
 | k + 1, x1, x18, x19, x20, x280000, x280001, x280002, x280003, x280004, x280005, x283000, x283001 => if x20 < x19 then (if 0 ≤ x20 then (if x20 < (x18.length : Int) then ((impl_HasPrefix.f ((rd_T92 x18 x20).f0) x1).bind fun t285 => (if t285 = true then (impl_Branch.l0 k x1 x18 x19 (wrap64 (x20 + 1)) x280000 x280001 x280002 x280003 x280004 x280005 (mx x283000 ((rd_T92 x18 x20).f2)) true) else (impl_Branch.l0 k x1 x18 x19 (wrap64 (x20 + 1)) x280000 x280001 x280002 x280003 x280004 x280005 x283000 x283001))) else (none)) else (none)) else (impl_Branch.l1 k x1 x280002 (x280002.length : Int) 0 x283000 x283001)
def impl_Branch.l1 : Nat → List Int → List (S94) → Int → Int → Int → Bool → Option (Int × Bool × List Int)
 | 0, _, _, _, _, _, _ => none
 | k + 1, x1, x37, x38, x39, x283000, x283001 => if x39 < x38 then (if 0 ≤ x39 then (if x39 < (x37.length : Int) then ((impl_HasPrefix.f ((rd_T94 x37 x39).f0) x1).bind fun t288 => (if t288 = true then (impl_Branch.l1 k x1 x37 x38 (wrap64 (x39 + 1)) (mx x283000 ((rd_T94 x37 x39).f1)) x283001) else (impl_Branch.l1 k x1 x37 x38 (wrap64 (x39 + 1)) x283000 x283001))) else (none)) else (none)) else (some (x283000, x283001, ([] : List Int)))
end
def impl_Branch.f (k : Nat) (a0_0 : Int) (l0_1 : List (S92)) (l0_2 : List (S94)) (a0_3 : Int) (l0_4 : List (S109)) (l0_5 : List (S75)) (l1 : List Int) : Option (Int × Bool × List Int) := (impl_StateOk.f k a0_0 l0_1 l0_2 a0_3 l0_4 l0_5).bind fun t281 => (if t281 = true then (impl_Branch.l0 k l1 l0_1 (l0_1.length : Int) 0 a0_0 l0_1 l0_2 a0_3 l0_4 l0_5 a0_3 false) else (some (0, false, ([] : List Int))))
set_option maxHeartbeats 8000000 in
set_option maxRecDepth 100000 in
theorem impl_Branch.calls (k : Nat) (a0_0 : Int) (A0_1 : Option Addr) (c0_1 : Nat) (l0_1 : List (S92)) (A0_2 : Option Addr) (c0_2 : Nat) (l0_2 : List (S94)) (a0_3 : Int) (A0_4 : Option Addr) (c0_4 : Nat) (l0_4 : List (S109)) (A0_5 : Option Addr) (c0_5 : Nat) (l0_5 : List (S75)) (A1 : Option Addr) (c1 : Nat) (l1 : List Int) (r1 : Int) (r2 : Bool) (r3 : List Int) (w : World) (hr0_1 : Kd.C k92 w A0_1 l0_1.length l0_1) (hc0_1 : l0_1.length ≤ c0_1) (hr0_2 : Kd.C k94 w A0_2 l0_2.length l0_2) (hc0_2 : l0_2.length ≤ c0_2) (hr0_4 : Kd.C k109 w A0_4 l0_4.length l0_4) (hc0_4 : l0_4.length ≤ c0_4) (hr0_5 : Kd.C k75 w A0_5 l0_5.length l0_5) (hc0_5 : l0_5.length ≤ c0_5) (hr1 : Kd.C (Kd.int .u8) w A1 l1.length l1) (hc1 : l1.length ≤ c1) (h : impl_Branch.f k a0_0 l0_1 l0_2 a0_3 l0_4 l0_5 l1 = some (r1, r2, r3)) :
  Calls Try.prog 49 #[.agg #[.int .i64 a0_0, .slice A0_1 l0_1.length c0_1, .slice A0_2 l0_2.length c0_2, .int .i64 a0_3, .slice A0_4 l0_4.length c0_4, .slice A0_5 l0_5.length c0_5], .slice A1 l1.length c1] w fun e w' => ∃ v2_ : Value, e = .returned (.agg #[.int .i64 r1, .bool r2, v2_]) ∧ Kd.R (Kd.int .u8) 5 w' w.heap.size (fun _ => True) v2_ r3 ∧ Below w.heap.size w w' := by
 have hu35 := Try.underlying35
 have hu89 := Try.underlying89
 have hu92 := Try.underlying92
 have hu94 := Try.underlying94
 have HR0_1 := Aside0.mk hr0_1
 have HC0_1 := Aside0.mk hc0_1
 clear hr0_1 hc0_1
 have HR0_2 := Aside0.mk hr0_2
 have HC0_2 := Aside0.mk hc0_2
 clear hr0_2 hc0_2
 have HR0_4 := Aside0.mk hr0_4
 have HC0_4 := Aside0.mk hc0_4
 clear hr0_4 hc0_4
 have HR0_5 := Aside0.mk hr0_5
 have HC0_5 := Aside0.mk hc0_5
 clear hr0_5 hc0_5
 have HR1 := Aside0.mk hr1
 have HC1 := Aside0.mk hc1
 clear hr1 hc1
 have HB := Aside0.mk (Below.refl w.heap.size w)
 have H : ((impl_StateOk.f k a0_0 l0_1 l0_2 a0_3 l0_4 l0_5).bind fun t281 => (if t281 = true then (impl_Branch.l0 k l1 l0_1 (l0_1.length : Int) 0 a0_0 l0_1 l0_2 a0_3 l0_4 l0_5 a0_3 false) else (some (0, false, ([] : List Int))))) = some (r1, r2, r3) := h
 clear h
 replace H := Option.bind_eq_some_iff.mp H
 obtain ⟨t281, A30, H⟩ := H
 replace H : (if t281 = true then (impl_Branch.l0 k l1 l0_1 (l0_1.length : Int) 0 a0_0 l0_1 l0_2 a0_3 l0_4 l0_5 a0_3 false) else (some (0, false, ([] : List Int)))) = some (r1, r2, r3) := H
 have A3 := Aside0.mk A30
 clear A30
 by_cases c4 : t281 = true
 ·subst c4
  have H1 : (impl_Branch.l0 k l1 l0_1 (l0_1.length : Int) 0 a0_0 l0_1 l0_2 a0_3 l0_4 l0_5 a0_3 false) = some (r1, r2, r3) := by rw [if_pos rfl] at H; exact H
  clear H
  have H := H1
  clear H1
  have H' := Aside0.mk H
  clear H
  go_enter Try.func49, Try.ntmps49
  go_wp2_with (first | ((with_reducible refine gate_dst (N := 2) rfl ?_); refine bx_ 2 #[.int .i64 a0_0, .slice A0_1 l0_1.length c0_1, .slice A0_2 l0_2.length c0_2, .int .i64 a0_3, .slice A0_4 l0_4.length c0_4, .slice A0_5 l0_5.length c0_5] 35 (h := ?_); intro gb279 hg w5 hbox hb; have BK279 := Aside0.mk (hbox); have GW279 := Aside0.mk ((by rw [hg]; exact (below_size bel) : w.heap.size ≤ gb279)); have GE279 := GW279; replace HB := bst hb; clear hb hbox hg) | ((with_reducible refine gate_dst (N := 4) rfl ?_); refine bx_ 4 #[.int .i64 0, .bool false, .slice none 0 0] 89 (h := ?_); intro gb280 hg w6 hbox hb; have BK280 := Aside0.mk (hbox); have GW280 := Aside0.mk ((by rw [hg]; exact (below_size bel) : w.heap.size ≤ gb280)); have GE280 := GW280; have NB279_280 := Aside0.mk ((by rw [hg]; exact Nat.ne_of_lt (blt BK279) : gb279 ≠ gb280)); have NB280_279 := Aside0.mk NB279_280.out.symm; replace BK279 := Aside0.mk (blb BK279 hb); replace HB := bst hb; clear hb hbox hg; have hnb7 := NB279_280.out; have hnc7 := NB280_279.out; obtain ⟨C8_0, C8_1, C8_2, C8_3, C8_4, C8_5, -⟩ := cells_6 BK279.out trivial; obtain ⟨F8_0, F8_1, F8_2, F8_3, F8_4, F8_5, -⟩ := frz_6 BK279.out) | ((with_reducible refine gate_callee (f := 18) rfl ?_); refine gl_ (some 11) Try.func18 #[.agg #[.int .i64 a0_0, .slice A0_1 l0_1.length c0_1, .slice A0_2 l0_2.length c0_2, .int .i64 a0_3, .slice A0_4 l0_4.length c0_4, .slice A0_5 l0_5.length c0_5]] (h := ?_); (with_reducible refine (impl_StateOk.calls k a0_0 _ _ l0_1 _ _ l0_2 a0_3 _ _ l0_4 _ _ l0_5 true _ ?side1 ?side2 ?side3 ?side4 ?side5 ?side6 ?side7 ?side8 A3.out).mono ?_); (case side1 => exact kcb); (case side2 => exact HC0_1.out); (case side3 => exact kcb); (case side4 => exact HC0_2.out); (case side5 => exact kcb); (case side6 => exact HC0_4.out); (case side7 => exact kcb); (case side8 => exact HC0_5.out); rintro e w9 ⟨rfl, hb⟩; refine ⟨_, rfl, ?_⟩; replace BK279 := Aside0.mk (blb BK279 hb); replace BK280 := Aside0.mk (blb BK280 hb); replace HB := bst hb; (try clear hb); (try clear hb2); (try clear hk); (try clear hi); obtain ⟨C10_0, C10_1, C10_2, C10_3, C10_4, C10_5, -⟩ := cells_6 BK279.out trivial; obtain ⟨F10_0, F10_1, F10_2, F10_3, F10_4, F10_5, -⟩ := frz_6 BK279.out) | ((with_reducible refine gate_dst (N := 5) rfl ?_); refine bx_ 5 #[.int .i64 0, .bool false, .slice none 0 0] 89 (h := ?_); intro gb282 hg w11 hbox hb; have BK282 := Aside0.mk (hbox); have GW282 := Aside0.mk ((by rw [hg]; exact (below_size bel) : w.heap.size ≤ gb282)); have GE282 := GW282; have NB279_282 := Aside0.mk ((by rw [hg]; exact Nat.ne_of_lt (blt BK279) : gb279 ≠ gb282)); have NB282_279 := Aside0.mk NB279_282.out.symm; have NB280_282 := Aside0.mk ((by rw [hg]; exact Nat.ne_of_lt (blt BK280) : gb280 ≠ gb282)); have NB282_280 := Aside0.mk NB280_282.out.symm; replace BK279 := Aside0.mk (blb BK279 hb); replace BK280 := Aside0.mk (blb BK280 hb); replace HB := bst hb; clear hb hbox hg; have hnb12 := NB282_279.out; have hnc12 := NB279_282.out; have hnb13 := NB282_280.out; have hnc13 := NB280_282.out; obtain ⟨C14_0, C14_1, C14_2, -⟩ := cells_3 BK282.out trivial; obtain ⟨F14_0, F14_1, F14_2, -⟩ := frz_3 BK282.out; obtain ⟨C15_0, C15_1, C15_2, C15_3, C15_4, C15_5, -⟩ := cells_6 BK279.out trivial; obtain ⟨F15_0, F15_1, F15_2, F15_3, F15_4, F15_5, -⟩ := frz_6 BK279.out))
  go_loopg [20] k (fun kq v20 w' => ∃ (x20_1 : Int) (x283000_1 : Int) (x283001_1 : Bool), v20 = .int .i64 x20_1 ∧ Aside0 (impl_Branch.l0 kq l1 l0_1 (l0_1.length : Int) x20_1 a0_0 l0_1 l0_2 a0_3 l0_4 l0_5 x283000_1 x283001_1 = some (r1, r2, r3)) ∧ Aside0 (kq ≤ k) ∧ Aside0 (w'.heap[gb279]? = some (.cells #[.int .i64 a0_0, (.slice A0_1 l0_1.length c0_1), (.slice A0_2 l0_2.length c0_2), .int .i64 a0_3, (.slice A0_4 l0_4.length c0_4), (.slice A0_5 l0_5.length c0_5)] 35 (0, 0))) ∧ Aside0 (w'.heap[gb280]? = some (.cells #[.int .i64 0, .bool false, (.slice none 0 0)] 89 (0, 0))) ∧ Aside0 (w'.heap[gb282]? = some (.cells #[.int .i64 x283000_1, .bool x283001_1, (.slice none 0 0)] 89 (0, 0))) ∧ Aside0 (Below w.heap.size w w'))
  case atStart => exact ⟨(0), (a0_3), (false), rs_, H', ⟨Nat.le_refl _⟩, ⟨by (with_reducible repeat (first | refine blk_drewN ?_ _ | refine blk_drew ?_ | refine blk_alloc ?_ _)); refine blk_far ?_ NB279_282.out _; (with_reducible repeat (first | refine blk_drewN ?_ _ | refine blk_drew ?_ | refine blk_alloc ?_ _)); refine blk_far ?_ NB279_282.out _; (with_reducible repeat (first | refine blk_drewN ?_ _ | refine blk_drew ?_ | refine blk_alloc ?_ _)); refine blk_far ?_ NB279_282.out _; (with_reducible repeat (first | refine blk_drewN ?_ _ | refine blk_drew ?_ | refine blk_alloc ?_ _)); exact BK279.out⟩, ⟨by (with_reducible repeat (first | refine blk_drewN ?_ _ | refine blk_drew ?_ | refine blk_alloc ?_ _)); refine blk_far ?_ NB280_282.out _; (with_reducible repeat (first | refine blk_drewN ?_ _ | refine blk_drew ?_ | refine blk_alloc ?_ _)); refine blk_far ?_ NB280_282.out _; (with_reducible repeat (first | refine blk_drewN ?_ _ | refine blk_drew ?_ | refine blk_alloc ?_ _)); refine blk_far ?_ NB280_282.out _; (with_reducible repeat (first | refine blk_drewN ?_ _ | refine blk_drew ?_ | refine blk_alloc ?_ _)); exact BK280.out⟩, ⟨by (with_reducible repeat (first | refine blk_drewN ?_ _ | refine blk_drew ?_ | refine blk_alloc ?_ _)); refine blk_put (cs := #[.int .i64 a0_3, .bool false, .slice none 0 0]) ?_ 2 _ rfl; (with_reducible repeat (first | refine blk_drewN ?_ _ | refine blk_drew ?_ | refine blk_alloc ?_ _)); refine blk_put (cs := #[.int .i64 a0_3, .bool false, .slice none 0 0]) ?_ 1 _ rfl; (with_reducible repeat (first | refine blk_drewN ?_ _ | refine blk_drew ?_ | refine blk_alloc ?_ _)); refine blk_put (cs := #[.int .i64 0, .bool false, .slice none 0 0]) ?_ 0 _ rfl; (with_reducible repeat (first | refine blk_drewN ?_ _ | refine blk_drew ?_ | refine blk_alloc ?_ _)); exact BK282.out⟩, ⟨bel⟩⟩
  case round =>
   clear H'
   try clear c1; try clear p2; try clear c4; try clear c7; try clear c12; try clear c13; try clear C10_0 C10_1 C10_2 C10_3 C10_4 C10_5; try clear C14_0 C14_1 C14_2; try clear C15_0 C15_1 C15_2 C15_3 C15_4 C15_5; try clear C8_0 C8_1 C8_2 C8_3 C8_4 C8_5; try clear F10_0 F10_1 F10_2 F10_3 F10_4 F10_5; try clear F14_0 F14_1 F14_2; try clear F15_0 F15_1 F15_2 F15_3 F15_4 F15_5; try clear F8_0 F8_1 F8_2 F8_3 F8_4 F8_5
   obtain ⟨x20_1, x283000_1, x283001_1, rfl, HA, HK1, BK279, BK280, BK282, HB⟩ := hrel
   cases gk with
   | zero => exact absurd HA.out (by simp [impl_Branch.l0])
   | succ k1 =>
    have H := HA.out
    clear HA
    simp only [impl_Branch.l0] at H
    by_cases c16 : x20_1 < (l0_1.length : Int)
    ·rw [if_pos c16] at H
     have c16b0 : decide (x20_1 < (l0_1.length : Int)) = true := decide_eq_true c16
     clear c16
     by_cases c17 : 0 ≤ x20_1
     ·rw [if_pos c17] at H
      have c17b0 : decide (0 ≤ x20_1) = true := decide_eq_true c17
      clear c17
      by_cases c18 : x20_1 < (l0_1.length : Int)
      ·rw [if_pos c18] at H
       have c18b0 : decide (x20_1 < (l0_1.length : Int)) = true := decide_eq_true c18
       clear c18
       replace H := Option.bind_eq_some_iff.mp H
       obtain ⟨t285, A190, H⟩ := H
       replace H : (if t285 = true then (impl_Branch.l0 k1 l1 l0_1 (l0_1.length : Int) (wrap64 (x20_1 + 1)) a0_0 l0_1 l0_2 a0_3 l0_4 l0_5 (mx x283000_1 ((rd_T92 l0_1 x20_1).f2)) true) else (impl_Branch.l0 k1 l1 l0_1 (l0_1.length : Int) (wrap64 (x20_1 + 1)) a0_0 l0_1 l0_2 a0_3 l0_4 l0_5 x283000_1 x283001_1)) = some (r1, r2, r3) := H
       have A19 := Aside0.mk A190
       clear A190
       by_cases c20 : t285 = true
       ·subst c20
        have H1 : (impl_Branch.l0 k1 l1 l0_1 (l0_1.length : Int) (wrap64 (x20_1 + 1)) a0_0 l0_1 l0_2 a0_3 l0_4 l0_5 (mx x283000_1 ((rd_T92 l0_1 x20_1).f2)) true) = some (r1, r2, r3) := by rw [if_pos rfl] at H; exact H
        clear H
        have H := H1
        clear H1
        obtain ⟨ji21, hji21⟩ : ∃ j_ : Int, (mx x283000_1 ((rd_T92 l0_1 x20_1).f2)) = j_ := ⟨_, rfl⟩
        replace H : (impl_Branch.l0 k1 l1 l0_1 (l0_1.length : Int) (wrap64 (x20_1 + 1)) a0_0 l0_1 l0_2 a0_3 l0_4 l0_5 ji21 true) = some (r1, r2, r3) := by first | (rw [hji21] at H; exact H) | (simp only [hji21] at H ⊢; exact H)
        (try rw [hji21] at A19)
        have hji21_ : (if x283000_1 < ((rd_T92 l0_1 x20_1).f2) then ((rd_T92 l0_1 x20_1).f2) else x283000_1) = ji21 := hji21
        have H' := Aside0.mk H
        clear H
        have p283 : 0 ≤ (x20_1 : Int) := od
        have q283 : x20_1 < (l0_1.length : Int) := od
        obtain ⟨ad283, A283_0, c283_0, A283_1, c283_1, e283, hx283_0, hx283_1, hx283_2, hx283_3, hl283_0, hi283_0, hl283_1, hi283_1⟩ := at_T92 HR0_1.out x20_1 p283 q283
        cases e283
        replace hx283_0 := hxb HB hx283_0
        replace hx283_1 := hxb HB hx283_1
        replace hx283_2 := hxb HB hx283_2
        replace hx283_3 := hxb HB hx283_3
        have HR283_0 := Aside0.mk hi283_0
        have HC283_0 := Aside0.mk hl283_0
        clear hi283_0 hl283_0
        have HR283_1 := Aside0.mk hi283_1
        have HC283_1 := Aside0.mk hl283_1
        clear hi283_1 hl283_1
        replace p283 := eq_true p283
        replace q283 := eq_true q283
        go_wp2_with (first | ((with_reducible refine gate_dst (N := 7) rfl ?_); refine bx_ 7 #[.slice none 0 0, .slice none 0 0, .int .i64 0, .int .i64 0] 92 (h := ?_); intro gb284 hg w22 hbox hb; have BK284 := Aside0.mk (hbox); have GW284 := Aside0.mk ((by rw [hg]; exact (below_size bel) : w.heap.size ≤ gb284)); have GE284 := GW284; have NB279_284 := Aside0.mk ((by rw [hg]; exact Nat.ne_of_lt (blt BK279) : gb279 ≠ gb284)); have NB284_279 := Aside0.mk NB279_284.out.symm; have NB280_284 := Aside0.mk ((by rw [hg]; exact Nat.ne_of_lt (blt BK280) : gb280 ≠ gb284)); have NB284_280 := Aside0.mk NB280_284.out.symm; have NB282_284 := Aside0.mk ((by rw [hg]; exact Nat.ne_of_lt (blt BK282) : gb282 ≠ gb284)); have NB284_282 := Aside0.mk NB282_284.out.symm; replace BK279 := Aside0.mk (blb BK279 hb); replace BK280 := Aside0.mk (blb BK280 hb); replace BK282 := Aside0.mk (blb BK282 hb); replace HB := bst hb; clear hb hbox hg; have hnb23 := NB284_279.out; have hnc23 := NB279_284.out; have hnb24 := NB284_280.out; have hnc24 := NB280_284.out; have hnb25 := NB284_282.out; have hnc25 := NB282_284.out; obtain ⟨C26_0, C26_1, C26_2, C26_3, -⟩ := cells_4 BK284.out trivial; obtain ⟨F26_0, F26_1, F26_2, F26_3, -⟩ := frz_4 BK284.out) | ((with_reducible refine gate_callee (f := 50) rfl ?_); refine gl_ (some 27) Try.func50 #[.slice A283_0 ((rd_T92 l0_1 x20_1).f0).length c283_0, .slice A1 l1.length c1] (h := ?_); (with_reducible refine (impl_HasPrefix.calls _ _ ((rd_T92 l0_1 x20_1).f0) _ _ l1 true _ ?side1 ?side2 ?side3 ?side4 A19.out).mono ?_); (case side1 => exact Kd.C_below HR283_0.out bel); (case side2 => exact HC283_0.out); (case side3 => exact Kd.C_below HR1.out bel); (case side4 => exact HC1.out); rintro e w' ⟨rfl, ⟨nd, rfl⟩⟩; refine ⟨_, rfl, ?_⟩; have hnb27 := NB282_279.out; have hnc27 := NB279_282.out; have hnb28 := NB282_280.out; have hnc28 := NB280_282.out; obtain ⟨C29_0, C29_1, C29_2, -⟩ := cells_3 BK282.out trivial; obtain ⟨F29_0, F29_1, F29_2, -⟩ := frz_3 BK282.out))
        go_roundg k1
        case measure => have := HK1.out; omega
        case rel => exact ⟨(wrap64 (x20_1 + 1)), (ji21), (true), rs_, H', ⟨by have := HK1.out; omega⟩, ⟨by (with_reducible repeat (first | refine blk_drewN ?_ _ | refine blk_drew ?_ | refine blk_alloc ?_ _)); refine blk_far ?_ NB279_282.out _; (with_reducible repeat (first | refine blk_drewN ?_ _ | refine blk_drew ?_ | refine blk_alloc ?_ _)); refine blk_far ?_ NB279_282.out _; (with_reducible repeat (first | refine blk_drewN ?_ _ | refine blk_drew ?_ | refine blk_alloc ?_ _)); refine blk_far ?_ NB279_284.out _; (with_reducible repeat (first | refine blk_drewN ?_ _ | refine blk_drew ?_ | refine blk_alloc ?_ _)); refine blk_far ?_ NB279_284.out _; (with_reducible repeat (first | refine blk_drewN ?_ _ | refine blk_drew ?_ | refine blk_alloc ?_ _)); refine blk_far ?_ NB279_284.out _; (with_reducible repeat (first | refine blk_drewN ?_ _ | refine blk_drew ?_ | refine blk_alloc ?_ _)); refine blk_far ?_ NB279_284.out _; (with_reducible repeat (first | refine blk_drewN ?_ _ | refine blk_drew ?_ | refine blk_alloc ?_ _)); exact BK279.out⟩, ⟨by (with_reducible repeat (first | refine blk_drewN ?_ _ | refine blk_drew ?_ | refine blk_alloc ?_ _)); refine blk_far ?_ NB280_282.out _; (with_reducible repeat (first | refine blk_drewN ?_ _ | refine blk_drew ?_ | refine blk_alloc ?_ _)); refine blk_far ?_ NB280_282.out _; (with_reducible repeat (first | refine blk_drewN ?_ _ | refine blk_drew ?_ | refine blk_alloc ?_ _)); refine blk_far ?_ NB280_284.out _; (with_reducible repeat (first | refine blk_drewN ?_ _ | refine blk_drew ?_ | refine blk_alloc ?_ _)); refine blk_far ?_ NB280_284.out _; (with_reducible repeat (first | refine blk_drewN ?_ _ | refine blk_drew ?_ | refine blk_alloc ?_ _)); refine blk_far ?_ NB280_284.out _; (with_reducible repeat (first | refine blk_drewN ?_ _ | refine blk_drew ?_ | refine blk_alloc ?_ _)); refine blk_far ?_ NB280_284.out _; (with_reducible repeat (first | refine blk_drewN ?_ _ | refine blk_drew ?_ | refine blk_alloc ?_ _)); exact BK280.out⟩, ⟨by (with_reducible repeat (first | refine blk_drewN ?_ _ | refine blk_drew ?_ | refine blk_alloc ?_ _)); refine blk_put (cs := #[.int .i64 ji21, .bool x283001_1, .slice none 0 0]) ?_ 1 _ rfl; (with_reducible repeat (first | refine blk_drewN ?_ _ | refine blk_drew ?_ | refine blk_alloc ?_ _)); refine blk_put (cs := #[.int .i64 x283000_1, .bool x283001_1, .slice none 0 0]) ?_ 0 _ rfl; (with_reducible repeat (first | refine blk_drewN ?_ _ | refine blk_drew ?_ | refine blk_alloc ?_ _)); refine blk_far ?_ NB282_284.out _; (with_reducible repeat (first | refine blk_drewN ?_ _ | refine blk_drew ?_ | refine blk_alloc ?_ _)); refine blk_far ?_ NB282_284.out _; (with_reducible repeat (first | refine blk_drewN ?_ _ | refine blk_drew ?_ | refine blk_alloc ?_ _)); refine blk_far ?_ NB282_284.out _; (with_reducible repeat (first | refine blk_drewN ?_ _ | refine blk_drew ?_ | refine blk_alloc ?_ _)); refine blk_far ?_ NB282_284.out _; (with_reducible repeat (first | refine blk_drewN ?_ _ | refine blk_drew ?_ | refine blk_alloc ?_ _)); exact BK282.out⟩, ⟨bel⟩⟩
       replace c20 := Bool.eq_false_iff.mpr c20
       subst c20
       have H1 : (impl_Branch.l0 k1 l1 l0_1 (l0_1.length : Int) (wrap64 (x20_1 + 1)) a0_0 l0_1 l0_2 a0_3 l0_4 l0_5 x283000_1 x283001_1) = some (r1, r2, r3) := by rw [if_neg (show ¬ (false = true) by decide)] at H; exact H
       clear H
       have H := H1
       clear H1
       have H' := Aside0.mk H
       clear H
       have p283 : 0 ≤ (x20_1 : Int) := od
       have q283 : x20_1 < (l0_1.length : Int) := od
       obtain ⟨ad283, A283_0, c283_0, A283_1, c283_1, e283, hx283_0, hx283_1, hx283_2, hx283_3, hl283_0, hi283_0, hl283_1, hi283_1⟩ := at_T92 HR0_1.out x20_1 p283 q283
       cases e283
       replace hx283_0 := hxb HB hx283_0
       replace hx283_1 := hxb HB hx283_1
       replace hx283_2 := hxb HB hx283_2
       replace hx283_3 := hxb HB hx283_3
       have HR283_0 := Aside0.mk hi283_0
       have HC283_0 := Aside0.mk hl283_0
       clear hi283_0 hl283_0
       have HR283_1 := Aside0.mk hi283_1
       have HC283_1 := Aside0.mk hl283_1
       clear hi283_1 hl283_1
       replace p283 := eq_true p283
       replace q283 := eq_true q283
       go_wp2_with (first | ((with_reducible refine gate_dst (N := 7) rfl ?_); refine bx_ 7 #[.slice none 0 0, .slice none 0 0, .int .i64 0, .int .i64 0] 92 (h := ?_); intro gb284 hg w30 hbox hb; have BK284 := Aside0.mk (hbox); have GW284 := Aside0.mk ((by rw [hg]; exact (below_size bel) : w.heap.size ≤ gb284)); have GE284 := GW284; have NB279_284 := Aside0.mk ((by rw [hg]; exact Nat.ne_of_lt (blt BK279) : gb279 ≠ gb284)); have NB284_279 := Aside0.mk NB279_284.out.symm; have NB280_284 := Aside0.mk ((by rw [hg]; exact Nat.ne_of_lt (blt BK280) : gb280 ≠ gb284)); have NB284_280 := Aside0.mk NB280_284.out.symm; have NB282_284 := Aside0.mk ((by rw [hg]; exact Nat.ne_of_lt (blt BK282) : gb282 ≠ gb284)); have NB284_282 := Aside0.mk NB282_284.out.symm; replace BK279 := Aside0.mk (blb BK279 hb); replace BK280 := Aside0.mk (blb BK280 hb); replace BK282 := Aside0.mk (blb BK282 hb); replace HB := bst hb; clear hb hbox hg; have hnb31 := NB284_279.out; have hnc31 := NB279_284.out; have hnb32 := NB284_280.out; have hnc32 := NB280_284.out; have hnb33 := NB284_282.out; have hnc33 := NB282_284.out; obtain ⟨C34_0, C34_1, C34_2, C34_3, -⟩ := cells_4 BK284.out trivial; obtain ⟨F34_0, F34_1, F34_2, F34_3, -⟩ := frz_4 BK284.out) | ((with_reducible refine gate_callee (f := 50) rfl ?_); refine gl_ (some 27) Try.func50 #[.slice A283_0 ((rd_T92 l0_1 x20_1).f0).length c283_0, .slice A1 l1.length c1] (h := ?_); (with_reducible refine (impl_HasPrefix.calls _ _ ((rd_T92 l0_1 x20_1).f0) _ _ l1 false _ ?side1 ?side2 ?side3 ?side4 A19.out).mono ?_); (case side1 => exact Kd.C_below HR283_0.out bel); (case side2 => exact HC283_0.out); (case side3 => exact Kd.C_below HR1.out bel); (case side4 => exact HC1.out); rintro e w' ⟨rfl, ⟨nd, rfl⟩⟩; refine ⟨_, rfl, ?_⟩))
       go_roundg k1
       case measure => have := HK1.out; omega
       case rel => exact ⟨(wrap64 (x20_1 + 1)), (x283000_1), (x283001_1), rs_, H', ⟨by have := HK1.out; omega⟩, ⟨by (with_reducible repeat (first | refine blk_drewN ?_ _ | refine blk_drew ?_ | refine blk_alloc ?_ _)); refine blk_far ?_ NB279_284.out _; (with_reducible repeat (first | refine blk_drewN ?_ _ | refine blk_drew ?_ | refine blk_alloc ?_ _)); refine blk_far ?_ NB279_284.out _; (with_reducible repeat (first | refine blk_drewN ?_ _ | refine blk_drew ?_ | refine blk_alloc ?_ _)); refine blk_far ?_ NB279_284.out _; (with_reducible repeat (first | refine blk_drewN ?_ _ | refine blk_drew ?_ | refine blk_alloc ?_ _)); refine blk_far ?_ NB279_284.out _; (with_reducible repeat (first | refine blk_drewN ?_ _ | refine blk_drew ?_ | refine blk_alloc ?_ _)); exact BK279.out⟩, ⟨by (with_reducible repeat (first | refine blk_drewN ?_ _ | refine blk_drew ?_ | refine blk_alloc ?_ _)); refine blk_far ?_ NB280_284.out _; (with_reducible repeat (first | refine blk_drewN ?_ _ | refine blk_drew ?_ | refine blk_alloc ?_ _)); refine blk_far ?_ NB280_284.out _; (with_reducible repeat (first | refine blk_drewN ?_ _ | refine blk_drew ?_ | refine blk_alloc ?_ _)); refine blk_far ?_ NB280_284.out _; (with_reducible repeat (first | refine blk_drewN ?_ _ | refine blk_drew ?_ | refine blk_alloc ?_ _)); refine blk_far ?_ NB280_284.out _; (with_reducible repeat (first | refine blk_drewN ?_ _ | refine blk_drew ?_ | refine blk_alloc ?_ _)); exact BK280.out⟩, ⟨by (with_reducible repeat (first | refine blk_drewN ?_ _ | refine blk_drew ?_ | refine blk_alloc ?_ _)); refine blk_far ?_ NB282_284.out _; (with_reducible repeat (first | refine blk_drewN ?_ _ | refine blk_drew ?_ | refine blk_alloc ?_ _)); refine blk_far ?_ NB282_284.out _; (with_reducible repeat (first | refine blk_drewN ?_ _ | refine blk_drew ?_ | refine blk_alloc ?_ _)); refine blk_far ?_ NB282_284.out _; (with_reducible repeat (first | refine blk_drewN ?_ _ | refine blk_drew ?_ | refine blk_alloc ?_ _)); refine blk_far ?_ NB282_284.out _; (with_reducible repeat (first | refine blk_drewN ?_ _ | refine blk_drew ?_ | refine blk_alloc ?_ _)); exact BK282.out⟩, ⟨bel⟩⟩
      rw [if_neg c18] at H
      exact absurd H (by simp)
     rw [if_neg c17] at H
     exact absurd H (by simp)
    rw [if_neg c16] at H
    have c16b0 : decide (x20_1 < (l0_1.length : Int)) = false := decide_eq_false c16
    clear c16
    have H' := Aside0.mk H
    clear H
    have hnb35 := NB279_280.out
    have hnc35 := NB280_279.out
    have hnb36 := NB279_282.out
    have hnc36 := NB282_279.out
    obtain ⟨C37_0, C37_1, C37_2, C37_3, C37_4, C37_5, -⟩ := cells_6 BK279.out trivial
    obtain ⟨F37_0, F37_1, F37_2, F37_3, F37_4, F37_5, -⟩ := frz_6 BK279.out
    go_wp2
    go_loopg [39] k1 (fun kq v39 w' => ∃ (x39_2 : Int) (x283000_2 : Int), v39 = .int .i64 x39_2 ∧ Aside0 (impl_Branch.l1 kq l1 l0_2 (l0_2.length : Int) x39_2 x283000_2 x283001_1 = some (r1, r2, r3)) ∧ Aside0 (kq ≤ k1) ∧ Aside0 (w'.heap[gb279]? = some (.cells #[.int .i64 a0_0, (.slice A0_1 l0_1.length c0_1), (.slice A0_2 l0_2.length c0_2), .int .i64 a0_3, (.slice A0_4 l0_4.length c0_4), (.slice A0_5 l0_5.length c0_5)] 35 (0, 0))) ∧ Aside0 (w'.heap[gb280]? = some (.cells #[.int .i64 0, .bool false, (.slice none 0 0)] 89 (0, 0))) ∧ Aside0 (w'.heap[gb282]? = some (.cells #[.int .i64 x283000_2, .bool x283001_1, (.slice none 0 0)] 89 (0, 0))) ∧ Aside0 (Below w.heap.size w w'))
    case atStart => exact ⟨(0), (x283000_1), rs_, H', ⟨Nat.le_refl _⟩, ⟨bkp BK279⟩, ⟨bkp BK280⟩, ⟨bkp BK282⟩, ⟨bel⟩⟩
    case round =>
     clear H'
     try clear c1; try clear c2; try clear p2; try clear q2; try clear hx2; try clear c3; try clear c4; try clear c5; try clear p6; try clear c7; try clear c12; try clear c13; try clear c16; try clear c16b0; try clear c17; try clear c17b0; try clear c18; try clear c18b0; try clear c20; try clear c23; try clear c24; try clear c25; try clear c27; try clear c28; try clear p28; try clear q28; try clear hx28; try clear c31; try clear c32; try clear c33; try clear c35; try clear c36; try clear C10_0 C10_1 C10_2 C10_3 C10_4 C10_5; try clear C14_0 C14_1 C14_2; try clear C15_0 C15_1 C15_2 C15_3 C15_4 C15_5; try clear C26_0 C26_1 C26_2 C26_3; try clear C29_0 C29_1 C29_2; try clear C34_0 C34_1 C34_2 C34_3; try clear C37_0 C37_1 C37_2 C37_3 C37_4 C37_5; try clear C8_0 C8_1 C8_2 C8_3 C8_4 C8_5; try clear F10_0 F10_1 F10_2 F10_3 F10_4 F10_5; try clear F14_0 F14_1 F14_2; try clear F15_0 F15_1 F15_2 F15_3 F15_4 F15_5; try clear F26_0 F26_1 F26_2 F26_3; try clear F29_0 F29_1 F29_2; try clear F34_0 F34_1 F34_2 F34_3; try clear F37_0 F37_1 F37_2 F37_3 F37_4 F37_5; try clear F8_0 F8_1 F8_2 F8_3 F8_4 F8_5; try clear hx283_0; try clear hx283_1; try clear hx283_2; try clear hx283_3; try clear p2; try clear p283; try clear q283
     obtain ⟨x39_2, x283000_2, rfl, HA, HK2, BK279, BK280, BK282, HB⟩ := hrel
     cases gk with
     | zero => exact absurd HA.out (by simp [impl_Branch.l1])
     | succ k2 =>
      have H := HA.out
      clear HA
      simp only [impl_Branch.l1] at H
      by_cases c38 : x39_2 < (l0_2.length : Int)
      ·rw [if_pos c38] at H
       have c38b0 : decide (x39_2 < (l0_2.length : Int)) = true := decide_eq_true c38
       clear c38
       by_cases c39 : 0 ≤ x39_2
       ·rw [if_pos c39] at H
        have c39b0 : decide (0 ≤ x39_2) = true := decide_eq_true c39
        clear c39
        by_cases c40 : x39_2 < (l0_2.length : Int)
        ·rw [if_pos c40] at H
         have c40b0 : decide (x39_2 < (l0_2.length : Int)) = true := decide_eq_true c40
         clear c40
         replace H := Option.bind_eq_some_iff.mp H
         obtain ⟨t288, A410, H⟩ := H
         replace H : (if t288 = true then (impl_Branch.l1 k2 l1 l0_2 (l0_2.length : Int) (wrap64 (x39_2 + 1)) (mx x283000_2 ((rd_T94 l0_2 x39_2).f1)) x283001_1) else (impl_Branch.l1 k2 l1 l0_2 (l0_2.length : Int) (wrap64 (x39_2 + 1)) x283000_2 x283001_1)) = some (r1, r2, r3) := H
         have A41 := Aside0.mk A410
         clear A410
         by_cases c42 : t288 = true
         ·subst c42
          have H1 : (impl_Branch.l1 k2 l1 l0_2 (l0_2.length : Int) (wrap64 (x39_2 + 1)) (mx x283000_2 ((rd_T94 l0_2 x39_2).f1)) x283001_1) = some (r1, r2, r3) := by rw [if_pos rfl] at H; exact H
          clear H
          have H := H1
          clear H1
          obtain ⟨ji43, hji43⟩ : ∃ j_ : Int, (mx x283000_2 ((rd_T94 l0_2 x39_2).f1)) = j_ := ⟨_, rfl⟩
          replace H : (impl_Branch.l1 k2 l1 l0_2 (l0_2.length : Int) (wrap64 (x39_2 + 1)) ji43 x283001_1) = some (r1, r2, r3) := by first | (rw [hji43] at H; exact H) | (simp only [hji43] at H ⊢; exact H)
          (try rw [hji43] at A41)
          have hji43_ : (if x283000_2 < ((rd_T94 l0_2 x39_2).f1) then ((rd_T94 l0_2 x39_2).f1) else x283000_2) = ji43 := hji43
          have H' := Aside0.mk H
          clear H
          have p286 : 0 ≤ (x39_2 : Int) := od
          have q286 : x39_2 < (l0_2.length : Int) := od
          obtain ⟨ad286, A286_0, c286_0, e286, hx286_0, hx286_1, hl286_0, hi286_0⟩ := at_T94 HR0_2.out x39_2 p286 q286
          cases e286
          replace hx286_0 := hxb HB hx286_0
          replace hx286_1 := hxb HB hx286_1
          have HR286_0 := Aside0.mk hi286_0
          have HC286_0 := Aside0.mk hl286_0
          clear hi286_0 hl286_0
          replace p286 := eq_true p286
          replace q286 := eq_true q286
          go_wp2_with (first | ((with_reducible refine gate_dst (N := 9) rfl ?_); refine bx_ 9 #[.slice none 0 0, .int .i64 0] 94 (h := ?_); intro gb287 hg w44 hbox hb; have BK287 := Aside0.mk (hbox); have GW287 := Aside0.mk ((by rw [hg]; exact (below_size bel) : w.heap.size ≤ gb287)); have GE287 := GW287; have NB279_287 := Aside0.mk ((by rw [hg]; exact Nat.ne_of_lt (blt BK279) : gb279 ≠ gb287)); have NB287_279 := Aside0.mk NB279_287.out.symm; have NB280_287 := Aside0.mk ((by rw [hg]; exact Nat.ne_of_lt (blt BK280) : gb280 ≠ gb287)); have NB287_280 := Aside0.mk NB280_287.out.symm; have NB282_287 := Aside0.mk ((by rw [hg]; exact Nat.ne_of_lt (blt BK282) : gb282 ≠ gb287)); have NB287_282 := Aside0.mk NB282_287.out.symm; replace BK279 := Aside0.mk (blb BK279 hb); replace BK280 := Aside0.mk (blb BK280 hb); replace BK282 := Aside0.mk (blb BK282 hb); replace HB := bst hb; clear hb hbox hg; have hnb45 := NB287_279.out; have hnc45 := NB279_287.out; have hnb46 := NB287_280.out; have hnc46 := NB280_287.out; have hnb47 := NB287_282.out; have hnc47 := NB282_287.out; obtain ⟨C48_0, C48_1, -⟩ := cells_2 BK287.out trivial; obtain ⟨F48_0, F48_1, -⟩ := frz_2 BK287.out) | ((with_reducible refine gate_callee (f := 50) rfl ?_); refine gl_ (some 46) Try.func50 #[.slice A286_0 ((rd_T94 l0_2 x39_2).f0).length c286_0, .slice A1 l1.length c1] (h := ?_); (with_reducible refine (impl_HasPrefix.calls _ _ ((rd_T94 l0_2 x39_2).f0) _ _ l1 true _ ?side1 ?side2 ?side3 ?side4 A41.out).mono ?_); (case side1 => exact Kd.C_below HR286_0.out bel); (case side2 => exact HC286_0.out); (case side3 => exact Kd.C_below HR1.out bel); (case side4 => exact HC1.out); rintro e w' ⟨rfl, ⟨nd, rfl⟩⟩; refine ⟨_, rfl, ?_⟩; have hnb49 := NB282_279.out; have hnc49 := NB279_282.out; have hnb50 := NB282_280.out; have hnc50 := NB280_282.out; obtain ⟨C51_0, C51_1, C51_2, -⟩ := cells_3 BK282.out trivial; obtain ⟨F51_0, F51_1, F51_2, -⟩ := frz_3 BK282.out))
          go_roundg k2
          case measure => have := HK1.out; have := HK2.out; omega
          case rel => exact ⟨(wrap64 (x39_2 + 1)), (ji43), rs_, H', ⟨by have := HK1.out; have := HK2.out; omega⟩, ⟨by (with_reducible repeat (first | refine blk_drewN ?_ _ | refine blk_drew ?_ | refine blk_alloc ?_ _)); refine blk_far ?_ NB279_282.out _; (with_reducible repeat (first | refine blk_drewN ?_ _ | refine blk_drew ?_ | refine blk_alloc ?_ _)); refine blk_far ?_ NB279_287.out _; (with_reducible repeat (first | refine blk_drewN ?_ _ | refine blk_drew ?_ | refine blk_alloc ?_ _)); refine blk_far ?_ NB279_287.out _; (with_reducible repeat (first | refine blk_drewN ?_ _ | refine blk_drew ?_ | refine blk_alloc ?_ _)); exact BK279.out⟩, ⟨by (with_reducible repeat (first | refine blk_drewN ?_ _ | refine blk_drew ?_ | refine blk_alloc ?_ _)); refine blk_far ?_ NB280_282.out _; (with_reducible repeat (first | refine blk_drewN ?_ _ | refine blk_drew ?_ | refine blk_alloc ?_ _)); refine blk_far ?_ NB280_287.out _; (with_reducible repeat (first | refine blk_drewN ?_ _ | refine blk_drew ?_ | refine blk_alloc ?_ _)); refine blk_far ?_ NB280_287.out _; (with_reducible repeat (first | refine blk_drewN ?_ _ | refine blk_drew ?_ | refine blk_alloc ?_ _)); exact BK280.out⟩, ⟨by (with_reducible repeat (first | refine blk_drewN ?_ _ | refine blk_drew ?_ | refine blk_alloc ?_ _)); refine blk_put (cs := #[.int .i64 x283000_2, .bool x283001_1, .slice none 0 0]) ?_ 0 _ rfl; (with_reducible repeat (first | refine blk_drewN ?_ _ | refine blk_drew ?_ | refine blk_alloc ?_ _)); refine blk_far ?_ NB282_287.out _; (with_reducible repeat (first | refine blk_drewN ?_ _ | refine blk_drew ?_ | refine blk_alloc ?_ _)); refine blk_far ?_ NB282_287.out _; (with_reducible repeat (first | refine blk_drewN ?_ _ | refine blk_drew ?_ | refine blk_alloc ?_ _)); exact BK282.out⟩, ⟨bel⟩⟩
         replace c42 := Bool.eq_false_iff.mpr c42
         subst c42
         have H1 : (impl_Branch.l1 k2 l1 l0_2 (l0_2.length : Int) (wrap64 (x39_2 + 1)) x283000_2 x283001_1) = some (r1, r2, r3) := by rw [if_neg (show ¬ (false = true) by decide)] at H; exact H
         clear H
         have H := H1
         clear H1
         have H' := Aside0.mk H
         clear H
         have p286 : 0 ≤ (x39_2 : Int) := od
         have q286 : x39_2 < (l0_2.length : Int) := od
         obtain ⟨ad286, A286_0, c286_0, e286, hx286_0, hx286_1, hl286_0, hi286_0⟩ := at_T94 HR0_2.out x39_2 p286 q286
         cases e286
         replace hx286_0 := hxb HB hx286_0
         replace hx286_1 := hxb HB hx286_1
         have HR286_0 := Aside0.mk hi286_0
         have HC286_0 := Aside0.mk hl286_0
         clear hi286_0 hl286_0
         replace p286 := eq_true p286
         replace q286 := eq_true q286
         go_wp2_with (first | ((with_reducible refine gate_dst (N := 9) rfl ?_); refine bx_ 9 #[.slice none 0 0, .int .i64 0] 94 (h := ?_); intro gb287 hg w52 hbox hb; have BK287 := Aside0.mk (hbox); have GW287 := Aside0.mk ((by rw [hg]; exact (below_size bel) : w.heap.size ≤ gb287)); have GE287 := GW287; have NB279_287 := Aside0.mk ((by rw [hg]; exact Nat.ne_of_lt (blt BK279) : gb279 ≠ gb287)); have NB287_279 := Aside0.mk NB279_287.out.symm; have NB280_287 := Aside0.mk ((by rw [hg]; exact Nat.ne_of_lt (blt BK280) : gb280 ≠ gb287)); have NB287_280 := Aside0.mk NB280_287.out.symm; have NB282_287 := Aside0.mk ((by rw [hg]; exact Nat.ne_of_lt (blt BK282) : gb282 ≠ gb287)); have NB287_282 := Aside0.mk NB282_287.out.symm; replace BK279 := Aside0.mk (blb BK279 hb); replace BK280 := Aside0.mk (blb BK280 hb); replace BK282 := Aside0.mk (blb BK282 hb); replace HB := bst hb; clear hb hbox hg; have hnb53 := NB287_279.out; have hnc53 := NB279_287.out; have hnb54 := NB287_280.out; have hnc54 := NB280_287.out; have hnb55 := NB287_282.out; have hnc55 := NB282_287.out; obtain ⟨C56_0, C56_1, -⟩ := cells_2 BK287.out trivial; obtain ⟨F56_0, F56_1, -⟩ := frz_2 BK287.out) | ((with_reducible refine gate_callee (f := 50) rfl ?_); refine gl_ (some 46) Try.func50 #[.slice A286_0 ((rd_T94 l0_2 x39_2).f0).length c286_0, .slice A1 l1.length c1] (h := ?_); (with_reducible refine (impl_HasPrefix.calls _ _ ((rd_T94 l0_2 x39_2).f0) _ _ l1 false _ ?side1 ?side2 ?side3 ?side4 A41.out).mono ?_); (case side1 => exact Kd.C_below HR286_0.out bel); (case side2 => exact HC286_0.out); (case side3 => exact Kd.C_below HR1.out bel); (case side4 => exact HC1.out); rintro e w' ⟨rfl, ⟨nd, rfl⟩⟩; refine ⟨_, rfl, ?_⟩))
         go_roundg k2
         case measure => have := HK1.out; have := HK2.out; omega
         case rel => exact ⟨(wrap64 (x39_2 + 1)), (x283000_2), rs_, H', ⟨by have := HK1.out; have := HK2.out; omega⟩, ⟨by (with_reducible repeat (first | refine blk_drewN ?_ _ | refine blk_drew ?_ | refine blk_alloc ?_ _)); refine blk_far ?_ NB279_287.out _; (with_reducible repeat (first | refine blk_drewN ?_ _ | refine blk_drew ?_ | refine blk_alloc ?_ _)); refine blk_far ?_ NB279_287.out _; (with_reducible repeat (first | refine blk_drewN ?_ _ | refine blk_drew ?_ | refine blk_alloc ?_ _)); exact BK279.out⟩, ⟨by (with_reducible repeat (first | refine blk_drewN ?_ _ | refine blk_drew ?_ | refine blk_alloc ?_ _)); refine blk_far ?_ NB280_287.out _; (with_reducible repeat (first | refine blk_drewN ?_ _ | refine blk_drew ?_ | refine blk_alloc ?_ _)); refine blk_far ?_ NB280_287.out _; (with_reducible repeat (first | refine blk_drewN ?_ _ | refine blk_drew ?_ | refine blk_alloc ?_ _)); exact BK280.out⟩, ⟨by (with_reducible repeat (first | refine blk_drewN ?_ _ | refine blk_drew ?_ | refine blk_alloc ?_ _)); refine blk_far ?_ NB282_287.out _; (with_reducible repeat (first | refine blk_drewN ?_ _ | refine blk_drew ?_ | refine blk_alloc ?_ _)); refine blk_far ?_ NB282_287.out _; (with_reducible repeat (first | refine blk_drewN ?_ _ | refine blk_drew ?_ | refine blk_alloc ?_ _)); exact BK282.out⟩, ⟨bel⟩⟩
        rw [if_neg c40] at H
        exact absurd H (by simp)
       rw [if_neg c39] at H
       exact absurd H (by simp)
      rw [if_neg c38] at H
      have c38b0 : decide (x39_2 < (l0_2.length : Int)) = false := decide_eq_false c38
      clear c38
      simp only [Option.some.injEq, Prod.mk.injEq] at H
      obtain ⟨rfl, rfl, rfl⟩ := H
      have hnb57 := NB282_279.out
      have hnc57 := NB279_282.out
      have hnb58 := NB282_280.out
      have hnc58 := NB280_282.out
      obtain ⟨C59_0, C59_1, C59_2, -⟩ := cells_3 BK282.out trivial
      obtain ⟨F59_0, F59_1, F59_2, -⟩ := frz_3 BK282.out
      have hnb60 := NB280_279.out
      have hnc60 := NB279_280.out
      obtain ⟨C61_0, C61_1, C61_2, -⟩ := cells_3 BK280.out trivial
      obtain ⟨F61_0, F61_1, F61_2, -⟩ := frz_3 BK280.out
      go_wp2
      refine bodyPost_ret (results_cell_row rfl _ _ gb280 89 #[.int .i64 x283000_2, .bool x283001_1, .slice none 0 0] (0, 0) _ rfl (by (with_reducible repeat (first | refine blk_drewN ?_ _ | refine blk_drew ?_ | refine blk_alloc ?_ _)); refine blk_put (cs := #[.int .i64 x283000_2, .bool x283001_1, .slice none 0 0]) ?_ 2 _ rfl; (with_reducible repeat (first | refine blk_drewN ?_ _ | refine blk_drew ?_ | refine blk_alloc ?_ _)); refine blk_put (cs := #[.int .i64 x283000_2, .bool false, .slice none 0 0]) ?_ 1 _ rfl; (with_reducible repeat (first | refine blk_drewN ?_ _ | refine blk_drew ?_ | refine blk_alloc ?_ _)); refine blk_put (cs := #[.int .i64 0, .bool false, .slice none 0 0]) ?_ 0 _ rfl; (with_reducible repeat (first | refine blk_drewN ?_ _ | refine blk_drew ?_ | refine blk_alloc ?_ _)); exact BK280.out) Try.underlying89 rfl (by kernel_rfl)) rfl ?_
      exact ⟨_, rz_, by first | exact Kd.R_nil _ _ _ _ _ | exact Kd.N_nil _ _ _ _ _ | exact Kd.V_nil _ _ _ _ _ | exact Kd.Q_nil _ _ _ _ _ | exact Kd.S_nil _ _ _ _ _, bel⟩
 replace c4 := Bool.eq_false_iff.mpr c4
 subst c4
 have H1 : (some (0, false, ([] : List Int))) = some (r1, r2, r3) := by rw [if_neg (show ¬ (false = true) by decide)] at H; exact H
 clear H
 have H := H1
 clear H1
 simp only [Option.some.injEq, Prod.mk.injEq] at H
 obtain ⟨rfl, rfl, rfl⟩ := H
 go_enter Try.func49, Try.ntmps49
 go_wp2_with (first | ((with_reducible refine gate_dst (N := 2) rfl ?_); refine bx_ 2 #[.int .i64 a0_0, .slice A0_1 l0_1.length c0_1, .slice A0_2 l0_2.length c0_2, .int .i64 a0_3, .slice A0_4 l0_4.length c0_4, .slice A0_5 l0_5.length c0_5] 35 (h := ?_); intro gb279 hg w62 hbox hb; have BK279 := Aside0.mk (hbox); have GW279 := Aside0.mk ((by rw [hg]; exact (below_size bel) : w.heap.size ≤ gb279)); have GE279 := GW279; replace HB := bst hb; clear hb hbox hg) | ((with_reducible refine gate_dst (N := 4) rfl ?_); refine bx_ 4 #[.int .i64 0, .bool false, .slice none 0 0] 89 (h := ?_); intro gb280 hg w63 hbox hb; have BK280 := Aside0.mk (hbox); have GW280 := Aside0.mk ((by rw [hg]; exact (below_size bel) : w.heap.size ≤ gb280)); have GE280 := GW280; have NB279_280 := Aside0.mk ((by rw [hg]; exact Nat.ne_of_lt (blt BK279) : gb279 ≠ gb280)); have NB280_279 := Aside0.mk NB279_280.out.symm; replace BK279 := Aside0.mk (blb BK279 hb); replace HB := bst hb; clear hb hbox hg; have hnb64 := NB279_280.out; have hnc64 := NB280_279.out; obtain ⟨C65_0, C65_1, C65_2, C65_3, C65_4, C65_5, -⟩ := cells_6 BK279.out trivial; obtain ⟨F65_0, F65_1, F65_2, F65_3, F65_4, F65_5, -⟩ := frz_6 BK279.out) | ((with_reducible refine gate_callee (f := 18) rfl ?_); refine gl_ (some 11) Try.func18 #[.agg #[.int .i64 a0_0, .slice A0_1 l0_1.length c0_1, .slice A0_2 l0_2.length c0_2, .int .i64 a0_3, .slice A0_4 l0_4.length c0_4, .slice A0_5 l0_5.length c0_5]] (h := ?_); (with_reducible refine (impl_StateOk.calls k a0_0 _ _ l0_1 _ _ l0_2 a0_3 _ _ l0_4 _ _ l0_5 false _ ?side1 ?side2 ?side3 ?side4 ?side5 ?side6 ?side7 ?side8 A3.out).mono ?_); (case side1 => exact kcb); (case side2 => exact HC0_1.out); (case side3 => exact kcb); (case side4 => exact HC0_2.out); (case side5 => exact kcb); (case side6 => exact HC0_4.out); (case side7 => exact kcb); (case side8 => exact HC0_5.out); rintro e w66 ⟨rfl, hb⟩; refine ⟨_, rfl, ?_⟩; replace BK279 := Aside0.mk (blb BK279 hb); replace BK280 := Aside0.mk (blb BK280 hb); replace HB := bst hb; (try clear hb); (try clear hb2); (try clear hk); (try clear hi); obtain ⟨C67_0, C67_1, C67_2, -⟩ := cells_3 BK280.out trivial; obtain ⟨F67_0, F67_1, F67_2, -⟩ := frz_3 BK280.out))
 refine bodyPost_ret (results_cell_row rfl _ _ gb280 89 #[.int .i64 0, .bool false, .slice none 0 0] (0, 0) _ rfl (by (with_reducible repeat (first | refine blk_drewN ?_ _ | refine blk_drew ?_ | refine blk_alloc ?_ _)); refine blk_put (cs := #[.int .i64 0, .bool false, .slice none 0 0]) ?_ 2 _ rfl; (with_reducible repeat (first | refine blk_drewN ?_ _ | refine blk_drew ?_ | refine blk_alloc ?_ _)); refine blk_put (cs := #[.int .i64 0, .bool false, .slice none 0 0]) ?_ 1 _ rfl; (with_reducible repeat (first | refine blk_drewN ?_ _ | refine blk_drew ?_ | refine blk_alloc ?_ _)); refine blk_put (cs := #[.int .i64 0, .bool false, .slice none 0 0]) ?_ 0 _ rfl; (with_reducible repeat (first | refine blk_drewN ?_ _ | refine blk_drew ?_ | refine blk_alloc ?_ _)); exact BK280.out) Try.underlying89 rfl (by kernel_rfl)) rfl ?_
 exact ⟨_, rz_, by first | exact Kd.R_nil _ _ _ _ _ | exact Kd.N_nil _ _ _ _ _ | exact Kd.V_nil _ _ _ _ _ | exact Kd.Q_nil _ _ _ _ _ | exact Kd.S_nil _ _ _ _ _, bel⟩

/-! ### laws_markState: function 57 -/
set_option maxHeartbeats 8000000 in
set_option maxRecDepth 100000 in
theorem laws_markState.S_flat (P : Nat → Prop) (base : Nat) (v : Value) (l : List Int) (a : Int) (w : World) (hr : Kd.R (Kd.int .u8) 5 w base P v l) (h0 : 0 ≤ a) (h1 : a + l.length ≤ 1000000000) :
  Calls Try.prog 38 #[v, .int .i64 a] w fun e w' => e = .returned (.int .i64 (a + l.length)) ∧ Mk w w' P := by
 obtain ⟨A, c, rfl⟩ := Kd.R_slice hr
 have HR := Aside0.mk hr
 clear hr
 go_enter Try.func38, Try.ntmps38
 go_wp2
 go_loopg [1, 5] l.length (fun gg v1 v5 wr => ∃ x : Int, v1 = .int .i64 (a + x) ∧ v5 = .int .i64 x ∧ 0 ≤ x ∧ x ≤ (l.length : Int) ∧ l.length - x.toNat ≤ gg ∧ Aside0 (Mk w wr P))
 case atStart => exact ⟨0, by rw [Int.add_zero], rfl, by omega, by omega, by omega, ⟨Mk.refl w P⟩⟩
 case round =>
  obtain ⟨x, rfl, rfl, hx0, hx1, hg, M⟩ := hrel
  by_cases hlt : x < (l.length : Int)
  ·obtain ⟨l', hl', hr'⟩ := Mk.R_int M.out (fun _ h => h) HR.out
   have hlt' : x < (l'.length : Int) := by omega
   have c1 : decide (x < (l.length : Int)) = true := decide_eq_true hlt
   have HL := Aside0.mk hlt
   have HLL := Aside0.mk hl'
   have HG := Aside0.mk hg
   clear hlt hg
   obtain ⟨g, cap, e, hb, hgl, cells, hcell⟩ := Kd.R_form hr' (by omega)
   injection e with ea en ec
   subst ea
   obtain ⟨hx, hf⟩ := Kd.R_celln 0 hr' x hx0 (by omega)
   have HP := Aside0.mk (hr'.1 g rfl)
   have HR' := Aside0.mk hr'
   clear hr' hcell hgl hb en ec hl' hlt' hx1
   have p5 : (0 ≤ x) = True := eq_true hx0
   have q5 : (x < (l.length : Int)) = True := eq_true HL.out
   go_wp2_with (first | ((with_reducible refine gate_store (t := 5) (p := 16) rfl ?_); refine store_event (t := 5) (p := 16) (v := ?vo_w8) (w1 := (wr.setCell ⟨g, x.toNat, none⟩ (.int .u8 ((a + x) % 256)))) ?hg ?ho ?hn ?hr ?_; (case ho => rfl); (case hg => rfl); (case hn => rfl); (case hr => first | (go_simp; done) | (go_simp; rfl)); intro w8 hw; have M8 := Aside0.mk (show Mk w w8 P by rw [hw]; exact Mk.set M.out HP.out hx (.inr (.inl ⟨_, _, _, rfl, rfl⟩))); clear hw))
   go_roundg (l.length - (x.toNat + 1))
   case measure => have := HG.out; have := HL.out; omega
   case rel =>
    have hw1 : wrap64 (a + x + 1) = a + (x + 1) := by rw [w64m (by have := HL.out; omega) (by have := HL.out; omega)]; omega
    have hw2 : wrap64 (x + 1) = x + 1 := w64m (by have := HL.out; omega) (by have := HL.out; omega)
    exact ⟨x + 1, by first | rw [hw1] | simp [hw1], by first | rw [hw2] | simp [hw2], by omega, by have := HL.out; omega, by have := HL.out; omega, ⟨M8.out⟩⟩
  have c1 : decide (x < (l.length : Int)) = false := decide_eq_false hlt
  have hx : x = (l.length : Int) := by omega
  clear hlt hg
  subst hx
  go_wp2
  go_ret
  exact ⟨rfl, M.out⟩
def laws_markState.SRow_wt (x : S92) : Nat := x.f0.length + x.f1.length + 2
def laws_markState.SRow_Eqv (x y : S92) : Prop := x.f0.length = y.f0.length ∧ x.f1.length = y.f1.length
theorem laws_markState.SRow_shape (x : S92) (w W : World) (P ok : Nat → Prop) (base : Nat) (cs cs' : List Value) (M : Mk w W P) (hok : ∀ b, ok b → P b) (hm : k92.M w base ok x cs) (hsm : Sm cs cs') : ∃ x', laws_markState.SRow_Eqv x x' ∧ k92.M W base ok x' cs' := by
 obtain ⟨hl, he⟩ := hsm
 obtain ⟨v0, v1, rfl, h0, h1⟩ := k92_openM hm
 obtain ⟨A0, c0, rfl⟩ := Kd.R_slice h0
 obtain ⟨A1, c1, rfl⟩ := Kd.R_slice h1
 obtain ⟨u0, hu0, q0⟩ := he 0 _ rfl
 obtain ⟨u1, hu1, q1⟩ := he 1 _ rfl
 obtain ⟨u2, hu2, q2⟩ := he 2 _ rfl
 obtain ⟨u3, hu3, q3⟩ := he 3 _ rfl
 obtain rfl := q0.slice
 obtain rfl := q1.slice
 obtain ⟨i2, rfl⟩ := q2.int
 obtain ⟨i3, rfl⟩ := q3.int
 have hcs : cs' = [.slice A0 x.f0.length c0, .slice A1 x.f1.length c1, .int .i64 i2, .int .i64 i3] := by
  match cs', hl, hu0, hu1, hu2, hu3 with
  | [y0, y1, y2, y3], _, a0, a1, a2, a3 => simp at a0 a1 a2 a3; rw [a0, a1, a2, a3]
 subst hcs
 obtain ⟨f0, l0, g0⟩ := Mk.R_int M hok h0
 obtain ⟨f1, l1, g1⟩ := Mk.R_int M hok h1
 have e := k92_mkM W base ok (⟨f0, f1, i2, i3⟩ : S92) (v0 := .slice A0 x.f0.length c0) g0 (v1 := .slice A1 x.f1.length c1) g1
 exact ⟨⟨f0, f1, i2, i3⟩, ⟨l0.symm, l1.symm⟩, e⟩
set_option maxHeartbeats 16000000 in
set_option maxRecDepth 100000 in
theorem laws_markState.SRow_deep (P : Nat → Prop) (base : Nat) (v : Value) (l : List S92) (a : Int) (w : World) (hr : Kd.R k92 92 w base P v l) (h0 : 0 ≤ a) (h1 : a + ((l.map laws_markState.SRow_wt).sum : Nat) ≤ 1000000000) :
  Calls Try.prog 136 #[v, .int .i64 a] w fun e w' => e = .returned (.int .i64 (a + ((l.map laws_markState.SRow_wt).sum : Nat))) ∧ Mk w w' P := by
 obtain ⟨A, c, rfl⟩ := Kd.R_slice hr
 have HR := Aside0.mk hr
 have H0 := Aside0.mk h0
 have H1 := Aside0.mk h1
 clear hr h0 h1
 have hu := Try.underlying92
 go_enter Try.func136, Try.ntmps136
 go_wp2
 go_loopg [1, 5] l.length (fun gg v1 v5 wr => ∃ x N1 : Int, v1 = .int .i64 N1 ∧ v5 = .int .i64 x ∧ 0 ≤ x ∧ x ≤ (l.length : Int) ∧ l.length - x.toNat ≤ gg ∧ Aside0 (N1 = a + (((l.take x.toNat).map laws_markState.SRow_wt).sum : Nat)) ∧ Aside0 (Mk w wr P))
 case atStart => exact ⟨0, a, rfl, rfl, by omega, by omega, by omega, ⟨by simp⟩, ⟨Mk.refl w P⟩⟩
 case round =>
  obtain ⟨x, N1, rfl, rfl, hx0, hx1, hg, HA, M⟩ := hrel
  by_cases hlt : x < (l.length : Int)
  ·have hn : x.toNat < l.length := by omega
   obtain ⟨l', hl', hs', hr'⟩ := Mk.R (s := laws_markState.SRow_Eqv) M.out (fun _ h => h) HR.out (fun y hy ok' hok' d d' hm' hsm' => laws_markState.SRow_shape y w wr P ok' base d d' M.out hok' hm' hsm')
   have hn' : x.toNat < l'.length := by omega
   have hE := hs' x.toNat _ _ (List.getElem?_eq_getElem hn) (List.getElem?_eq_getElem hn')
   have c1 : decide (x < (l.length : Int)) = true := decide_eq_true hlt
   obtain ⟨g, cap, e, hb, hgl, cells, hcell⟩ := Kd.R_form hr' (by omega)
   injection e with ea en ec
   subst ea
   obtain ⟨ce, hcl, hM, hcc, hfr⟩ := Kd.R_elem hr' z92 x hx0 (by omega)
   rw [List.getD_eq_getElem?_getD, List.getElem?_eq_getElem hn', Option.getD_some] at hM
   generalize l'[x.toNat] = y at hE hM
   obtain ⟨v0, v1, rfl, hr0, hr1⟩ := k92_openM hM
   obtain ⟨A0, c0, rfl⟩ := Kd.R_slice hr0
   obtain ⟨A1, c1, rfl⟩ := Kd.R_slice hr1
   have hx_0 : wr.cell? ⟨g, x.toNat * 4, none⟩ = some (.slice A0 y.f0.length c0) := hcc 0 _ rfl
   have hx_1 : wr.cell? ⟨g, x.toNat * 4 + 1, none⟩ = some (.slice A1 y.f1.length c1) := hcc 1 _ rfl
   have hx_2 : wr.cell? ⟨g, x.toNat * 4 + 2, none⟩ = some (.int .i64 y.f2) := hcc 2 _ rfl
   have hx_3 : wr.cell? ⟨g, x.toNat * 4 + 3, none⟩ = some (.int .i64 y.f3) := hcc 3 _ rfl
   have hf_2 : wr.frozen? ⟨g, x.toNat * 4 + 2, none⟩ = false := hfr 2
   have hf_3 : wr.frozen? ⟨g, x.toNat * 4 + 3, none⟩ = false := hfr 3
   have HP := Aside0.mk (hr'.1 g rfl)
   have h4 := Aside0.mk (mk_sum_take laws_markState.SRow_wt l (x.toNat + 1))
   have h5 := Aside0.mk (mk_sum_step laws_markState.SRow_wt l x.toNat hn)
   have h6 : laws_markState.SRow_wt l[x.toNat] = y.f0.length + y.f1.length + 2 := by
    unfold laws_markState.SRow_wt
    unfold laws_markState.SRow_Eqv at hE
    rw [hE.1, hE.2]
   have hsum : N1 + (y.f0.length + y.f1.length + 2 : Nat) = a + (((l.take (x.toNat + 1)).map laws_markState.SRow_wt).sum : Nat) := by rw [HA.out, h5.out, h6]; omega
   have hle : N1 + (y.f0.length + y.f1.length + 2 : Nat) ≤ 1000000000 := by rw [hsum]; have := h4.out; have := H1.out; omega
   have hA0 : 0 ≤ N1 := by rw [HA.out]; have := H0.out; omega
   have hw0 : wrap64 (N1 + (y.f0.length : Int) + (y.f1.length : Int) + 1) = N1 + (y.f0.length : Int) + (y.f1.length : Int) + 1 := w64m (by clear hsum; omega) (by clear hsum; omega)
   have hw1 : wrap64 (N1 + (y.f0.length : Int) + (y.f1.length : Int) + 1 + 1) = N1 + (y.f0.length : Int) + (y.f1.length : Int) + 1 + 1 := w64m (by clear hsum hw0; omega) (by clear hsum hw0; omega)
   have hwx : wrap64 (x + 1) = x + 1 := w64m (by clear hsum hle hw0 hw1; omega) (by have := (Kd.R_reads' HR.out).2.2.2.1; clear hsum hle hw0 hw1; omega)
   have HL := Aside0.mk hlt
   have HG := Aside0.mk hg
   have HR0 := Aside0.mk hr0
   have HR1 := Aside0.mk hr1
   have HLE := Aside0.mk hle
   have HA0 := Aside0.mk hA0
   have HSUM := Aside0.mk hsum
   have SETS := Aside0.mk (show ∀ w8, Mk wr w8 P → ∀ (b2 : Int) (b3 : Int), Mk wr ((w8.setCell ⟨g, x.toNat * 4 + 2, none⟩ (.int .i64 b2)).setCell ⟨g, x.toNat * 4 + 3, none⟩ (.int .i64 b3)) P from by
    intro w8 m8 b2 b3
    obtain ⟨u2, hy_2, s2⟩ := m8.cell hx_2
    obtain ⟨d2, rfl⟩ := s2.int
    have n0 := Mk.set m8 HP.out hy_2 (u' := .int .i64 b2) (.inr (.inl ⟨_, _, _, rfl, rfl⟩))
    obtain ⟨u3, hy_3, s3⟩ := n0.cell hx_3
    obtain ⟨d3, rfl⟩ := s3.int
    have n1 := Mk.set n0 HP.out hy_3 (u' := .int .i64 b3) (.inr (.inl ⟨_, _, _, rfl, rfl⟩))
    exact n1)
   clear hr' hcell hgl hb en ec hl' hn' hx1 hE hlt hg hr0 hr1 hle hA0 hsum h6 hs' hM hcc hfr hcl h4 h5 hn
   have p5 : (0 ≤ x) = True := eq_true hx0
   have q5 : (x < (l.length : Int)) = True := eq_true HL.out
   go_wp2_with (first | (go_at_call 38; with_reducible refine (laws_markState.S_flat P base _ y.f0 (N1) _ (Kd.R_mono HR0.out (fun _ h => h.1)) HA0.out (by have := HLE.out; omega)).mono ?_; rintro e w80 ⟨rfl, m8⟩; have M80 := Aside0.mk (m8); obtain ⟨u1_0, hy0_1, s1⟩ := M80.out.cell hx_1; obtain rfl := s1.slice; obtain ⟨u2_0, hy0_2, s2⟩ := M80.out.cell hx_2; obtain ⟨i2_0, rfl⟩ := s2.int; obtain ⟨u3_0, hy0_3, s3⟩ := M80.out.cell hx_3; obtain ⟨i3_0, rfl⟩ := s3.int; have hz0_2 := M80.out.frz hx_2 hf_2; have hz0_3 := M80.out.frz hx_3 hf_3; clear m8) | (go_at_call 38; obtain ⟨r1, lr1, gr1⟩ := Mk.R_int M80.out (fun _ (h : P _ ∧ _) => h.1) HR1.out; with_reducible refine (laws_markState.S_flat P base _ r1 (N1 + (y.f0.length : Int)) _ (Kd.R_mono gr1 (fun _ h => h.1)) (by have := HA0.out; omega) (by have := HLE.out; have := lr1; omega)).mono ?_; rw [lr1]; rintro e w81 ⟨rfl, m8⟩; have M81 := Aside0.mk (M80.out.trans m8); obtain ⟨u2_1, hy1_2, s2⟩ := M81.out.cell hx_2; obtain ⟨i2_1, rfl⟩ := s2.int; obtain ⟨u3_1, hy1_3, s3⟩ := M81.out.cell hx_3; obtain ⟨i3_1, rfl⟩ := s3.int; have hz1_2 := M81.out.frz hx_2 hf_2; have hz1_3 := M81.out.frz hx_3 hf_3; clear m8))
   go_roundg (l.length - (x.toNat + 1))
   case measure => have := HG.out; have := HL.out; omega
   case rel => exact ⟨x + 1, _, rfl, by first | rw [hwx] | simp [hwx], by omega, by have := HL.out; omega, by have := HL.out; omega, ⟨by have := HSUM.out; rw [show (x + 1).toNat = x.toNat + 1 by omega]; omega⟩, ⟨M.out.trans (SETS.out _ M81.out _ _)⟩⟩
  have c1 : decide (x < (l.length : Int)) = false := decide_eq_false hlt
  have hA : N1 = a + ((l.map laws_markState.SRow_wt).sum : Nat) := by rw [HA.out, List.take_of_length_le (by omega)]
  clear hlt hg
  subst hA
  go_wp2
  go_ret
  exact ⟨rfl, M.out⟩
theorem laws_markState.SRow_call (P : Nat → Prop) (base : Nat) (v : Value) (l : List S92) (a : Int) (w1 w : World) (m : Mk w1 w P) (hr : Kd.R k92 92 w1 base P v l) (h0 : 0 ≤ a) (h1 : a + ((l.map laws_markState.SRow_wt).sum : Nat) ≤ 1000000000) :
  Calls Try.prog 136 #[v, .int .i64 a] w fun e w' => e = .returned (.int .i64 (a + ((l.map laws_markState.SRow_wt).sum : Nat))) ∧ Mk w1 w' P := by
 obtain ⟨l', hl, hs, hr'⟩ := Mk.R (s := laws_markState.SRow_Eqv) m (fun _ h => h) hr (fun z hz ok' hok' d d' hm' hsm' => laws_markState.SRow_shape z w1 w P ok' base d d' m hok' hm' hsm')
 have e1 : l.map laws_markState.SRow_wt = l'.map laws_markState.SRow_wt := mk_map_eq laws_markState.SRow_wt hl (fun j z z' h h' => by have := hs j z z' h h'; unfold laws_markState.SRow_Eqv at this; unfold laws_markState.SRow_wt; omega)
 rw [e1] at h1 ⊢
 refine (laws_markState.SRow_deep P base v l' a w hr' h0 h1).mono ?_
 rintro e w' ⟨rfl, m'⟩
 exact ⟨rfl, m.trans m'⟩
def laws_markState.STomb_wt (x : S94) : Nat := x.f0.length + 1
def laws_markState.STomb_Eqv (x y : S94) : Prop := x.f0.length = y.f0.length
theorem laws_markState.STomb_shape (x : S94) (w W : World) (P ok : Nat → Prop) (base : Nat) (cs cs' : List Value) (M : Mk w W P) (hok : ∀ b, ok b → P b) (hm : k94.M w base ok x cs) (hsm : Sm cs cs') : ∃ x', laws_markState.STomb_Eqv x x' ∧ k94.M W base ok x' cs' := by
 obtain ⟨hl, he⟩ := hsm
 obtain ⟨v0, rfl, h0⟩ := k94_openM hm
 obtain ⟨A0, c0, rfl⟩ := Kd.R_slice h0
 obtain ⟨u0, hu0, q0⟩ := he 0 _ rfl
 obtain ⟨u1, hu1, q1⟩ := he 1 _ rfl
 obtain rfl := q0.slice
 obtain ⟨i1, rfl⟩ := q1.int
 have hcs : cs' = [.slice A0 x.f0.length c0, .int .i64 i1] := by
  match cs', hl, hu0, hu1 with
  | [y0, y1], _, a0, a1 => simp at a0 a1; rw [a0, a1]
 subst hcs
 obtain ⟨f0, l0, g0⟩ := Mk.R_int M hok h0
 have e := k94_mkM W base ok (⟨f0, i1⟩ : S94) (v0 := .slice A0 x.f0.length c0) g0
 exact ⟨⟨f0, i1⟩, l0.symm, e⟩
set_option maxHeartbeats 16000000 in
set_option maxRecDepth 100000 in
theorem laws_markState.STomb_deep (P : Nat → Prop) (base : Nat) (v : Value) (l : List S94) (a : Int) (w : World) (hr : Kd.R k94 94 w base P v l) (h0 : 0 ≤ a) (h1 : a + ((l.map laws_markState.STomb_wt).sum : Nat) ≤ 1000000000) :
  Calls Try.prog 137 #[v, .int .i64 a] w fun e w' => e = .returned (.int .i64 (a + ((l.map laws_markState.STomb_wt).sum : Nat))) ∧ Mk w w' P := by
 obtain ⟨A, c, rfl⟩ := Kd.R_slice hr
 have HR := Aside0.mk hr
 have H0 := Aside0.mk h0
 have H1 := Aside0.mk h1
 clear hr h0 h1
 have hu := Try.underlying94
 go_enter Try.func137, Try.ntmps137
 go_wp2
 go_loopg [1, 5] l.length (fun gg v1 v5 wr => ∃ x N1 : Int, v1 = .int .i64 N1 ∧ v5 = .int .i64 x ∧ 0 ≤ x ∧ x ≤ (l.length : Int) ∧ l.length - x.toNat ≤ gg ∧ Aside0 (N1 = a + (((l.take x.toNat).map laws_markState.STomb_wt).sum : Nat)) ∧ Aside0 (Mk w wr P))
 case atStart => exact ⟨0, a, rfl, rfl, by omega, by omega, by omega, ⟨by simp⟩, ⟨Mk.refl w P⟩⟩
 case round =>
  obtain ⟨x, N1, rfl, rfl, hx0, hx1, hg, HA, M⟩ := hrel
  by_cases hlt : x < (l.length : Int)
  ·have hn : x.toNat < l.length := by omega
   obtain ⟨l', hl', hs', hr'⟩ := Mk.R (s := laws_markState.STomb_Eqv) M.out (fun _ h => h) HR.out (fun y hy ok' hok' d d' hm' hsm' => laws_markState.STomb_shape y w wr P ok' base d d' M.out hok' hm' hsm')
   have hn' : x.toNat < l'.length := by omega
   have hE := hs' x.toNat _ _ (List.getElem?_eq_getElem hn) (List.getElem?_eq_getElem hn')
   have c1 : decide (x < (l.length : Int)) = true := decide_eq_true hlt
   obtain ⟨g, cap, e, hb, hgl, cells, hcell⟩ := Kd.R_form hr' (by omega)
   injection e with ea en ec
   subst ea
   obtain ⟨ce, hcl, hM, hcc, hfr⟩ := Kd.R_elem hr' z94 x hx0 (by omega)
   rw [List.getD_eq_getElem?_getD, List.getElem?_eq_getElem hn', Option.getD_some] at hM
   generalize l'[x.toNat] = y at hE hM
   obtain ⟨v0, rfl, hr0⟩ := k94_openM hM
   obtain ⟨A0, c0, rfl⟩ := Kd.R_slice hr0
   have hx_0 : wr.cell? ⟨g, x.toNat * 2, none⟩ = some (.slice A0 y.f0.length c0) := hcc 0 _ rfl
   have hx_1 : wr.cell? ⟨g, x.toNat * 2 + 1, none⟩ = some (.int .i64 y.f1) := hcc 1 _ rfl
   have hf_1 : wr.frozen? ⟨g, x.toNat * 2 + 1, none⟩ = false := hfr 1
   have HP := Aside0.mk (hr'.1 g rfl)
   have h4 := Aside0.mk (mk_sum_take laws_markState.STomb_wt l (x.toNat + 1))
   have h5 := Aside0.mk (mk_sum_step laws_markState.STomb_wt l x.toNat hn)
   have h6 : laws_markState.STomb_wt l[x.toNat] = y.f0.length + 1 := by
    unfold laws_markState.STomb_wt
    unfold laws_markState.STomb_Eqv at hE
    rw [hE]
   have hsum : N1 + (y.f0.length + 1 : Nat) = a + (((l.take (x.toNat + 1)).map laws_markState.STomb_wt).sum : Nat) := by rw [HA.out, h5.out, h6]; omega
   have hle : N1 + (y.f0.length + 1 : Nat) ≤ 1000000000 := by rw [hsum]; have := h4.out; have := H1.out; omega
   have hA0 : 0 ≤ N1 := by rw [HA.out]; have := H0.out; omega
   have hw0 : wrap64 (N1 + (y.f0.length : Int) + 1) = N1 + (y.f0.length : Int) + 1 := w64m (by clear hsum; omega) (by clear hsum; omega)
   have hwx : wrap64 (x + 1) = x + 1 := w64m (by clear hsum hle hw0; omega) (by have := (Kd.R_reads' HR.out).2.2.2.1; clear hsum hle hw0; omega)
   have HL := Aside0.mk hlt
   have HG := Aside0.mk hg
   have HR0 := Aside0.mk hr0
   have HLE := Aside0.mk hle
   have HA0 := Aside0.mk hA0
   have HSUM := Aside0.mk hsum
   have SETS := Aside0.mk (show ∀ w8, Mk wr w8 P → ∀ (b1 : Int), Mk wr (w8.setCell ⟨g, x.toNat * 2 + 1, none⟩ (.int .i64 b1)) P from by
    intro w8 m8 b1
    obtain ⟨u1, hy_1, s1⟩ := m8.cell hx_1
    obtain ⟨d1, rfl⟩ := s1.int
    have n0 := Mk.set m8 HP.out hy_1 (u' := .int .i64 b1) (.inr (.inl ⟨_, _, _, rfl, rfl⟩))
    exact n0)
   clear hr' hcell hgl hb en ec hl' hn' hx1 hE hlt hg hr0 hle hA0 hsum h6 hs' hM hcc hfr hcl h4 h5 hn
   have p5 : (0 ≤ x) = True := eq_true hx0
   have q5 : (x < (l.length : Int)) = True := eq_true HL.out
   go_wp2_with (first | (go_at_call 38; with_reducible refine (laws_markState.S_flat P base _ y.f0 (N1) _ (Kd.R_mono HR0.out (fun _ h => h.1)) HA0.out (by have := HLE.out; omega)).mono ?_; rintro e w80 ⟨rfl, m8⟩; have M80 := Aside0.mk (m8); obtain ⟨u1_0, hy0_1, s1⟩ := M80.out.cell hx_1; obtain ⟨i1_0, rfl⟩ := s1.int; have hz0_1 := M80.out.frz hx_1 hf_1; clear m8))
   go_roundg (l.length - (x.toNat + 1))
   case measure => have := HG.out; have := HL.out; omega
   case rel => exact ⟨x + 1, _, rfl, by first | rw [hwx] | simp [hwx], by omega, by have := HL.out; omega, by have := HL.out; omega, ⟨by have := HSUM.out; rw [show (x + 1).toNat = x.toNat + 1 by omega]; omega⟩, ⟨M.out.trans (SETS.out _ M80.out _)⟩⟩
  have c1 : decide (x < (l.length : Int)) = false := decide_eq_false hlt
  have hA : N1 = a + ((l.map laws_markState.STomb_wt).sum : Nat) := by rw [HA.out, List.take_of_length_le (by omega)]
  clear hlt hg
  subst hA
  go_wp2
  go_ret
  exact ⟨rfl, M.out⟩
theorem laws_markState.STomb_call (P : Nat → Prop) (base : Nat) (v : Value) (l : List S94) (a : Int) (w1 w : World) (m : Mk w1 w P) (hr : Kd.R k94 94 w1 base P v l) (h0 : 0 ≤ a) (h1 : a + ((l.map laws_markState.STomb_wt).sum : Nat) ≤ 1000000000) :
  Calls Try.prog 137 #[v, .int .i64 a] w fun e w' => e = .returned (.int .i64 (a + ((l.map laws_markState.STomb_wt).sum : Nat))) ∧ Mk w1 w' P := by
 obtain ⟨l', hl, hs, hr'⟩ := Mk.R (s := laws_markState.STomb_Eqv) m (fun _ h => h) hr (fun z hz ok' hok' d d' hm' hsm' => laws_markState.STomb_shape z w1 w P ok' base d d' m hok' hm' hsm')
 have e1 : l.map laws_markState.STomb_wt = l'.map laws_markState.STomb_wt := mk_map_eq laws_markState.STomb_wt hl (fun j z z' h h' => by have := hs j z z' h h'; unfold laws_markState.STomb_Eqv at this; unfold laws_markState.STomb_wt; omega)
 rw [e1] at h1 ⊢
 refine (laws_markState.STomb_deep P base v l' a w hr' h0 h1).mono ?_
 rintro e w' ⟨rfl, m'⟩
 exact ⟨rfl, m.trans m'⟩
def laws_markState.SSes_wt (x : S109) : Nat := 2
def laws_markState.SSes_Eqv (x y : S109) : Prop := True
theorem laws_markState.SSes_shape (x : S109) (w W : World) (P ok : Nat → Prop) (base : Nat) (cs cs' : List Value) (M : Mk w W P) (hok : ∀ b, ok b → P b) (hm : k109.M w base ok x cs) (hsm : Sm cs cs') : ∃ x', laws_markState.SSes_Eqv x x' ∧ k109.M W base ok x' cs' := by
 obtain ⟨hl, he⟩ := hsm
 obtain rfl := k109_openM hm
 obtain ⟨u0, hu0, q0⟩ := he 0 _ rfl
 obtain ⟨u1, hu1, q1⟩ := he 1 _ rfl
 obtain ⟨i0, rfl⟩ := q0.int
 obtain ⟨i1, rfl⟩ := q1.bool
 have hcs : cs' = [.int .i64 i0, .bool i1] := by
  match cs', hl, hu0, hu1 with
  | [y0, y1], _, a0, a1 => simp at a0 a1; rw [a0, a1]
 subst hcs
 have e := k109_mkM W base ok (⟨i0, i1⟩ : S109)
 exact ⟨⟨i0, i1⟩, trivial, e⟩
set_option maxHeartbeats 16000000 in
set_option maxRecDepth 100000 in
theorem laws_markState.SSes_deep (P : Nat → Prop) (base : Nat) (v : Value) (l : List S109) (a : Int) (w : World) (hr : Kd.R k109 109 w base P v l) (h0 : 0 ≤ a) (h1 : a + ((l.map laws_markState.SSes_wt).sum : Nat) ≤ 1000000000) :
  Calls Try.prog 138 #[v, .int .i64 a] w fun e w' => e = .returned (.int .i64 (a + ((l.map laws_markState.SSes_wt).sum : Nat))) ∧ Mk w w' P := by
 obtain ⟨A, c, rfl⟩ := Kd.R_slice hr
 have HR := Aside0.mk hr
 have H0 := Aside0.mk h0
 have H1 := Aside0.mk h1
 clear hr h0 h1
 have hu := Try.underlying109
 go_enter Try.func138, Try.ntmps138
 go_wp2
 go_loopg [1, 5] l.length (fun gg v1 v5 wr => ∃ x N1 : Int, v1 = .int .i64 N1 ∧ v5 = .int .i64 x ∧ 0 ≤ x ∧ x ≤ (l.length : Int) ∧ l.length - x.toNat ≤ gg ∧ Aside0 (N1 = a + (((l.take x.toNat).map laws_markState.SSes_wt).sum : Nat)) ∧ Aside0 (Mk w wr P))
 case atStart => exact ⟨0, a, rfl, rfl, by omega, by omega, by omega, ⟨by simp⟩, ⟨Mk.refl w P⟩⟩
 case round =>
  obtain ⟨x, N1, rfl, rfl, hx0, hx1, hg, HA, M⟩ := hrel
  by_cases hlt : x < (l.length : Int)
  ·have hn : x.toNat < l.length := by omega
   obtain ⟨l', hl', hs', hr'⟩ := Mk.R (s := laws_markState.SSes_Eqv) M.out (fun _ h => h) HR.out (fun y hy ok' hok' d d' hm' hsm' => laws_markState.SSes_shape y w wr P ok' base d d' M.out hok' hm' hsm')
   have hn' : x.toNat < l'.length := by omega
   have hE := hs' x.toNat _ _ (List.getElem?_eq_getElem hn) (List.getElem?_eq_getElem hn')
   have c1 : decide (x < (l.length : Int)) = true := decide_eq_true hlt
   obtain ⟨g, cap, e, hb, hgl, cells, hcell⟩ := Kd.R_form hr' (by omega)
   injection e with ea en ec
   subst ea
   obtain ⟨ce, hcl, hM, hcc, hfr⟩ := Kd.R_elem hr' z109 x hx0 (by omega)
   rw [List.getD_eq_getElem?_getD, List.getElem?_eq_getElem hn', Option.getD_some] at hM
   generalize l'[x.toNat] = y at hE hM
   obtain rfl := k109_openM hM
   have hx_0 : wr.cell? ⟨g, x.toNat * 2, none⟩ = some (.int .i64 y.f0) := hcc 0 _ rfl
   have hx_1 : wr.cell? ⟨g, x.toNat * 2 + 1, none⟩ = some (.bool y.f1) := hcc 1 _ rfl
   have hf_0 : wr.frozen? ⟨g, x.toNat * 2, none⟩ = false := hfr 0
   have hf_1 : wr.frozen? ⟨g, x.toNat * 2 + 1, none⟩ = false := hfr 1
   have HP := Aside0.mk (hr'.1 g rfl)
   have h4 := Aside0.mk (mk_sum_take laws_markState.SSes_wt l (x.toNat + 1))
   have h5 := Aside0.mk (mk_sum_step laws_markState.SSes_wt l x.toNat hn)
   have h6 : laws_markState.SSes_wt l[x.toNat] = 2 := by
    unfold laws_markState.SSes_wt
    rfl
   have hsum : N1 + (2 : Nat) = a + (((l.take (x.toNat + 1)).map laws_markState.SSes_wt).sum : Nat) := by rw [HA.out, h5.out, h6]; omega
   have hle : N1 + (2 : Nat) ≤ 1000000000 := by rw [hsum]; have := h4.out; have := H1.out; omega
   have hA0 : 0 ≤ N1 := by rw [HA.out]; have := H0.out; omega
   have hw0 : wrap64 (N1 + 1) = N1 + 1 := w64m (by clear hsum; omega) (by clear hsum; omega)
   have hw1 : wrap64 (N1 + 1 + 1) = N1 + 1 + 1 := w64m (by clear hsum hw0; omega) (by clear hsum hw0; omega)
   have hwx : wrap64 (x + 1) = x + 1 := w64m (by clear hsum hle hw0 hw1; omega) (by have := (Kd.R_reads' HR.out).2.2.2.1; clear hsum hle hw0 hw1; omega)
   have HL := Aside0.mk hlt
   have HG := Aside0.mk hg
   have HLE := Aside0.mk hle
   have HA0 := Aside0.mk hA0
   have HSUM := Aside0.mk hsum
   have SETS := Aside0.mk (show ∀ w8, Mk wr w8 P → ∀ (b0 : Int) (b1 : Bool), Mk wr ((w8.setCell ⟨g, x.toNat * 2, none⟩ (.int .i64 b0)).setCell ⟨g, x.toNat * 2 + 1, none⟩ (.bool b1)) P from by
    intro w8 m8 b0 b1
    obtain ⟨u0, hy_0, s0⟩ := m8.cell hx_0
    obtain ⟨d0, rfl⟩ := s0.int
    have n0 := Mk.set m8 HP.out hy_0 (u' := .int .i64 b0) (.inr (.inl ⟨_, _, _, rfl, rfl⟩))
    obtain ⟨u1, hy_1, s1⟩ := n0.cell hx_1
    obtain ⟨d1, rfl⟩ := s1.bool
    have n1 := Mk.set n0 HP.out hy_1 (u' := .bool b1) (.inr (.inr ⟨_, _, rfl, rfl⟩))
    exact n1)
   clear hr' hcell hgl hb en ec hl' hn' hx1 hE hlt hg hle hA0 hsum h6 hs' hM hcc hfr hcl h4 h5 hn
   have p5 : (0 ≤ x) = True := eq_true hx0
   have q5 : (x < (l.length : Int)) = True := eq_true HL.out
   go_wp2
   go_roundg (l.length - (x.toNat + 1))
   case measure => have := HG.out; have := HL.out; omega
   case rel => exact ⟨x + 1, _, rfl, by first | rw [hwx] | simp [hwx], by omega, by have := HL.out; omega, by have := HL.out; omega, ⟨by have := HSUM.out; rw [show (x + 1).toNat = x.toNat + 1 by omega]; omega⟩, ⟨M.out.trans (SETS.out _ (Mk.refl wr P) _ _)⟩⟩
  have c1 : decide (x < (l.length : Int)) = false := decide_eq_false hlt
  have hA : N1 = a + ((l.map laws_markState.SSes_wt).sum : Nat) := by rw [HA.out, List.take_of_length_le (by omega)]
  clear hlt hg
  subst hA
  go_wp2
  go_ret
  exact ⟨rfl, M.out⟩
theorem laws_markState.SSes_call (P : Nat → Prop) (base : Nat) (v : Value) (l : List S109) (a : Int) (w1 w : World) (m : Mk w1 w P) (hr : Kd.R k109 109 w1 base P v l) (h0 : 0 ≤ a) (h1 : a + ((l.map laws_markState.SSes_wt).sum : Nat) ≤ 1000000000) :
  Calls Try.prog 138 #[v, .int .i64 a] w fun e w' => e = .returned (.int .i64 (a + ((l.map laws_markState.SSes_wt).sum : Nat))) ∧ Mk w1 w' P := by
 obtain ⟨l', hl, hs, hr'⟩ := Mk.R (s := laws_markState.SSes_Eqv) m (fun _ h => h) hr (fun z hz ok' hok' d d' hm' hsm' => laws_markState.SSes_shape z w1 w P ok' base d d' m hok' hm' hsm')
 have e1 : l.map laws_markState.SSes_wt = l'.map laws_markState.SSes_wt := mk_map_eq laws_markState.SSes_wt hl (fun j z z' h h' => by have := hs j z z' h h'; unfold laws_markState.SSes_Eqv at this; unfold laws_markState.SSes_wt; omega)
 rw [e1] at h1 ⊢
 refine (laws_markState.SSes_deep P base v l' a w hr' h0 h1).mono ?_
 rintro e w' ⟨rfl, m'⟩
 exact ⟨rfl, m.trans m'⟩
def laws_markState.SLast_wt (x : S75) : Nat := 4
def laws_markState.SLast_Eqv (x y : S75) : Prop := True
theorem laws_markState.SLast_shape (x : S75) (w W : World) (P ok : Nat → Prop) (base : Nat) (cs cs' : List Value) (M : Mk w W P) (hok : ∀ b, ok b → P b) (hm : k75.M w base ok x cs) (hsm : Sm cs cs') : ∃ x', laws_markState.SLast_Eqv x x' ∧ k75.M W base ok x' cs' := by
 obtain ⟨hl, he⟩ := hsm
 obtain rfl := k75_openM hm
 obtain ⟨u0, hu0, q0⟩ := he 0 _ rfl
 obtain ⟨u1, hu1, q1⟩ := he 1 _ rfl
 obtain ⟨u2, hu2, q2⟩ := he 2 _ rfl
 obtain ⟨u3, hu3, q3⟩ := he 3 _ rfl
 obtain ⟨i0, rfl⟩ := q0.int
 obtain ⟨i1, rfl⟩ := q1.int
 obtain ⟨i2, rfl⟩ := q2.int
 obtain ⟨i3, rfl⟩ := q3.int
 have hcs : cs' = [.int .i64 i0, .int .i64 i1, .int .i64 i2, .int .i64 i3] := by
  match cs', hl, hu0, hu1, hu2, hu3 with
  | [y0, y1, y2, y3], _, a0, a1, a2, a3 => simp at a0 a1 a2 a3; rw [a0, a1, a2, a3]
 subst hcs
 have e := k75_mkM W base ok (⟨i0, i1, ⟨i2, i3⟩⟩ : S75)
 exact ⟨⟨i0, i1, ⟨i2, i3⟩⟩, trivial, e⟩
set_option maxHeartbeats 16000000 in
set_option maxRecDepth 100000 in
theorem laws_markState.SLast_deep (P : Nat → Prop) (base : Nat) (v : Value) (l : List S75) (a : Int) (w : World) (hr : Kd.R k75 75 w base P v l) (h0 : 0 ≤ a) (h1 : a + ((l.map laws_markState.SLast_wt).sum : Nat) ≤ 1000000000) :
  Calls Try.prog 139 #[v, .int .i64 a] w fun e w' => e = .returned (.int .i64 (a + ((l.map laws_markState.SLast_wt).sum : Nat))) ∧ Mk w w' P := by
 obtain ⟨A, c, rfl⟩ := Kd.R_slice hr
 have HR := Aside0.mk hr
 have H0 := Aside0.mk h0
 have H1 := Aside0.mk h1
 clear hr h0 h1
 have hu := Try.underlying75
 have huz := Try.underlying73
 go_enter Try.func139, Try.ntmps139
 go_wp2
 go_loopg [1, 5] l.length (fun gg v1 v5 wr => ∃ x N1 : Int, v1 = .int .i64 N1 ∧ v5 = .int .i64 x ∧ 0 ≤ x ∧ x ≤ (l.length : Int) ∧ l.length - x.toNat ≤ gg ∧ Aside0 (N1 = a + (((l.take x.toNat).map laws_markState.SLast_wt).sum : Nat)) ∧ Aside0 (Mk w wr P))
 case atStart => exact ⟨0, a, rfl, rfl, by omega, by omega, by omega, ⟨by simp⟩, ⟨Mk.refl w P⟩⟩
 case round =>
  obtain ⟨x, N1, rfl, rfl, hx0, hx1, hg, HA, M⟩ := hrel
  by_cases hlt : x < (l.length : Int)
  ·have hn : x.toNat < l.length := by omega
   obtain ⟨l', hl', hs', hr'⟩ := Mk.R (s := laws_markState.SLast_Eqv) M.out (fun _ h => h) HR.out (fun y hy ok' hok' d d' hm' hsm' => laws_markState.SLast_shape y w wr P ok' base d d' M.out hok' hm' hsm')
   have hn' : x.toNat < l'.length := by omega
   have hE := hs' x.toNat _ _ (List.getElem?_eq_getElem hn) (List.getElem?_eq_getElem hn')
   have c1 : decide (x < (l.length : Int)) = true := decide_eq_true hlt
   obtain ⟨g, cap, e, hb, hgl, cells, hcell⟩ := Kd.R_form hr' (by omega)
   injection e with ea en ec
   subst ea
   obtain ⟨ce, hcl, hM, hcc, hfr⟩ := Kd.R_elem hr' z75 x hx0 (by omega)
   rw [List.getD_eq_getElem?_getD, List.getElem?_eq_getElem hn', Option.getD_some] at hM
   generalize l'[x.toNat] = y at hE hM
   obtain rfl := k75_openM hM
   have hx_0 : wr.cell? ⟨g, x.toNat * 4, none⟩ = some (.int .i64 y.f0) := hcc 0 _ rfl
   have hx_1 : wr.cell? ⟨g, x.toNat * 4 + 1, none⟩ = some (.int .i64 y.f1) := hcc 1 _ rfl
   have hx_2 : wr.cell? ⟨g, x.toNat * 4 + 2, none⟩ = some (.int .i64 y.f2.f0) := hcc 2 _ rfl
   have hx_3 : wr.cell? ⟨g, x.toNat * 4 + 3, none⟩ = some (.int .i64 y.f2.f1) := hcc 3 _ rfl
   have hf_0 : wr.frozen? ⟨g, x.toNat * 4, none⟩ = false := hfr 0
   have hf_1 : wr.frozen? ⟨g, x.toNat * 4 + 1, none⟩ = false := hfr 1
   have hf_2 : wr.frozen? ⟨g, x.toNat * 4 + 2, none⟩ = false := hfr 2
   have hf_3 : wr.frozen? ⟨g, x.toNat * 4 + 3, none⟩ = false := hfr 3
   have HP := Aside0.mk (hr'.1 g rfl)
   have h4 := Aside0.mk (mk_sum_take laws_markState.SLast_wt l (x.toNat + 1))
   have h5 := Aside0.mk (mk_sum_step laws_markState.SLast_wt l x.toNat hn)
   have h6 : laws_markState.SLast_wt l[x.toNat] = 4 := by
    unfold laws_markState.SLast_wt
    rfl
   have hsum : N1 + (4 : Nat) = a + (((l.take (x.toNat + 1)).map laws_markState.SLast_wt).sum : Nat) := by rw [HA.out, h5.out, h6]; omega
   have hle : N1 + (4 : Nat) ≤ 1000000000 := by rw [hsum]; have := h4.out; have := H1.out; omega
   have hA0 : 0 ≤ N1 := by rw [HA.out]; have := H0.out; omega
   have hw0 : wrap64 (N1 + 1) = N1 + 1 := w64m (by clear hsum; omega) (by clear hsum; omega)
   have hw1 : wrap64 (N1 + 1 + 1) = N1 + 1 + 1 := w64m (by clear hsum hw0; omega) (by clear hsum hw0; omega)
   have hw2 : wrap64 (N1 + 1 + 1 + 1) = N1 + 1 + 1 + 1 := w64m (by clear hsum hw0 hw1; omega) (by clear hsum hw0 hw1; omega)
   have hw3 : wrap64 (N1 + 1 + 1 + 1 + 1) = N1 + 1 + 1 + 1 + 1 := w64m (by clear hsum hw0 hw1 hw2; omega) (by clear hsum hw0 hw1 hw2; omega)
   have hwx : wrap64 (x + 1) = x + 1 := w64m (by clear hsum hle hw0 hw1 hw2 hw3; omega) (by have := (Kd.R_reads' HR.out).2.2.2.1; clear hsum hle hw0 hw1 hw2 hw3; omega)
   have HL := Aside0.mk hlt
   have HG := Aside0.mk hg
   have HLE := Aside0.mk hle
   have HA0 := Aside0.mk hA0
   have HSUM := Aside0.mk hsum
   have SETS := Aside0.mk (show ∀ w8, Mk wr w8 P → ∀ (b0 : Int) (b1 : Int) (b2 : Int) (b3 : Int), Mk wr ((((w8.setCell ⟨g, x.toNat * 4, none⟩ (.int .i64 b0)).setCell ⟨g, x.toNat * 4 + 1, none⟩ (.int .i64 b1)).setCell ⟨g, x.toNat * 4 + 2, none⟩ (.int .i64 b2)).setCell ⟨g, x.toNat * 4 + 3, none⟩ (.int .i64 b3)) P from by
    intro w8 m8 b0 b1 b2 b3
    obtain ⟨u0, hy_0, s0⟩ := m8.cell hx_0
    obtain ⟨d0, rfl⟩ := s0.int
    have n0 := Mk.set m8 HP.out hy_0 (u' := .int .i64 b0) (.inr (.inl ⟨_, _, _, rfl, rfl⟩))
    obtain ⟨u1, hy_1, s1⟩ := n0.cell hx_1
    obtain ⟨d1, rfl⟩ := s1.int
    have n1 := Mk.set n0 HP.out hy_1 (u' := .int .i64 b1) (.inr (.inl ⟨_, _, _, rfl, rfl⟩))
    obtain ⟨u2, hy_2, s2⟩ := n1.cell hx_2
    obtain ⟨d2, rfl⟩ := s2.int
    have n2 := Mk.set n1 HP.out hy_2 (u' := .int .i64 b2) (.inr (.inl ⟨_, _, _, rfl, rfl⟩))
    obtain ⟨u3, hy_3, s3⟩ := n2.cell hx_3
    obtain ⟨d3, rfl⟩ := s3.int
    have n3 := Mk.set n2 HP.out hy_3 (u' := .int .i64 b3) (.inr (.inl ⟨_, _, _, rfl, rfl⟩))
    exact n3)
   clear hr' hcell hgl hb en ec hl' hn' hx1 hE hlt hg hle hA0 hsum h6 hs' hM hcc hfr hcl h4 h5 hn
   have p5 : (0 ≤ x) = True := eq_true hx0
   have q5 : (x < (l.length : Int)) = True := eq_true HL.out
   go_wp2
   go_roundg (l.length - (x.toNat + 1))
   case measure => have := HG.out; have := HL.out; omega
   case rel => exact ⟨x + 1, _, rfl, by first | rw [hwx] | simp [hwx], by omega, by have := HL.out; omega, by have := HL.out; omega, ⟨by have := HSUM.out; rw [show (x + 1).toNat = x.toNat + 1 by omega]; omega⟩, ⟨M.out.trans (SETS.out _ (Mk.refl wr P) _ _ _ _)⟩⟩
  have c1 : decide (x < (l.length : Int)) = false := decide_eq_false hlt
  have hA : N1 = a + ((l.map laws_markState.SLast_wt).sum : Nat) := by rw [HA.out, List.take_of_length_le (by omega)]
  clear hlt hg
  subst hA
  go_wp2
  go_ret
  exact ⟨rfl, M.out⟩
theorem laws_markState.SLast_call (P : Nat → Prop) (base : Nat) (v : Value) (l : List S75) (a : Int) (w1 w : World) (m : Mk w1 w P) (hr : Kd.R k75 75 w1 base P v l) (h0 : 0 ≤ a) (h1 : a + ((l.map laws_markState.SLast_wt).sum : Nat) ≤ 1000000000) :
  Calls Try.prog 139 #[v, .int .i64 a] w fun e w' => e = .returned (.int .i64 (a + ((l.map laws_markState.SLast_wt).sum : Nat))) ∧ Mk w1 w' P := by
 obtain ⟨l', hl, hs, hr'⟩ := Mk.R (s := laws_markState.SLast_Eqv) m (fun _ h => h) hr (fun z hz ok' hok' d d' hm' hsm' => laws_markState.SLast_shape z w1 w P ok' base d d' m hok' hm' hsm')
 have e1 : l.map laws_markState.SLast_wt = l'.map laws_markState.SLast_wt := mk_map_eq laws_markState.SLast_wt hl (fun j z z' h h' => by have := hs j z z' h h'; unfold laws_markState.SLast_Eqv at this; unfold laws_markState.SLast_wt; omega)
 rw [e1] at h1 ⊢
 refine (laws_markState.SLast_deep P base v l' a w hr' h0 h1).mono ?_
 rintro e w' ⟨rfl, m'⟩
 exact ⟨rfl, m.trans m'⟩
def laws_markState.f (a0 : Int) (l1 : List S92) (l2 : List S94) (a3 : Int) (l4 : List S109) (l5 : List S75) (a6 : Int) : Option Int := if 0 ≤ a6 ∧ a6 + ((l1.map laws_markState.SRow_wt).sum : Nat) + ((l2.map laws_markState.STomb_wt).sum : Nat) + ((l4.map laws_markState.SSes_wt).sum : Nat) + ((l5.map laws_markState.SLast_wt).sum : Nat) ≤ 1000000000 then some (a6 + ((l1.map laws_markState.SRow_wt).sum : Nat) + ((l2.map laws_markState.STomb_wt).sum : Nat) + ((l4.map laws_markState.SSes_wt).sum : Nat) + ((l5.map laws_markState.SLast_wt).sum : Nat)) else none
set_option maxHeartbeats 16000000 in
set_option maxRecDepth 100000 in
theorem laws_markState.calls (a0 : Int) (P1_ : Nat → Prop) (u1 : Value) (l1 : List S92) (P2_ : Nat → Prop) (u2 : Value) (l2 : List S94) (a3 : Int) (P4_ : Nat → Prop) (u4 : Value) (l4 : List S109) (P5_ : Nat → Prop) (u5 : Value) (l5 : List S75) (a6 : Int) (r : Int) (w0 w : World) (hB : Below w0.heap.size w0 w) (ho1 : Kd.R k92 92 w w0.heap.size P1_ u1 l1) (ho2 : Kd.R k94 94 w w0.heap.size P2_ u2 l2) (ho4 : Kd.R k109 109 w w0.heap.size P4_ u4 l4) (ho5 : Kd.R k75 75 w w0.heap.size P5_ u5 l5) (h : laws_markState.f a0 l1 l2 a3 l4 l5 a6 = some r) :
  Calls Try.prog 57 #[.agg #[.int .i64 a0, u1, u2, .int .i64 a3, u4, u5], .int .i64 a6] w fun e w' => e = .returned (.int .i64 r) ∧ Below w0.heap.size w0 w' ∧ Kept w w' (fun k_ => P1_ k_ ∨ P2_ k_ ∨ P4_ k_ ∨ P5_ k_) := by
 have hu := Try.underlying35
 unfold laws_markState.f at h
 split at h
 case isFalse => cases h
 case isTrue hh =>
 obtain rfl := Option.some.inj h
 clear h
 obtain ⟨h0, h1⟩ := hh
 obtain ⟨A1, c1, rfl⟩ := Kd.R_slice ho1
 obtain ⟨A2, c2, rfl⟩ := Kd.R_slice ho2
 obtain ⟨A4, c4, rfl⟩ := Kd.R_slice ho4
 obtain ⟨A5, c5, rfl⟩ := Kd.R_slice ho5
 have HO1 := Aside0.mk (Kd.R_mono (ok' := (fun b => (P1_ b ∨ P2_ b ∨ P4_ b ∨ P5_ b) ∧ w0.heap.size ≤ b ∧ b < w.heap.size)) (Kd.R_bound ho1) (fun _ h => ⟨(.inl h.1), h.2.1, h.2.2.1⟩))
 have HO2 := Aside0.mk (Kd.R_mono (ok' := (fun b => (P1_ b ∨ P2_ b ∨ P4_ b ∨ P5_ b) ∧ w0.heap.size ≤ b ∧ b < w.heap.size)) (Kd.R_bound ho2) (fun _ h => ⟨(.inr (.inl h.1)), h.2.1, h.2.2.1⟩))
 have HO4 := Aside0.mk (Kd.R_mono (ok' := (fun b => (P1_ b ∨ P2_ b ∨ P4_ b ∨ P5_ b) ∧ w0.heap.size ≤ b ∧ b < w.heap.size)) (Kd.R_bound ho4) (fun _ h => ⟨(.inr (.inr (.inl h.1))), h.2.1, h.2.2.1⟩))
 have HO5 := Aside0.mk (Kd.R_mono (ok' := (fun b => (P1_ b ∨ P2_ b ∨ P4_ b ∨ P5_ b) ∧ w0.heap.size ≤ b ∧ b < w.heap.size)) (Kd.R_bound ho5) (fun _ h => ⟨(.inr (.inr (.inr h.1))), h.2.1, h.2.2.1⟩))
 have HBB := Aside0.mk hB
 have H0 := Aside0.mk h0
 have H1 := Aside0.mk h1
 clear ho1 ho2 ho4 ho5 hB h0 h1
 go_enter Try.func57, Try.ntmps57
 go_wp2_with (first | ((with_reducible refine gate_dst (N := 2) rfl ?_); refine bx_ 2 #[.int .i64 a0, .slice A1 l1.length c1, .slice A2 l2.length c2, .int .i64 a3, .slice A4 l4.length c4, .slice A5 l5.length c5] 35 (h := ?_); intro gb1 hg w1 hbox hb; have BK1 := Aside0.mk (hbox); have HG1 := Aside0.mk hg; have HB1 := Aside0.mk hb; have M1 := Aside0.mk (Mk.refl w1 (fun b => (P1_ b ∨ P2_ b ∨ P4_ b ∨ P5_ b) ∧ w0.heap.size ≤ b ∧ b < w.heap.size)); clear hb hbox hg; have C1_1 : w1.cell? ⟨gb1, 1, none⟩ = some (.slice A1 l1.length c1) := (blk_cell BK1.out 1).trans rfl) | (go_at_call 136; refine (laws_markState.SRow_call _ _ _ l1 (a6) w1 _ M1.out (Kd.R_below HO1.out HB1.out) (by have := H0.out; omega) (by have := H1.out; omega)).mono ?_; rintro e w2 ⟨rfl, m_⟩; have M2 := Aside0.mk m_; have BK2 := Aside0.mk (blk_kept BK1.out m_.kept (fun h => by have := h.2.2; have := HG1.out; omega)); have C2_2 : w2.cell? ⟨gb1, 2, none⟩ = some (.slice A2 l2.length c2) := (blk_cell BK2.out 2).trans rfl; clear m_) | (go_at_call 137; refine (laws_markState.STomb_call _ _ _ l2 (a6 + ((l1.map laws_markState.SRow_wt).sum : Nat)) w1 _ M2.out (Kd.R_below HO2.out HB1.out) (by have := H0.out; omega) (by have := H1.out; omega)).mono ?_; rintro e w3 ⟨rfl, m_⟩; have M3 := Aside0.mk m_; have BK3 := Aside0.mk (blk_kept BK1.out m_.kept (fun h => by have := h.2.2; have := HG1.out; omega)); have C3_4 : w3.cell? ⟨gb1, 4, none⟩ = some (.slice A4 l4.length c4) := (blk_cell BK3.out 4).trans rfl; clear m_) | (go_at_call 138; refine (laws_markState.SSes_call _ _ _ l4 (a6 + ((l1.map laws_markState.SRow_wt).sum : Nat) + ((l2.map laws_markState.STomb_wt).sum : Nat)) w1 _ M3.out (Kd.R_below HO4.out HB1.out) (by have := H0.out; omega) (by have := H1.out; omega)).mono ?_; rintro e w4 ⟨rfl, m_⟩; have M4 := Aside0.mk m_; have BK4 := Aside0.mk (blk_kept BK1.out m_.kept (fun h => by have := h.2.2; have := HG1.out; omega)); have C4_5 : w4.cell? ⟨gb1, 5, none⟩ = some (.slice A5 l5.length c5) := (blk_cell BK4.out 5).trans rfl; clear m_) | (go_at_call 139; refine (laws_markState.SLast_call _ _ _ l5 (a6 + ((l1.map laws_markState.SRow_wt).sum : Nat) + ((l2.map laws_markState.STomb_wt).sum : Nat) + ((l4.map laws_markState.SSes_wt).sum : Nat)) w1 _ M4.out (Kd.R_below HO5.out HB1.out) (by have := H0.out; omega) (by have := H1.out; omega)).mono ?_; rintro e w5 ⟨rfl, m_⟩; have M5 := Aside0.mk m_; clear m_))
 go_ret
 have mm := Mk.newer HB1.out M5.out (fun _ h => h.2.2)
 exact ⟨rfl, mm.below HBB.out (fun _ h => h.2.1), mm.kept.mono (fun _ h => h.1)⟩

end Go.Proofs.Ytdgegnakiljfjaa.PK
