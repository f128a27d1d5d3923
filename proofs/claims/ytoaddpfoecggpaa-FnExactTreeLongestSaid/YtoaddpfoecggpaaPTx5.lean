-- Written for this claim by the session's program pp.py, out of the kit's print and the seat's translation.
import Derived.Test.YtoaddpfoecggpaaPTx0
import Derived.Test.YtoaddpfoecggpaaPTx4
namespace Go.Proofs.Ytoaddpfoecggpaa.PT
open Go.RowKit Go.Proofs.YtoaddpfoecggpaaW.PrintWords Go.Proofs.YtoaddpfoecggpaaW.PrintLast Go.Proofs.YtoaddpfoecggpaaW.PrintMore
attribute [local go_sem] max2_int min2_int max_two min_two max_three min_three max_four min_four   -- for this text's walks alone
set_option linter.unusedVariables false
set_option linter.unusedSimpArgs false

/-! ### bytes_Compare: function 71 -/
def bytes_Compare.u8of (l : List Int) : List UInt8 := l.map fun x => x.toNat.toUInt8
def bytes_Compare.cmp : List Int → List Int → Int
 | [], [] => 0
 | [], _ :: _ => -1
 | _ :: _, [] => 1
 | x :: xs, y :: ys => if x < y then -1 else if y < x then 1 else bytes_Compare.cmp xs ys
def bytes_Compare.f (l0 : List Int) (l1 : List Int) : Option Int := if (∀ x ∈ l0, 0 ≤ x ∧ x ≤ 255) ∧ (∀ x ∈ l1, 0 ≤ x ∧ x ≤ 255) then some (bytes_Compare.cmp l0 l1) else none
theorem bytes_Compare.run_loadBytes {P : Program} (w : World) (n : Nat) : ∀ (a : Addr) (l : List Int) (acc : ByteArray), l.length = n → (∀ i, i < n → w.cell? (a.add i) = some (.int .u8 (l.getD i 0))) →
  (Extern.Bytes.loadBytes a n acc).run P w = .ok (⟨acc.data ++ (bytes_Compare.u8of l).toArray⟩) w := by
 induction n with
 | zero =>
  intro a l acc hl _
  obtain rfl := List.eq_nil_of_length_eq_zero hl
  simp [Extern.Bytes.loadBytes, bytes_Compare.u8of]
 | succ n ih =>
  intro a l acc hl hc
  cases l with
  | nil => simp at hl
  | cons x xs =>
   have h0 := hc 0 (by omega)
   rw [Addr.add_zero'] at h0
   have h := ih (a.add 1) xs (acc.push x.toNat.toUInt8) (by simpa using hl) (fun i hi => by
    have h2 := hc (i + 1) (by omega)
    have e : (a.add 1).add i = a.add (i + 1) := by
     have e2 : (a.add 1).add i = a.add (1 + i) := by first | exact Go.RowKit.add_add _ _ _ | exact Addr.add_add _ _ _ | (unfold Addr.add; split <;> simp_all <;> omega)
     rw [e2, Nat.add_comm]
    rw [e]
    simpa using h2)
   simp only [Extern.Bytes.loadBytes, Sem.run_bind, run_load]
   simp [h0] at *
   rw [h]
   simp [bytes_Compare.u8of]
theorem bytes_Compare.run_bytesOf {P : Program} {w : World} {A : Option Addr} {c : Nat} {l : List Int} (h : Kd.C (Kd.int .u8) w A l.length l) : (Extern.Bytes.bytesOf (.slice A l.length c)).run P w = .ok ⟨(bytes_Compare.u8of l).toArray⟩ w := by
 cases A with
 | none =>
  have hz : l.length = 0 := by
   rcases Nat.eq_zero_or_pos l.length with h2 | h2
   ·exact h2
   ·obtain ⟨ad, e, _⟩ := h.2.2 h2
    cases e
  obtain rfl := List.eq_nil_of_length_eq_zero hz
  simp [Extern.Bytes.bytesOf, bytes_Compare.u8of, ByteArray.empty, ByteArray.emptyWithCapacity]
  rfl
 | some ad =>
  have hl := bytes_Compare.run_loadBytes (P := P) w l.length ad l .empty rfl (fun i hi => by
   obtain ⟨ad', e, hx⟩ := Kd.at_int h (i : Int) (by omega) (by omega)
   cases e
   rw [Int.toNat_natCast] at hx
   rw [hx]
   unfold rd
   rw [Int.toNat_natCast])
  simp only [Extern.Bytes.bytesOf]
  rw [hl]
  simp [ByteArray.empty, ByteArray.emptyWithCapacity]
  rfl
theorem bytes_Compare.cmp_eq : ∀ l0 l1 : List Int, (∀ x ∈ l0, 0 ≤ x ∧ x ≤ 255) → (∀ x ∈ l1, 0 ≤ x ∧ x ≤ 255) → Lib.compareBytes (bytes_Compare.u8of l0) (bytes_Compare.u8of l1) = bytes_Compare.cmp l0 l1
 | [], [], _, _ => rfl
 | [], _ :: _, _, _ => rfl
 | _ :: _, [], _, _ => rfl
 | x :: xs, y :: ys, h0, h1 => by
  have ih := bytes_Compare.cmp_eq xs ys (fun z hz => h0 z (List.mem_cons_of_mem _ hz)) (fun z hz => h1 z (List.mem_cons_of_mem _ hz))
  have a := h0 x (List.mem_cons_self ..)
  have b := h1 y (List.mem_cons_self ..)
  have ea : x.toNat.toUInt8.toNat = x.toNat := by
   rw [Nat.toUInt8, UInt8.toNat_ofNat']
   omega
  have eb : y.toNat.toUInt8.toNat = y.toNat := by
   rw [Nat.toUInt8, UInt8.toNat_ofNat']
   omega
  show (if x.toNat.toUInt8 < y.toNat.toUInt8 then (-1 : Int) else if y.toNat.toUInt8 < x.toNat.toUInt8 then 1 else Lib.compareBytes (bytes_Compare.u8of xs) (bytes_Compare.u8of ys)) = if x < y then -1 else if y < x then 1 else bytes_Compare.cmp xs ys
  have e1 : x.toNat.toUInt8 < y.toNat.toUInt8 ↔ x < y := by
   rw [UInt8.lt_iff_toNat_lt, ea, eb]
   omega
  have e2 : y.toNat.toUInt8 < x.toNat.toUInt8 ↔ y < x := by
   rw [UInt8.lt_iff_toNat_lt, ea, eb]
   omega
  simp only [e1, e2, ih]
set_option maxHeartbeats 8000000 in
set_option maxRecDepth 100000 in
theorem bytes_Compare.calls (A0 : Option Addr) (c0 : Nat) (l0 : List Int) (A1 : Option Addr) (c1 : Nat) (l1 : List Int) (r : Int) (w : World) (hr0 : Kd.C (Kd.int .u8) w A0 l0.length l0) (hc0 : l0.length ≤ c0) (hr1 : Kd.C (Kd.int .u8) w A1 l1.length l1) (hc1 : l1.length ≤ c1) (h : bytes_Compare.f l0 l1 = some r) :
  Calls Try.prog 71 #[.slice A0 l0.length c0, .slice A1 l1.length c1] w fun e w' => e = .returned (.int .i64 r) ∧ Drawn0 w w' := by
 clear hc0 hc1
 unfold bytes_Compare.f at h
 by_cases hb : (∀ x ∈ l0, 0 ≤ x ∧ x ≤ 255) ∧ (∀ x ∈ l1, 0 ≤ x ∧ x ≤ 255)
 case neg =>
  rw [if_neg hb] at h
  exact absurd h (by simp)
 rw [if_pos hb] at h
 obtain rfl := Option.some.inj h
 clear h
 have hx : (callFunc 118 #[.slice A0 l0.length c0, .slice A1 l1.length c1]).run Try.prog w = .ok (.value (.int .i64 (bytes_Compare.cmp l0 l1))) w := by
  rw [run_callFunc_extern (e := Extern.BytealgCompare.compare) Try.func118 (by kernel_rfl) (by rfl) (by kernel_rfl) (by rfl)]
  have hr : (Extern.BytealgCompare.compare #[.slice A0 l0.length c0, .slice A1 l1.length c1]).run Try.prog w = .ok (.int .i64 (bytes_Compare.cmp l0 l1)) w := by
   change Sem.run _ (do pure (goInt (Extern.BytealgCompare.cmp (← Extern.Bytes.bytesOf (.slice A0 l0.length c0)) (← Extern.Bytes.bytesOf (.slice A1 l1.length c1))))) w = _
   simp only [Sem.run_bind, bytes_Compare.run_bytesOf hr0, bytes_Compare.run_bytesOf hr1, Result.andThen, Sem.run_pure, Lib.cmp_eq, bytes_Compare.cmp_eq l0 l1 hb.1 hb.2]
   rfl
  rw [hr]
  rfl
 clear hr0 hr1 hb
 generalize bytes_Compare.cmp l0 l1 = q at hx ⊢
 go_enter Try.func71, Try.ntmps71
 go_wp2
 go_ret
 exact ⟨rfl, Drawn0.refl _⟩

/-! ### impl_TreeNext: function 29 -/
def impl_TreeNext.l0 : Nat → List Int → List (List Int) → Int → Int → Option (List Int × Bool)
 | 0, _, _, _, _ => none
 | k + 1, x1, x9, x10, x11 => if x11 < x10 then (if 0 ≤ x11 then (if x11 < (x9.length : Int) then ((bytes_Compare.f (rd_L1 x9 x11) x1).bind fun t193 => (if t193 > 0 then (some (rd_L1 x9 x11, true)) else (impl_TreeNext.l0 k x1 x9 x10 (wrap64 (x11 + 1))))) else (none)) else (none)) else (some (([] : List Int), false))
def impl_TreeNext.f (k : Nat) (l0_0 : List Int) (a0_1 : Bool) (a0_2 : Int) (l0_3 : List (S30)) (l1 : List Int) : Option (List Int × Bool) := (impl_TreeKeys.f k l0_0 a0_1 a0_2 l0_3 ([] : List Int)).bind fun t189 => (impl_TreeNext.l0 k l1 t189 (t189.length : Int) 0)
set_option maxHeartbeats 8000000 in
set_option maxRecDepth 100000 in
theorem impl_TreeNext.calls (k : Nat) (A0_0 : Option Addr) (c0_0 : Nat) (l0_0 : List Int) (a0_1 : Bool) (a0_2 : Int) (A0_3 : Option Addr) (c0_3 : Nat) (l0_3 : List (S30)) (A1 : Option Addr) (c1 : Nat) (l1 : List Int) (r1 : List Int) (r2 : Bool) (w : World) (hr0_0 : Kd.C (Kd.int .u8) w A0_0 l0_0.length l0_0) (hc0_0 : l0_0.length ≤ c0_0) (hr0_3 : Kd.C k30 w A0_3 l0_3.length l0_3) (hc0_3 : l0_3.length ≤ c0_3) (hr1 : Kd.C (Kd.int .u8) w A1 l1.length l1) (hc1 : l1.length ≤ c1) (h : impl_TreeNext.f k l0_0 a0_1 a0_2 l0_3 l1 = some (r1, r2)) :
  Calls Try.prog 29 #[.agg #[.slice A0_0 l0_0.length c0_0, .bool a0_1, .int .i64 a0_2, .slice A0_3 l0_3.length c0_3], .slice A1 l1.length c1] w fun e w' => ∃ v0_ : Value, e = .returned (.tuple #[v0_, .bool r2]) ∧ Kd.R (Kd.int .u8) 5 w' w.heap.size (fun k_ => (w.heap.size ≤ k_)) v0_ r1 ∧ Below w.heap.size w w' := by
 have hu30 := Try.underlying30
 have HR0_0 := Aside0.mk hr0_0
 have HC0_0 := Aside0.mk hc0_0
 clear hr0_0 hc0_0
 have HR0_3 := Aside0.mk hr0_3
 have HC0_3 := Aside0.mk hc0_3
 clear hr0_3 hc0_3
 have HR1 := Aside0.mk hr1
 have HC1 := Aside0.mk hc1
 clear hr1 hc1
 have HB := Aside0.mk (Below.refl w.heap.size w)
 have H : ((impl_TreeKeys.f k l0_0 a0_1 a0_2 l0_3 ([] : List Int)).bind fun t189 => (impl_TreeNext.l0 k l1 t189 (t189.length : Int) 0)) = some (r1, r2) := h
 clear h
 replace H := Option.bind_eq_some_iff.mp H
 obtain ⟨t189, A30, H⟩ := H
 replace H : (impl_TreeNext.l0 k l1 t189 (t189.length : Int) 0) = some (r1, r2) := H
 have A3 := Aside0.mk A30
 clear A30
 have H' := Aside0.mk H
 clear H
 go_enter Try.func29, Try.ntmps29
 go_wp2_with (first | ((with_reducible refine gate_dst (N := 2) rfl ?_); refine bx_ 2 #[.slice A0_0 l0_0.length c0_0, .bool a0_1, .int .i64 a0_2, .slice A0_3 l0_3.length c0_3] 30 (h := ?_); intro gb188 hg w4 hbox hb; have BK188 := Aside0.mk (hbox); have GW188 := Aside0.mk ((by rw [hg]; exact (below_size bel) : w.heap.size ≤ gb188)); have GE188 := Aside0.mk ((by rw [hg]; exact (below_size bel) : w.heap.size ≤ gb188)); replace HB := Aside0.mk (below_step bel hb); clear hb hbox hg; obtain ⟨hcz5_0, hcz5_1, hcz5_2, hcz5_3, -⟩ := cells_4 BK188.out trivial; obtain ⟨hfz5_0, hfz5_1, hfz5_2, hfz5_3, -⟩ := frz_4 BK188.out) | ((with_reducible refine gate_callee (f := 27) rfl ?_); refine gl_ (some 9) Try.func27 #[.agg #[.slice A0_0 l0_0.length c0_0, .bool a0_1, .int .i64 a0_2, .slice A0_3 l0_3.length c0_3], .slice none 0 0] (h := ?_); (refine (impl_TreeKeys.calls k _ _ l0_0 a0_1 a0_2 _ _ l0_3 _ _ ([] : List Int) t189 _ ?side1 ?side2 ?side3 ?side4 ?side5 ?side6 A3.out).mono ?_); (case side1 => exact kcb); (case side2 => exact HC0_0.out); (case side3 => exact kcb); (case side4 => exact HC0_3.out); (case side5 => exact Kd.C_nil _ _); (case side6 => exact Nat.le_refl _); rintro e w6 ⟨v190, rfl, ho0, hb⟩; refine ⟨_, rfl, ?_⟩; have HO191 := Aside0.mk (Kd.R_lower (Kd.R_mono (ok' := fun k_ => (w.heap.size ≤ k_) ∧ k_ ≠ gb188) ho0 (fun k_ hk_ => ⟨(Nat.le_trans (below_size bel) hk_), (Kd.freshB (g := gb188) (o := .cells #[.slice A0_0 l0_0.length c0_0, .bool a0_1, .int .i64 a0_2, .slice A0_3 l0_3.length c0_3] 30 (0, 0)) (by (with_reducible repeat (first | refine blk_drewN ?_ _ | refine blk_drew ?_ | refine blk_alloc ?_ _)); exact BK188.out) k_ hk_)⟩)) (below_size bel)); replace BK188 := Aside0.mk (blb BK188 hb); replace HB := Aside0.mk (below_step bel hb); (try clear hb); (try clear hb2); (try clear hk); (try clear hi); (try clear ho0); obtain ⟨Ao7, co7, eo7⟩ := Kd.R_slice HO191.out; subst eo7))
 go_loopg [11] k (fun kq v11 w' => ∃ (x11_1 : Int), v11 = .int .i64 x11_1 ∧ Aside0 (impl_TreeNext.l0 kq l1 t189 (t189.length : Int) x11_1 = some (r1, r2)) ∧ Aside0 (kq ≤ k) ∧ Aside0 (Kd.R (Kd.slice 5 (Kd.int .u8)) 22 w' w.heap.size (fun k_ => (w.heap.size ≤ k_) ∧ k_ ≠ gb188) (.slice Ao7 t189.length co7) t189) ∧ Aside0 (w'.heap[gb188]? = some (.cells #[(.slice A0_0 l0_0.length c0_0), .bool a0_1, .int .i64 a0_2, (.slice A0_3 l0_3.length c0_3)] 30 (0, 0))) ∧ Aside0 (Below w.heap.size w w'))
 case atStart => exact ⟨(0), (by first | rfl | (simp; done) | (simp [*]; done)), H', ⟨Nat.le_refl _⟩, ⟨by (with_reducible repeat (first | apply Kd.R_alloc | apply Kd.R_drewN | apply Kd.R_drew)); exact HO191.out⟩, ⟨by (with_reducible repeat (first | refine blk_drewN ?_ _ | refine blk_drew ?_ | refine blk_alloc ?_ _)); exact BK188.out⟩, ⟨by repeat (first | (with_reducible first | exact HB.out | apply below_alloc | apply pw_below_drewN | apply below_drew1 | refine below_set ?_ GE188.out) | exact HB.out)⟩⟩
 case round =>
  clear H'
  try clear c1; try clear c2; try clear p2; try clear hcz5_0; try clear hcz5_1; try clear hcz5_2; try clear hcz5_3; try clear hfz5_0; try clear hfz5_1; try clear hfz5_2; try clear hfz5_3
  obtain ⟨x11_1, rfl, HA, HK1, HO_9, BK188, HB⟩ := hrel
  cases gk with
  | zero => exact absurd HA.out (by simp [impl_TreeNext.l0])
  | succ k1 =>
   have H := HA.out
   clear HA
   simp only [impl_TreeNext.l0] at H
   by_cases c8 : x11_1 < (t189.length : Int)
   ·rw [if_pos c8] at H
    have c8b0 : decide (x11_1 < (t189.length : Int)) = true := decide_eq_true c8
    clear c8
    by_cases c9 : 0 ≤ x11_1
    ·rw [if_pos c9] at H
     have c9b0 : decide (0 ≤ x11_1) = true := decide_eq_true c9
     clear c9
     by_cases c10 : x11_1 < (t189.length : Int)
     ·rw [if_pos c10] at H
      have c10b0 : decide (x11_1 < (t189.length : Int)) = true := decide_eq_true c10
      clear c10
      replace H := Option.bind_eq_some_iff.mp H
      obtain ⟨t193, A110, H⟩ := H
      replace H : (if t193 > 0 then (some (rd_L1 t189 x11_1, true)) else (impl_TreeNext.l0 k1 l1 t189 (t189.length : Int) (wrap64 (x11_1 + 1)))) = some (r1, r2) := H
      have A11 := Aside0.mk A110
      clear A110
      by_cases c12 : t193 > 0
      ·rw [if_pos c12] at H
       have c12b0 : decide (0 < t193) = true := decide_eq_true c12
       clear c12
       simp only [Option.some.injEq, Prod.mk.injEq] at H
       obtain ⟨rfl, rfl⟩ := H
       have p192 : 0 ≤ (x11_1 : Int) := od
       have q192 : x11_1 < (t189.length : Int) := od
       obtain ⟨ad192, A192_0, c192_0, e192, hx192_0, hl192_0, hi192_0⟩ := at_L1 (Kd.R_reads' HO_9.out).2.2 x11_1 p192 q192
       cases e192
       obtain ⟨ce192, hce192, hMe192, hcc192⟩ := Kd.R_get HO_9.out [] x11_1 p192 (by first | exact q192 | exact od | (have e_ := (Kd.R_reads' HO_9.out).1; omega))
       obtain ⟨ua192_0, uc192_0, rfl, ul192_0, ge192_0⟩ := Kd.M_slice_open hMe192
       have hv192_0 := hcc192 0 _ rfl
       rw [Nat.add_zero, show ((Kd.slice 5 (Kd.int .u8))).sz = 1 from rfl, Nat.mul_one] at hv192_0
       replace hv192_0 := Option.some.inj (hv192_0.symm.trans hx192_0)
       injection hv192_0 with hva_ hvn_ hvc_
       rw [hva_] at ge192_0
       rw [hvc_] at ul192_0 ge192_0
       have HL192_0 := Aside0.mk (show Kd.R (Kd.int .u8) 5 _ w.heap.size _ _ (rd_L1 t189 x11_1) from Kd.R_mk ul192_0 ge192_0)
       clear hva_ hvn_ hvc_ ge192_0 ul192_0
       clear hcc192 hce192
       have HR192_0 := Aside0.mk hi192_0
       have HC192_0 := Aside0.mk hl192_0
       clear hi192_0 hl192_0
       replace p192 := eq_true p192
       replace q192 := eq_true q192
       go_wp2_with (first | ((with_reducible refine gate_callee (f := 71) rfl ?_); refine gl_ (some 17) Try.func71 #[.slice A192_0 (rd_L1 t189 x11_1).length c192_0, .slice A1 l1.length c1] (h := ?_); (with_reducible refine (bytes_Compare.calls _ _ (rd_L1 t189 x11_1) _ _ l1 t193 _ ?side1 ?side2 ?side3 ?side4 A11.out).mono ?_); (case side1 => repeat (first | exact (by repeat (first | (with_reducible exact HR192_0.out) | (with_reducible refine Kd.C_alloc ?_ _) | (with_reducible refine Kd.C_drewN ?_ _) | (with_reducible refine Kd.C_drew ?_) | exact HR192_0.out)) | (with_reducible refine Kd.C_alloc ?_ _) | (with_reducible refine Kd.C_drewN ?_ _) | (with_reducible refine Kd.C_drew ?_))); (case side2 => exact HC192_0.out); (case side3 => exact kcb); (case side4 => exact HC1.out); rintro e w' ⟨rfl, ⟨nd, rfl⟩⟩; refine ⟨_, rfl, ?_⟩))
       go_ret2
       exact ⟨_, by first | rfl | (simp [errW_none, errW_some] <;> rfl) | (simp [*, errW_none, errW_some] <;> rfl), by (with_reducible repeat (first | apply Kd.R_alloc | apply Kd.R_drewN | apply Kd.R_drew)); exact Kd.R_mono HL192_0.out (fun _ hk => hk.1.1), by repeat (first | (with_reducible first | exact HB.out | apply below_alloc | apply pw_below_drewN | apply below_drew1 | refine below_set ?_ GE188.out) | exact HB.out)⟩
      ·rw [if_neg c12] at H
       have c12b0 : decide (0 < t193) = false := decide_eq_false c12
       clear c12
       have H' := Aside0.mk H
       clear H
       have p192 : 0 ≤ (x11_1 : Int) := od
       have q192 : x11_1 < (t189.length : Int) := od
       obtain ⟨ad192, A192_0, c192_0, e192, hx192_0, hl192_0, hi192_0⟩ := at_L1 (Kd.R_reads' HO_9.out).2.2 x11_1 p192 q192
       cases e192
       obtain ⟨ce192, hce192, hMe192, hcc192⟩ := Kd.R_get HO_9.out [] x11_1 p192 (by first | exact q192 | exact od | (have e_ := (Kd.R_reads' HO_9.out).1; omega))
       obtain ⟨ua192_0, uc192_0, rfl, ul192_0, ge192_0⟩ := Kd.M_slice_open hMe192
       have hv192_0 := hcc192 0 _ rfl
       rw [Nat.add_zero, show ((Kd.slice 5 (Kd.int .u8))).sz = 1 from rfl, Nat.mul_one] at hv192_0
       replace hv192_0 := Option.some.inj (hv192_0.symm.trans hx192_0)
       injection hv192_0 with hva_ hvn_ hvc_
       rw [hva_] at ge192_0
       rw [hvc_] at ul192_0 ge192_0
       have HL192_0 := Aside0.mk (show Kd.R (Kd.int .u8) 5 _ w.heap.size _ _ (rd_L1 t189 x11_1) from Kd.R_mk ul192_0 ge192_0)
       clear hva_ hvn_ hvc_ ge192_0 ul192_0
       clear hcc192 hce192
       have HR192_0 := Aside0.mk hi192_0
       have HC192_0 := Aside0.mk hl192_0
       clear hi192_0 hl192_0
       replace p192 := eq_true p192
       replace q192 := eq_true q192
       go_wp2_with (first | ((with_reducible refine gate_callee (f := 71) rfl ?_); refine gl_ (some 17) Try.func71 #[.slice A192_0 (rd_L1 t189 x11_1).length c192_0, .slice A1 l1.length c1] (h := ?_); (with_reducible refine (bytes_Compare.calls _ _ (rd_L1 t189 x11_1) _ _ l1 t193 _ ?side1 ?side2 ?side3 ?side4 A11.out).mono ?_); (case side1 => repeat (first | exact (by repeat (first | (with_reducible exact HR192_0.out) | (with_reducible refine Kd.C_alloc ?_ _) | (with_reducible refine Kd.C_drewN ?_ _) | (with_reducible refine Kd.C_drew ?_) | exact HR192_0.out)) | (with_reducible refine Kd.C_alloc ?_ _) | (with_reducible refine Kd.C_drewN ?_ _) | (with_reducible refine Kd.C_drew ?_))); (case side2 => exact HC192_0.out); (case side3 => exact kcb); (case side4 => exact HC1.out); rintro e w' ⟨rfl, ⟨nd, rfl⟩⟩; refine ⟨_, rfl, ?_⟩))
       go_roundg k1
       case measure => have := HK1.out; omega
       case rel => exact ⟨(wrap64 (x11_1 + 1)), (by first | rfl | (simp; done) | (simp [*]; done)), H', ⟨by have := HK1.out; omega⟩, ⟨by (with_reducible repeat (first | apply Kd.R_alloc | apply Kd.R_drewN | apply Kd.R_drew)); exact HO_9.out⟩, ⟨by (with_reducible repeat (first | refine blk_drewN ?_ _ | refine blk_drew ?_ | refine blk_alloc ?_ _)); exact BK188.out⟩, ⟨by repeat (first | (with_reducible first | exact HB.out | apply below_alloc | apply pw_below_drewN | apply below_drew1 | refine below_set ?_ GE188.out) | exact HB.out)⟩⟩
     ·rw [if_neg c10] at H
      exact absurd H (by simp)
    ·rw [if_neg c9] at H
     exact absurd H (by simp)
   ·rw [if_neg c8] at H
    have c8b0 : decide (x11_1 < (t189.length : Int)) = false := decide_eq_false c8
    clear c8
    simp only [Option.some.injEq, Prod.mk.injEq] at H
    obtain ⟨rfl, rfl⟩ := H
    go_wp2
    go_ret2
    exact ⟨_, by first | rfl | (simp [errW_none, errW_some] <;> rfl) | (simp [*, errW_none, errW_some] <;> rfl), Kd.R_F (by first | exact Kd.R_nil _ _ _ _ _ | exact Kd.R_nil _ _ _ _ _ | exact Kd.R_nil _ _ _ _ _ | exact Kd.Q_nil _ _ _ _ _ | exact Kd.S_nil _ _ _ _ _), by repeat (first | (with_reducible first | exact HB.out | apply below_alloc | apply pw_below_drewN | apply below_drew1 | refine below_set ?_ GE188.out) | exact HB.out)⟩

end Go.Proofs.Ytoaddpfoecggpaa.PT
