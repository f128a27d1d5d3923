-- Written for this claim by the session's program pp.py, out of the kit's print and the seat's translation.
import Derived.Test.YtmfedjoofnlncaaPTx0
namespace Go.Proofs.Ytmfedjoofnlncaa.PT
open Go.RowKit Go.Proofs.YtmfedjoofnlncaaW.PrintWords Go.Proofs.YtmfedjoofnlncaaW.PrintLast Go.Proofs.YtmfedjoofnlncaaW.PrintMore
attribute [local go_sem] kR kS nk nu jM jN kT kU   -- for this text's walks alone
set_option linter.unusedVariables false
set_option linter.unusedSimpArgs false
def iZ.f (l0 : List Int) : Option (List Int) := if l0.length < 140737488355328 then some l0 else none
theorem aun {p : Prop} (h : p := by repeat (first | (with_reducible first | exact ai.out (by assumption) | apply jZ | apply lg | apply di) | exact ai.out (by assumption))) : p := h
set_option maxHeartbeats 8000000 in
set_option maxRecDepth 100000 in
theorem iZ.calls (A0 : Option Addr) (c0 : Nat) (l0 : List Int) (r : List Int) (w : World) (hr0 : Kd.C (Kd.int .u8) w A0 l0.length l0) (hc0 : l0.length ≤ c0) (h : iZ.f l0 = some r) :
  Calls Try.prog 89 #[.slice A0 l0.length c0] w fun e w' => ∃ yB : Value, e = .returned (yB) ∧ Kd.R (Kd.int .u8) 5 w' w.heap.size (fun _ => True) yB r ∧ Below w.heap.size w w' := by
 unfold iZ.f at h; by_cases hl : l0.length < 140737488355328
 ·rw [if_pos hl] at h
  obtain rfl := Option.some.inj h; clear h; have LM := ae hl; clear hl; have HB := ae (Below.refl w.heap.size w); cases A0 with
  | none =>
   have hz : l0.length = 0 := by
    rcases Nat.eq_zero_or_pos l0.length with h | h
    ·exact h
    ·obtain ⟨ad, e, _⟩ := hr0.2.2 h
     cases e
   obtain rfl := List.eq_nil_of_length_eq_zero hz; clear hr0 hc0 hz LM; have hq := Lib.run_eql_slice_nil (P := Try.prog) w 29 5 none 0 c0 0 0 Try.underlying29; go_enter Try.func89, Try.ntmps89; go_wp2; go_ret; exact ⟨_, rfl, Kd.vR _ _ _ _ _, Below.refl _ _⟩
  | some ad =>
   have mV := ae hr0; have Jn := ae hc0; clear hr0 hc0; obtain ⟨m, hm⟩ : ∃ m, m = l0.length := ⟨_, rfl⟩; have HM := ae hm; have hq := Lib.run_eql_slice_nil (P := Try.prog) w 29 5 (some ad) l0.length c0 0 0 Try.underlying29; go_enter Try.func89, Try.ntmps89; go_wp2_with (first | ((with_reducible refine aD (N := 5) rfl ?_); refine Kd.anv (Kd.int .u8) _ 5 ?hg (N := 5) ?hd (xs := ([] : List Int)) (inner := []) (ok := fun _ => True) (okp := fun _ => True) ?hr ?hp (fun _ hk => hk) trivial (Below.refl _ _) (Nat.le_refl _) (by simp) ?_; (case hd => rfl); (case hg => rfl); (case hr => first | (go_simp; done) | (go_simp; rfl)); (case hp => exact (iR.none _ _)); intro aG8 w5 ho6 hb Rj tZ; clear Rj tZ; have apb := ae ho6; have yK := ae (Ex (aun) hb); clear HB; have HB := yK; clear yK; clear hb ho6) | ((with_reducible refine oH (b := .append) (xs := #[.tmp 5, .tmp 6]) rfl ?_); at_builtin; refine Kd.O5 (Kd.int .u8) (w0 := w) w.heap.size rfl (.tmp 5) (.tmp 6) 29 5 (.int .u8 0) 1 rfl Try.underlying29 info5 rfl (by decide) (by omega) aG8 [] l0 _ _ _ (fun _ => True) (fun _ => False) rfl rfl ?aO ?aR (fun _ _ h => h) (fun _ h => h.elim) ?aF ?aB ?aS ?aL ?_; (case aR => repeat (first | exact (Kd.cz mV.o HB.o) | (with_reducible refine Kd.cB ?_ _) | (with_reducible refine Kd.bO ?_ _) | (with_reducible refine Kd.dH ?_))); (case aB => exact (aun)); (case aF => exact (fun _ _ => trivial)); (case aO => exact (zG apb)); (case aS => exact (af (aun))); (case aL => have := LM.out; simp; omega); intro v114 w7 ho hb hg hat; replace HB := ae (hb); have aAy := ae (ho); clear apb; clear ho hb hg hat))
   go_ret; exact ⟨_, rfl, Kd.iE aAy.o (Nat.le_refl _), HB.o⟩
 rw [if_neg hl] at h; exact absurd h (by simp)
def fK.l0 : Nat → List Int → List Int → Int → Option (Int)
 | 0, _, _, _ => none
 | k + 1, x0, x1, x5 => if x5 < (x0.length : Int) then (if x5 < (x1.length : Int) then (if 0 ≤ x5 then (if (rd x0 x5) = (rd x1 x5) then (fK.l0 k x0 x1 (wrap64 (x5 + 1))) else (some x5)) else (none)) else (some x5)) else (some x5)
def fK.f (k : Nat) (l0 : List Int) (l1 : List Int) : Option (Int) := fK.l0 k l0 l1 0
set_option maxHeartbeats 8000000 in
set_option maxRecDepth 100000 in
theorem fK.calls (k : Nat) (A0 : Option Addr) (c0 : Nat) (l0 : List Int) (A1 : Option Addr) (c1 : Nat) (l1 : List Int) (r : Int) (w : World) (hr0 : Kd.C (Kd.int .u8) w A0 l0.length l0) (hc0 : l0.length ≤ c0) (hr1 : Kd.C (Kd.int .u8) w A1 l1.length l1) (hc1 : l1.length ≤ c1) (h : fK.f k l0 l1 = some r) :
  Calls Try.prog 90 #[.slice A0 l0.length c0, .slice A1 l1.length c1] w fun e w' => e = .returned (.int .i64 r) ∧ bC w w' := by
 have mV := ae hr0; have Jn := ae hc0; clear hr0 hc0; have HR1 := ae hr1; have OX := ae hc1; clear hr1 hc1; rw [fK.f] at h; have H := h; clear h; have H' := ae H; clear H; go_enter Try.func90, Try.ntmps90; go_wp2; repeat (go_quiet (fail); try go_wp2)
 go_loopg [5] k (fun kq v5 w' => ∃ (ah : Int), v5 = .int .i64 ah ∧ ai (fK.l0 kq l0 l1 ah = some r) ∧ ai (kq ≤ k) ∧ bC w w')
 case atStart => exact ⟨(0), ky, H', ⟨Nat.le_refl _⟩, by repeat (first | exact bC.refl _ | apply bC.step)⟩
 case round =>
  clear H'; try clear c1; try clear p2
  obtain ⟨ah, rfl, HA, nK, ⟨m1, rfl⟩⟩ := hrel; cases gk with
  | zero => exact absurd HA.o (by simp [fK.l0])
  | succ k1 =>
   have H := HA.o; clear HA; simp only [fK.l0] at H; by_cases c3 : ah < (l0.length : Int)
   ·rw [if_pos c3] at H
    have jP : decide (ah < (l0.length : Int)) = true := decide_eq_true c3; clear c3; by_cases c4 : ah < (l1.length : Int)
    ·rw [if_pos c4] at H
     have mF : decide (ah < (l1.length : Int)) = true := decide_eq_true c4; clear c4; by_cases c5 : 0 ≤ ah
     ·rw [if_pos c5] at H
      have wo : decide (0 ≤ ah) = true := decide_eq_true c5; clear c5; by_cases c6 : (rd l0 ah) = (rd l1 ah)
      ·rw [if_pos c6] at H
       have o6 : ((rd l0 ah) == (rd l1 ah)) = true := beq_iff_eq.mpr c6; have Cx : ((rd l0 ah) != (rd l1 ah)) = false := bne_eq_false_iff_eq.mpr c6; clear c6; have H' := ae H; clear H; have aaa : 0 ≤ (ah : Int) := od; have aab : ah < (l0.length : Int) := od; obtain ⟨aAz, auo, am0⟩ := Kd.gK mV.o ah aaa aab; cases auo; replace aaa := eq_true aaa; replace aab := eq_true aab; have aac : 0 ≤ (ah : Int) := od; have aad : ah < (l1.length : Int) := od; obtain ⟨aAA, aup, am1⟩ := Kd.gK HR1.o ah aac aad; cases aup; replace aac := eq_true aac; replace aad := eq_true aad; go_wp2; repeat (go_quiet (fail); try go_wp2)
       go_roundg k1
       case measure => have := nK.o; omega
       case rel => exact ⟨(wrap64 (ah + 1)), ky, H', ⟨by have := nK.o; omega⟩, by repeat (first | exact bC.refl _ | apply bC.step)⟩
      rw [if_neg c6] at H; have o6 : ((rd l0 ah) == (rd l1 ah)) = false := beq_eq_false_iff_ne.mpr c6; have Cx : ((rd l0 ah) != (rd l1 ah)) = true := bne_iff_ne.mpr c6; obtain rfl := Option.some.inj H; have aaa : 0 ≤ (ah : Int) := od; have aab : ah < (l0.length : Int) := od; obtain ⟨aAz, auo, am0⟩ := Kd.gK mV.o ah aaa aab; cases auo; replace aaa := eq_true aaa; replace aab := eq_true aab; have aac : 0 ≤ (ah : Int) := od; have aad : ah < (l1.length : Int) := od; obtain ⟨aAA, aup, am1⟩ := Kd.gK HR1.o ah aac aad; cases aup; replace aac := eq_true aac; replace aad := eq_true aad; go_wp2; repeat (go_quiet (fail); try go_wp2)
      go_ret; exact ⟨by first | rfl | (simp; done) | (simp [*]; done), by repeat (first | exact bC.refl _ | apply bC.step)⟩
     rw [if_neg c5] at H; exact absurd H (by simp)
    rw [if_neg c4] at H; have mF : decide (ah < (l1.length : Int)) = false := decide_eq_false c4; clear c4; obtain rfl := Option.some.inj H; go_wp2; repeat (go_quiet (fail); try go_wp2)
    go_ret; exact ⟨by first | rfl | (simp; done) | (simp [*]; done), by repeat (first | exact bC.refl _ | apply bC.step)⟩
   rw [if_neg c3] at H; have jP : decide (ah < (l0.length : Int)) = false := decide_eq_false c3; clear c3; obtain rfl := Option.some.inj H; go_wp2; repeat (go_quiet (fail); try go_wp2)
   go_ret; exact ⟨by first | rfl | (simp; done) | (simp [*]; done), by repeat (first | exact bC.refl _ | apply bC.step)⟩
end Go.Proofs.Ytmfedjoofnlncaa.PT
