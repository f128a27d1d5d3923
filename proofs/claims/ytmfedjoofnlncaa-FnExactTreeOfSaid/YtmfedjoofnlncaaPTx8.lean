-- Written for this claim by the session's program pp.py, out of the kit's print and the seat's translation.
import Derived.Test.YtmfedjoofnlncaaPTx0
namespace Go.Proofs.Ytmfedjoofnlncaa.PT
open Go.RowKit Go.Proofs.YtmfedjoofnlncaaW.PrintWords Go.Proofs.YtmfedjoofnlncaaW.PrintLast Go.Proofs.YtmfedjoofnlncaaW.PrintMore
attribute [local go_sem] kR kS nk nu jM jN kT kU   -- for this text's walks alone
set_option linter.unusedVariables false
set_option linter.unusedSimpArgs false
def iD.l0 : Nat → List Int → List Int → Int → Option (Int)
 | 0, _, _, _ => none
 | k + 1, x0, x1, x5 => if x5 < (x0.length : Int) then (if x5 < (x1.length : Int) then (if 0 ≤ x5 then (if (rd x0 x5) = (rd x1 x5) then (iD.l0 k x0 x1 (wrap64 (x5 + 1))) else (some x5)) else (none)) else (some x5)) else (some x5)
def iD.f (k : Nat) (l0 : List Int) (l1 : List Int) : Option (Int) := iD.l0 k l0 l1 0
set_option maxHeartbeats 8000000 in
set_option maxRecDepth 100000 in
theorem iD.calls (k : Nat) (A0 : Option Addr) (c0 : Nat) (l0 : List Int) (A1 : Option Addr) (c1 : Nat) (l1 : List Int) (r : Int) (w : World) (hr0 : Kd.C (Kd.int .u8) w A0 l0.length l0) (hc0 : l0.length ≤ c0) (hr1 : Kd.C (Kd.int .u8) w A1 l1.length l1) (hc1 : l1.length ≤ c1) (h : iD.f k l0 l1 = some r) :
  Calls Try.prog 75 #[.slice A0 l0.length c0, .slice A1 l1.length c1] w fun e w' => e = .returned (.int .i64 r) ∧ bC w w' := by
 have mV := ae hr0; have Jn := ae hc0; clear hr0 hc0; have HR1 := ae hr1; have OX := ae hc1; clear hr1 hc1; rw [iD.f] at h; have H := h; clear h; have H' := ae H; clear H; go_enter Try.func75, Try.ntmps75; go_wp2; repeat (go_quiet (fail); try go_wp2)
 go_loopg [5] k (fun kq v5 w' => ∃ (ah : Int), v5 = .int .i64 ah ∧ ai (iD.l0 kq l0 l1 ah = some r) ∧ ai (kq ≤ k) ∧ bC w w')
 case atStart => exact ⟨(0), ky, H', ⟨Nat.le_refl _⟩, by repeat (first | exact bC.refl _ | apply bC.step)⟩
 case round =>
  clear H'; try clear c1; try clear p2
  obtain ⟨ah, rfl, HA, nK, ⟨m1, rfl⟩⟩ := hrel; cases gk with
  | zero => exact absurd HA.o (by simp [iD.l0])
  | succ k1 =>
   have H := HA.o; clear HA; simp only [iD.l0] at H; by_cases c3 : ah < (l0.length : Int)
   ·rw [if_pos c3] at H
    have jP : decide (ah < (l0.length : Int)) = true := decide_eq_true c3; clear c3; by_cases c4 : ah < (l1.length : Int)
    ·rw [if_pos c4] at H
     have mF : decide (ah < (l1.length : Int)) = true := decide_eq_true c4; clear c4; by_cases c5 : 0 ≤ ah
     ·rw [if_pos c5] at H
      have wo : decide (0 ≤ ah) = true := decide_eq_true c5; clear c5; by_cases c6 : (rd l0 ah) = (rd l1 ah)
      ·rw [if_pos c6] at H
       have o6 : ((rd l0 ah) == (rd l1 ah)) = true := beq_iff_eq.mpr c6; have Cx : ((rd l0 ah) != (rd l1 ah)) = false := bne_eq_false_iff_eq.mpr c6; clear c6; have H' := ae H; clear H; have Zk : 0 ≤ (ah : Int) := od; have Zl : ah < (l0.length : Int) := od; obtain ⟨ayW, asX, alQ⟩ := Kd.gK mV.o ah Zk Zl; cases asX; replace Zk := eq_true Zk; replace Zl := eq_true Zl; have Zm : 0 ≤ (ah : Int) := od; have Zn : ah < (l1.length : Int) := od; obtain ⟨ayX, asY, alR⟩ := Kd.gK HR1.o ah Zm Zn; cases asY; replace Zm := eq_true Zm; replace Zn := eq_true Zn; go_wp2; repeat (go_quiet (fail); try go_wp2)
       go_roundg k1
       case measure => have := nK.o; omega
       case rel => exact ⟨(wrap64 (ah + 1)), ky, H', ⟨by have := nK.o; omega⟩, by repeat (first | exact bC.refl _ | apply bC.step)⟩
      rw [if_neg c6] at H; have o6 : ((rd l0 ah) == (rd l1 ah)) = false := beq_eq_false_iff_ne.mpr c6; have Cx : ((rd l0 ah) != (rd l1 ah)) = true := bne_iff_ne.mpr c6; obtain rfl := Option.some.inj H; have Zk : 0 ≤ (ah : Int) := od; have Zl : ah < (l0.length : Int) := od; obtain ⟨ayW, asX, alQ⟩ := Kd.gK mV.o ah Zk Zl; cases asX; replace Zk := eq_true Zk; replace Zl := eq_true Zl; have Zm : 0 ≤ (ah : Int) := od; have Zn : ah < (l1.length : Int) := od; obtain ⟨ayX, asY, alR⟩ := Kd.gK HR1.o ah Zm Zn; cases asY; replace Zm := eq_true Zm; replace Zn := eq_true Zn; go_wp2; repeat (go_quiet (fail); try go_wp2)
      go_ret; exact ⟨by first | rfl | (simp; done) | (simp [*]; done), by repeat (first | exact bC.refl _ | apply bC.step)⟩
     rw [if_neg c5] at H; exact absurd H (by simp)
    rw [if_neg c4] at H; have mF : decide (ah < (l1.length : Int)) = false := decide_eq_false c4; clear c4; obtain rfl := Option.some.inj H; go_wp2; repeat (go_quiet (fail); try go_wp2)
    go_ret; exact ⟨by first | rfl | (simp; done) | (simp [*]; done), by repeat (first | exact bC.refl _ | apply bC.step)⟩
   rw [if_neg c3] at H; have jP : decide (ah < (l0.length : Int)) = false := decide_eq_false c3; clear c3; obtain rfl := Option.some.inj H; go_wp2; repeat (go_quiet (fail); try go_wp2)
   go_ret; exact ⟨by first | rfl | (simp; done) | (simp [*]; done), by repeat (first | exact bC.refl _ | apply bC.step)⟩
end Go.Proofs.Ytmfedjoofnlncaa.PT
