-- Written for this claim by the session's program pp.py, out of the kit's print and the seat's translation.
import Derived.Test.YtmfedjoofnlncaaPTx0
namespace Go.Proofs.Ytmfedjoofnlncaa.PT
open Go.RowKit Go.Proofs.YtmfedjoofnlncaaW.PrintWords Go.Proofs.YtmfedjoofnlncaaW.PrintLast Go.Proofs.YtmfedjoofnlncaaW.PrintMore
attribute [local go_sem] kR kS nk nu jM jN kT kU   -- for this text's walks alone
set_option linter.unusedVariables false
set_option linter.unusedSimpArgs false
def iT.l0 : Nat → Int → Int → Int → List (kG) → List (lQ) → Int → List (l7) → List (mE) → Option (Int)
 | 0, _, _, _, _, _, _, _, _ => none
 | k + 1, x1, x5, alq, alr, als, alu, Sv, alv => if x5 < (Sv.length : Int) then (if 0 ≤ x5 then (if ((bS Sv x5).f0) = x1 then (some x5) else (iT.l0 k x1 (wrap64 (x5 + 1)) alq alr als alu Sv alv)) else (none)) else (some (-1))
def iT.f (k : Nat) (aU : Int) (ay : List (kG)) (aH : List (lQ)) (bq : Int) (aM : List (l7)) (aN : List (mE)) (a1 : Int) : Option (Int) := iT.l0 k a1 0 aU ay aH bq aM aN
set_option maxHeartbeats 8000000 in
set_option maxRecDepth 100000 in
theorem iT.calls (k : Nat) (aU : Int) (dB : Option Addr) (dh : Nat) (ay : List (kG)) (eO : Option Addr) (dS : Nat) (aH : List (lQ)) (bq : Int) (eu : Option Addr) (dW : Nat) (aM : List (l7)) (eD : Option Addr) (ed : Nat) (aN : List (mE)) (a1 : Int) (r : Int) (w : World) (jw : Kd.C ym w dB ay.length ay) (jy : ay.length ≤ dh) (kN : Kd.C BM w eO aH.length aH) (kV : aH.length ≤ dS) (kP : Kd.C BN w eu aM.length aM) (kW : aM.length ≤ dW) (kX : Kd.C Av w eD aN.length aN) (kY : aN.length ≤ ed) (h : iT.f k aU ay aH bq aM aN a1 = some r) :
  Calls Try.prog 50 #[.agg #[.int .i64 aU, .slice dB ay.length dh, .slice eO aH.length dS, .int .i64 bq, .slice eu aM.length dW, .slice eD aN.length ed], .int .i64 a1] w fun e w' => e = .returned (.int .i64 r) ∧ Below w.heap.size w w' := by
 have O1 := Try.underlying37; have nC := ae jw; have iM := ae jy; clear jw jy; have oV := ae kN; have j5 := ae kV; clear kN kV; have nQ := ae kP; have kQ := ae kW; clear kP kW; have r_ := ae kX; have lH := ae kY; clear kX kY; have HB := ae (Below.refl w.heap.size w); rw [iT.f] at h; have H := h; clear h; have H' := ae H; clear H; go_enter Try.func50, Try.ntmps50; go_wp2_with (first | ((with_reducible refine aD (N := 2) rfl ?_); refine je 2 #[.int .i64 aU, .slice dB ay.length dh, .slice eO aH.length dS, .int .i64 bq, .slice eu aM.length dW, .slice eD aN.length ed] 37 (h := ?_); intro aon hg w3 hbox hb; have Hd := ae (hbox); have axW := ae ((by rw [hg]; exact (af bG) : w.heap.size ≤ aon)); have aJs := axW; replace HB := eU hb; clear hb hbox hg))
 go_loopg [5] k (fun kq v5 w' => ∃ (ah : Int), v5 = .int .i64 ah ∧ ai (iT.l0 kq a1 ah aU ay aH bq aM aN = some r) ∧ ai (kq ≤ k) ∧ ai (w'.heap[aon]? = some (.cells #[.int .i64 aU, (.slice dB ay.length dh), (.slice eO aH.length dS), .int .i64 bq, (.slice eu aM.length dW), (.slice eD aN.length ed)] 37 (0, 0))) ∧ ai (Below w.heap.size w w'))
 case atStart => exact ⟨(0), ky, H', ⟨Nat.le_refl _⟩, ⟨gu Hd⟩, ⟨bG⟩⟩
 case round =>
  clear H'; try clear p2
  obtain ⟨ah, rfl, HA, nK, Hd, HB⟩ := hrel; cases gk with
  | zero => exact absurd HA.o (by simp [iT.l0])
  | succ k1 =>
   have H := HA.o; clear HA; simp only [iT.l0] at H; by_cases c4 : ah < (aM.length : Int)
   ·rw [if_pos c4] at H
    have mF : decide (ah < (aM.length : Int)) = true := decide_eq_true c4; clear c4; by_cases c5 : 0 ≤ ah
    ·rw [if_pos c5] at H
     have wo : decide (0 ≤ ah) = true := decide_eq_true c5; clear c5; by_cases c6 : ((bS aM ah).f0) = a1
     ·rw [if_pos c6] at H
      have o6 : (((bS aM ah).f0) == a1) = true := beq_iff_eq.mpr c6; have Cx : (((bS aM ah).f0) != a1) = false := bne_eq_false_iff_eq.mpr c6; clear c6; obtain rfl := Option.some.inj H; have C7 := a_ Hd.o trivial; have F7 := dA Hd.o; have Y6 : 0 ≤ (ah : Int) := od; have Y7 : ah < (aM.length : Int) := od; obtain ⟨axX, e238, He, Hf⟩ := qJ nQ.o ah Y6 Y7; cases e238; replace He := hxb HB He; replace Hf := hxb HB Hf; replace Y6 := eq_true Y6; replace Y7 := eq_true Y7; go_wp2; go_ret; exact ⟨ku, bG⟩
     rw [if_neg c6] at H; have o6 : (((bS aM ah).f0) == a1) = false := beq_eq_false_iff_ne.mpr c6; have Cx : (((bS aM ah).f0) != a1) = true := bne_iff_ne.mpr c6; have H' := ae H; clear H; have C8 := a_ Hd.o trivial; have F8 := dA Hd.o; have Y6 : 0 ≤ (ah : Int) := od; have Y7 : ah < (aM.length : Int) := od; obtain ⟨axX, e238, He, Hf⟩ := qJ nQ.o ah Y6 Y7; cases e238; replace He := hxb HB He; replace Hf := hxb HB Hf; replace Y6 := eq_true Y6; replace Y7 := eq_true Y7; go_wp2; go_roundg k1
     case measure => have := nK.o; omega
     case rel => exact ⟨(wrap64 (ah + 1)), ky, H', ⟨by have := nK.o; omega⟩, ⟨gu Hd⟩, ⟨bG⟩⟩
    rw [if_neg c5] at H; exact absurd H (by simp)
   rw [if_neg c4] at H; have mF : decide (ah < (aM.length : Int)) = false := decide_eq_false c4; clear c4; obtain rfl := Option.some.inj H; have C9 := a_ Hd.o trivial; have F9 := dA Hd.o; go_wp2; go_ret; exact ⟨ku, bG⟩
def jD.l0 : Nat → List Int → Int → Int → List (kG) → List (lQ) → Int → List (l7) → List (mE) → Option (Int)
 | 0, _, _, _, _, _, _, _, _ => none
 | k + 1, x1, x5, alx, Sw, aly, alz, alA, alB => if x5 < (Sw.length : Int) then (if 0 ≤ x5 then (if (strOfNums ((ax Sw x5).f0)).toList = (strOfNums x1).toList then (some x5) else (jD.l0 k x1 (wrap64 (x5 + 1)) alx Sw aly alz alA alB)) else (none)) else (some (-1))
def jD.f (k : Nat) (aU : Int) (ay : List (kG)) (aH : List (lQ)) (bq : Int) (aM : List (l7)) (aN : List (mE)) (l1 : List Int) : Option (Int) := jD.l0 k l1 0 aU ay aH bq aM aN
set_option maxHeartbeats 8000000 in
set_option maxRecDepth 100000 in
theorem jD.calls (k : Nat) (aU : Int) (dB : Option Addr) (dh : Nat) (ay : List (kG)) (eO : Option Addr) (dS : Nat) (aH : List (lQ)) (bq : Int) (eu : Option Addr) (dW : Nat) (aM : List (l7)) (eD : Option Addr) (ed : Nat) (aN : List (mE)) (A1 : Option Addr) (c1 : Nat) (l1 : List Int) (r : Int) (w : World) (jw : Kd.C ym w dB ay.length ay) (jy : ay.length ≤ dh) (kN : Kd.C BM w eO aH.length aH) (kV : aH.length ≤ dS) (kP : Kd.C BN w eu aM.length aM) (kW : aM.length ≤ dW) (kX : Kd.C Av w eD aN.length aN) (kY : aN.length ≤ ed) (hr1 : Kd.C (Kd.int .u8) w A1 l1.length l1) (hc1 : l1.length ≤ c1) (h : jD.f k aU ay aH bq aM aN l1 = some r) :
  Calls Try.prog 51 #[.agg #[.int .i64 aU, .slice dB ay.length dh, .slice eO aH.length dS, .int .i64 bq, .slice eu aM.length dW, .slice eD aN.length ed], .slice A1 l1.length c1] w fun e w' => e = .returned (.int .i64 r) ∧ Below w.heap.size w w' := by
 have O1 := Try.underlying37; have nC := ae jw; have iM := ae jy; clear jw jy; have oV := ae kN; have j5 := ae kV; clear kN kV; have nQ := ae kP; have kQ := ae kW; clear kP kW; have r_ := ae kX; have lH := ae kY; clear kX kY; have HR1 := ae hr1; have OX := ae hc1; clear hr1 hc1; have HB := ae (Below.refl w.heap.size w); rw [jD.f] at h; have H := h; clear h; have H' := ae H; clear H; go_enter Try.func51, Try.ntmps51; go_wp2_with (first | ((with_reducible refine aD (N := 2) rfl ?_); refine je 2 #[.int .i64 aU, .slice dB ay.length dh, .slice eO aH.length dS, .int .i64 bq, .slice eu aM.length dW, .slice eD aN.length ed] 37 (h := ?_); intro Qn hg w3 hbox hb; have CB := ae (hbox); have VY := ae ((by rw [hg]; exact (af bG) : w.heap.size ≤ Qn)); have aoo := VY; replace HB := eU hb; clear hb hbox hg))
 repeat (go_quiet (first | ((with_reducible refine aD (N := 2) rfl ?_); refine je 2 #[.int .i64 aU, .slice dB ay.length dh, .slice eO aH.length dS, .int .i64 bq, .slice eu aM.length dW, .slice eD aN.length ed] 37 (h := ?_); intro Qn hg w3 hbox hb; have CB := ae (hbox); have VY := ae ((by rw [hg]; exact (af bG) : w.heap.size ≤ Qn)); have aoo := VY; replace HB := eU hb; clear hb hbox hg)); try go_wp2_with (first | ((with_reducible refine aD (N := 2) rfl ?_); refine je 2 #[.int .i64 aU, .slice dB ay.length dh, .slice eO aH.length dS, .int .i64 bq, .slice eu aM.length dW, .slice eD aN.length ed] 37 (h := ?_); intro Qn hg w3 hbox hb; have CB := ae (hbox); have VY := ae ((by rw [hg]; exact (af bG) : w.heap.size ≤ Qn)); have aoo := VY; replace HB := eU hb; clear hb hbox hg)))
 go_loopg [5] k (fun kq v5 w' => ∃ (ah : Int), v5 = .int .i64 ah ∧ ai (jD.l0 kq l1 ah aU ay aH bq aM aN = some r) ∧ ai (kq ≤ k) ∧ ai (w'.heap[Qn]? = some (.cells #[.int .i64 aU, (.slice dB ay.length dh), (.slice eO aH.length dS), .int .i64 bq, (.slice eu aM.length dW), (.slice eD aN.length ed)] 37 (0, 0))) ∧ ai (Below w.heap.size w w'))
 case atStart => exact ⟨(0), ky, H', ⟨Nat.le_refl _⟩, ⟨gu CB⟩, ⟨bG⟩⟩
 case round =>
  clear H'; try clear c1; try clear p2
  obtain ⟨ah, rfl, HA, nK, CB, HB⟩ := hrel; cases gk with
  | zero => exact absurd HA.o (by simp [jD.l0])
  | succ k1 =>
   have H := HA.o; clear HA; simp only [jD.l0] at H; by_cases c4 : ah < (ay.length : Int)
   ·rw [if_pos c4] at H
    have mF : decide (ah < (ay.length : Int)) = true := decide_eq_true c4; clear c4; by_cases c5 : 0 ≤ ah
    ·rw [if_pos c5] at H
     have wo : decide (0 ≤ ah) = true := decide_eq_true c5; clear c5; by_cases c6 : (strOfNums ((ax ay ah).f0)).toList = (strOfNums l1).toList
     ·rw [if_pos c6] at H
      have o6 : ((strOfNums ((ax ay ah).f0)).toList == (strOfNums l1).toList) = true := beq_iff_eq.mpr c6; have Cx : ((strOfNums ((ax ay ah).f0)).toList != (strOfNums l1).toList) = false := bne_eq_false_iff_eq.mpr c6; clear c6; obtain rfl := Option.some.inj H; have C7 := a_ CB.o trivial; have F7 := dA CB.o; have Y8 : 0 ≤ (ah : Int) := od; have Y9 : ah < (ay.length : Int) := od; obtain ⟨axY, NN, NP, asq, asr, e240, Hg, Hl, Hm, Ho, Hq, Hr, Ht, Hu⟩ := qI nC.o ah Y8 Y9; cases e240; replace Hg := hxb HB Hg; replace Hl := hxb HB Hl; replace Hm := hxb HB Hm; replace Ho := hxb HB Ho; have Hw := ae Hr; have alC := ae Hq; clear Hr Hq; have alD := ae Hu; have alE := ae Ht; clear Hu Ht; replace Y8 := eq_true Y8; replace Y9 := eq_true Y9; have aEI := Kd.jq (P := Try.prog) (A := NN) (c := NP) Try.underlying29 Try.underlying5 Try.underlying9 (Kd.cz Hw.o HB.o); have aEJ := fun Sy : Nat => Kd.jq (P := Try.prog) (A := NN) (c := NP) Try.underlying29 Try.underlying5 Try.underlying9 (Kd.bO (Kd.cz Hw.o HB.o) Sy)
      have aEK := Kd.jq (P := Try.prog) (A := A1) (c := c1) Try.underlying29 Try.underlying5 Try.underlying9 (Kd.cz HR1.o HB.o); have aEL := fun Sy : Nat => Kd.jq (P := Try.prog) (A := A1) (c := c1) Try.underlying29 Try.underlying5 Try.underlying9 (Kd.bO (Kd.cz HR1.o HB.o) Sy)
      go_wp2; repeat (go_quiet (fail); try go_wp2)
      go_ret; exact ⟨ku, bG⟩
     rw [if_neg c6] at H; have o6 : ((strOfNums ((ax ay ah).f0)).toList == (strOfNums l1).toList) = false := beq_eq_false_iff_ne.mpr c6; have Cx : ((strOfNums ((ax ay ah).f0)).toList != (strOfNums l1).toList) = true := bne_iff_ne.mpr c6; have H' := ae H; clear H; have C10 := a_ CB.o trivial; have F10 := dA CB.o; have Y8 : 0 ≤ (ah : Int) := od; have Y9 : ah < (ay.length : Int) := od; obtain ⟨axY, NN, NP, asq, asr, e240, Hg, Hl, Hm, Ho, Hq, Hr, Ht, Hu⟩ := qI nC.o ah Y8 Y9; cases e240; replace Hg := hxb HB Hg; replace Hl := hxb HB Hl; replace Hm := hxb HB Hm; replace Ho := hxb HB Ho; have Hw := ae Hr; have alC := ae Hq; clear Hr Hq; have alD := ae Hu; have alE := ae Ht; clear Hu Ht; replace Y8 := eq_true Y8; replace Y9 := eq_true Y9; have axZ := Kd.jq (P := Try.prog) (A := NN) (c := NP) Try.underlying29 Try.underlying5 Try.underlying9 (Kd.cz Hw.o HB.o); have ax0 := fun Sy : Nat => Kd.jq (P := Try.prog) (A := NN) (c := NP) Try.underlying29 Try.underlying5 Try.underlying9 (Kd.bO (Kd.cz Hw.o HB.o) Sy)
     have ax1 := Kd.jq (P := Try.prog) (A := A1) (c := c1) Try.underlying29 Try.underlying5 Try.underlying9 (Kd.cz HR1.o HB.o); have ax2 := fun Sy : Nat => Kd.jq (P := Try.prog) (A := A1) (c := c1) Try.underlying29 Try.underlying5 Try.underlying9 (Kd.bO (Kd.cz HR1.o HB.o) Sy)
     go_wp2; repeat (go_quiet (fail); try go_wp2)
     go_roundg k1
     case measure => have := nK.o; omega
     case rel => exact ⟨(wrap64 (ah + 1)), ky, H', ⟨by have := nK.o; omega⟩, ⟨gu CB⟩, ⟨bG⟩⟩
    rw [if_neg c5] at H; exact absurd H (by simp)
   rw [if_neg c4] at H; have mF : decide (ah < (ay.length : Int)) = false := decide_eq_false c4; clear c4; obtain rfl := Option.some.inj H; have Ya := a_ CB.o trivial; have Yb := dA CB.o; go_wp2; repeat (go_quiet (fail); try go_wp2)
   go_ret; exact ⟨ku, bG⟩
def iU.l0 : Nat → List Int → Int → Int → List (kG) → List (lQ) → Int → List (l7) → List (mE) → Option (Int)
 | 0, _, _, _, _, _, _, _, _ => none
 | k + 1, x1, x5, alF, alG, Sz, alH, alI, alJ => if x5 < (Sz.length : Int) then (if 0 ≤ x5 then (if (strOfNums ((bu Sz x5).f0)).toList = (strOfNums x1).toList then (some x5) else (iU.l0 k x1 (wrap64 (x5 + 1)) alF alG Sz alH alI alJ)) else (none)) else (some (-1))
def iU.f (k : Nat) (aU : Int) (ay : List (kG)) (aH : List (lQ)) (bq : Int) (aM : List (l7)) (aN : List (mE)) (l1 : List Int) : Option (Int) := iU.l0 k l1 0 aU ay aH bq aM aN
set_option maxHeartbeats 8000000 in
set_option maxRecDepth 100000 in
theorem iU.calls (k : Nat) (aU : Int) (dB : Option Addr) (dh : Nat) (ay : List (kG)) (eO : Option Addr) (dS : Nat) (aH : List (lQ)) (bq : Int) (eu : Option Addr) (dW : Nat) (aM : List (l7)) (eD : Option Addr) (ed : Nat) (aN : List (mE)) (A1 : Option Addr) (c1 : Nat) (l1 : List Int) (r : Int) (w : World) (jw : Kd.C ym w dB ay.length ay) (jy : ay.length ≤ dh) (kN : Kd.C BM w eO aH.length aH) (kV : aH.length ≤ dS) (kP : Kd.C BN w eu aM.length aM) (kW : aM.length ≤ dW) (kX : Kd.C Av w eD aN.length aN) (kY : aN.length ≤ ed) (hr1 : Kd.C (Kd.int .u8) w A1 l1.length l1) (hc1 : l1.length ≤ c1) (h : iU.f k aU ay aH bq aM aN l1 = some r) :
  Calls Try.prog 52 #[.agg #[.int .i64 aU, .slice dB ay.length dh, .slice eO aH.length dS, .int .i64 bq, .slice eu aM.length dW, .slice eD aN.length ed], .slice A1 l1.length c1] w fun e w' => e = .returned (.int .i64 r) ∧ Below w.heap.size w w' := by
 have O1 := Try.underlying37; have nC := ae jw; have iM := ae jy; clear jw jy; have oV := ae kN; have j5 := ae kV; clear kN kV; have nQ := ae kP; have kQ := ae kW; clear kP kW; have r_ := ae kX; have lH := ae kY; clear kX kY; have HR1 := ae hr1; have OX := ae hc1; clear hr1 hc1; have HB := ae (Below.refl w.heap.size w); rw [iU.f] at h; have H := h; clear h; have H' := ae H; clear H; go_enter Try.func52, Try.ntmps52; go_wp2_with (first | ((with_reducible refine aD (N := 2) rfl ?_); refine je 2 #[.int .i64 aU, .slice dB ay.length dh, .slice eO aH.length dS, .int .i64 bq, .slice eu aM.length dW, .slice eD aN.length ed] 37 (h := ?_); intro Qo hg w3 hbox hb; have CE := ae (hbox); have VZ := ae ((by rw [hg]; exact (af bG) : w.heap.size ≤ Qo)); have aop := VZ; replace HB := eU hb; clear hb hbox hg))
 repeat (go_quiet (first | ((with_reducible refine aD (N := 2) rfl ?_); refine je 2 #[.int .i64 aU, .slice dB ay.length dh, .slice eO aH.length dS, .int .i64 bq, .slice eu aM.length dW, .slice eD aN.length ed] 37 (h := ?_); intro Qo hg w3 hbox hb; have CE := ae (hbox); have VZ := ae ((by rw [hg]; exact (af bG) : w.heap.size ≤ Qo)); have aop := VZ; replace HB := eU hb; clear hb hbox hg)); try go_wp2_with (first | ((with_reducible refine aD (N := 2) rfl ?_); refine je 2 #[.int .i64 aU, .slice dB ay.length dh, .slice eO aH.length dS, .int .i64 bq, .slice eu aM.length dW, .slice eD aN.length ed] 37 (h := ?_); intro Qo hg w3 hbox hb; have CE := ae (hbox); have VZ := ae ((by rw [hg]; exact (af bG) : w.heap.size ≤ Qo)); have aop := VZ; replace HB := eU hb; clear hb hbox hg)))
 go_loopg [5] k (fun kq v5 w' => ∃ (ah : Int), v5 = .int .i64 ah ∧ ai (iU.l0 kq l1 ah aU ay aH bq aM aN = some r) ∧ ai (kq ≤ k) ∧ ai (w'.heap[Qo]? = some (.cells #[.int .i64 aU, (.slice dB ay.length dh), (.slice eO aH.length dS), .int .i64 bq, (.slice eu aM.length dW), (.slice eD aN.length ed)] 37 (0, 0))) ∧ ai (Below w.heap.size w w'))
 case atStart => exact ⟨(0), ky, H', ⟨Nat.le_refl _⟩, ⟨gu CE⟩, ⟨bG⟩⟩
 case round =>
  clear H'; try clear c1; try clear p2
  obtain ⟨ah, rfl, HA, nK, CE, HB⟩ := hrel; cases gk with
  | zero => exact absurd HA.o (by simp [iU.l0])
  | succ k1 =>
   have H := HA.o; clear HA; simp only [iU.l0] at H; by_cases c4 : ah < (aH.length : Int)
   ·rw [if_pos c4] at H
    have mF : decide (ah < (aH.length : Int)) = true := decide_eq_true c4; clear c4; by_cases c5 : 0 ≤ ah
    ·rw [if_pos c5] at H
     have wo : decide (0 ≤ ah) = true := decide_eq_true c5; clear c5; by_cases c6 : (strOfNums ((bu aH ah).f0)).toList = (strOfNums l1).toList
     ·rw [if_pos c6] at H
      have o6 : ((strOfNums ((bu aH ah).f0)).toList == (strOfNums l1).toList) = true := beq_iff_eq.mpr c6; have Cx : ((strOfNums ((bu aH ah).f0)).toList != (strOfNums l1).toList) = false := bne_eq_false_iff_eq.mpr c6; clear c6; obtain rfl := Option.some.inj H; have C7 := a_ CE.o trivial; have F7 := dA CE.o; have Y_ : 0 ≤ (ah : Int) := od; have Za : ah < (aH.length : Int) := od; obtain ⟨ax3, NQ, NR, e242, Hy, Hz, HV, HY⟩ := tV oV.o ah Y_ Za; cases e242; replace Hy := hxb HB Hy; replace Hz := hxb HB Hz; have H5 := ae HY; have alK := ae HV; clear HY HV; replace Y_ := eq_true Y_; replace Za := eq_true Za; have aEI := Kd.jq (P := Try.prog) (A := NQ) (c := NR) Try.underlying29 Try.underlying5 Try.underlying9 (Kd.cz H5.o HB.o); have aEJ := fun Sy : Nat => Kd.jq (P := Try.prog) (A := NQ) (c := NR) Try.underlying29 Try.underlying5 Try.underlying9 (Kd.bO (Kd.cz H5.o HB.o) Sy)
      have aEK := Kd.jq (P := Try.prog) (A := A1) (c := c1) Try.underlying29 Try.underlying5 Try.underlying9 (Kd.cz HR1.o HB.o); have aEL := fun Sy : Nat => Kd.jq (P := Try.prog) (A := A1) (c := c1) Try.underlying29 Try.underlying5 Try.underlying9 (Kd.bO (Kd.cz HR1.o HB.o) Sy)
      go_wp2; repeat (go_quiet (fail); try go_wp2)
      go_ret; exact ⟨ku, bG⟩
     rw [if_neg c6] at H; have o6 : ((strOfNums ((bu aH ah).f0)).toList == (strOfNums l1).toList) = false := beq_eq_false_iff_ne.mpr c6; have Cx : ((strOfNums ((bu aH ah).f0)).toList != (strOfNums l1).toList) = true := bne_iff_ne.mpr c6; have H' := ae H; clear H; have C10 := a_ CE.o trivial; have F10 := dA CE.o; have Y_ : 0 ≤ (ah : Int) := od; have Za : ah < (aH.length : Int) := od; obtain ⟨ax3, NQ, NR, e242, Hy, Hz, HV, HY⟩ := tV oV.o ah Y_ Za; cases e242; replace Hy := hxb HB Hy; replace Hz := hxb HB Hz; have H5 := ae HY; have alK := ae HV; clear HY HV; replace Y_ := eq_true Y_; replace Za := eq_true Za; have axZ := Kd.jq (P := Try.prog) (A := NQ) (c := NR) Try.underlying29 Try.underlying5 Try.underlying9 (Kd.cz H5.o HB.o); have ax0 := fun Sy : Nat => Kd.jq (P := Try.prog) (A := NQ) (c := NR) Try.underlying29 Try.underlying5 Try.underlying9 (Kd.bO (Kd.cz H5.o HB.o) Sy)
     have ax1 := Kd.jq (P := Try.prog) (A := A1) (c := c1) Try.underlying29 Try.underlying5 Try.underlying9 (Kd.cz HR1.o HB.o); have ax2 := fun Sy : Nat => Kd.jq (P := Try.prog) (A := A1) (c := c1) Try.underlying29 Try.underlying5 Try.underlying9 (Kd.bO (Kd.cz HR1.o HB.o) Sy)
     go_wp2; repeat (go_quiet (fail); try go_wp2)
     go_roundg k1
     case measure => have := nK.o; omega
     case rel => exact ⟨(wrap64 (ah + 1)), ky, H', ⟨by have := nK.o; omega⟩, ⟨gu CE⟩, ⟨bG⟩⟩
    rw [if_neg c5] at H; exact absurd H (by simp)
   rw [if_neg c4] at H; have mF : decide (ah < (aH.length : Int)) = false := decide_eq_false c4; clear c4; obtain rfl := Option.some.inj H; have Ya := a_ CE.o trivial; have Yb := dA CE.o; go_wp2; repeat (go_quiet (fail); try go_wp2)
   go_ret; exact ⟨ku, bG⟩
end Go.Proofs.Ytmfedjoofnlncaa.PT
