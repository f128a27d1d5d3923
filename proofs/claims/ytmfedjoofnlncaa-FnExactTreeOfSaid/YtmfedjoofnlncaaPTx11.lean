-- Written for this claim by the session's program pp.py, out of the kit's print and the seat's translation.
import Derived.Test.YtmfedjoofnlncaaPTx0
import Derived.Test.YtmfedjoofnlncaaPTx7
import Derived.Test.YtmfedjoofnlncaaPTx9
import Derived.Test.YtmfedjoofnlncaaPTx10
namespace Go.Proofs.Ytmfedjoofnlncaa.PT
open Go.RowKit Go.Proofs.YtmfedjoofnlncaaW.PrintWords Go.Proofs.YtmfedjoofnlncaaW.PrintLast Go.Proofs.YtmfedjoofnlncaaW.PrintMore
attribute [local go_sem] kR kS nk nu jM jN kT kU   -- for this text's walks alone
set_option linter.unusedVariables false
set_option linter.unusedSimpArgs false
def fI.l0 : Nat → Int → Int → List (kG) → List (lQ) → Int → List (l7) → List (mE) → List Int → Bool → Int → List (dR) → Option (List Int × Bool × Int × (List (dR)))
 | 0, _, _, _, _, _, _, _, _, _, _, _ => none
 | k + 1, x4, akJ, Lg, akK, akL, akM, akN, abw, abx, aby, abz => if x4 < (Lg.length : Int) then (if 0 ≤ x4 then ((bz.f k abw abx aby abz ((ax Lg x4).f0) ((ax Lg x4).f2)).bind fun abA => (fI.l0 k (wrap64 (x4 + 1)) akJ Lg akK akL akM akN abA.1 abA.2.1 abA.2.2.1 abA.2.2.2)) else (none)) else ((dO.f k abw abx aby abz).bind fun abB => (some (abB.1, abB.2.1, abB.2.2.1, abB.2.2.2)))
def fI.f (k : Nat) (aU : Int) (ay : List (kG)) (aH : List (lQ)) (bq : Int) (aM : List (l7)) (aN : List (mE)) : Option (List Int × Bool × Int × (List (dR))) := (aj.f k aU ay aH bq aM aN).bind fun art => (if art = true then (fI.l0 k 0 aU ay aH bq aM aN ([] : List Int) false 0 ([] : List (dR))) else (some (([] : List Int), false, 0, ([] : List (dR)))))
def fI.T7 : Bool × List (List Nat × List Nat) := (true, [([], []), ([], []), ([1], [1]), ([], []), ([2, 3], [2, 3]), ([4], [4]), ([5], [5]), ([], []), ([7], [7]), ([], []), ([8, 9], [8, 9]), ([10], [10]), ([11], [11]), ([0, 6, 12], [0, 6, 12]), ([13, 13, 0, 1, 2, 3, 4, 5, 6, 7, 8, 9, 10, 11, 12, 13], [13])])
def fI.B7 : List Nat := [0, 0, 2, 0, 14, 30, 62, 0, 128, 0, 896, 1920, 3968, 8191, 16383]
theorem fI.ahn : nL .any (opsOf Try.f14 7) = fI.T7 := by kernel_rfl
theorem fI.VO : jQ fI.T7.2 fI.B7 = true := by kernel_rfl
set_option maxHeartbeats 8000000 in
set_option maxRecDepth 100000 in
theorem fI.calls (k : Nat) (aU : Int) (dB : Option Addr) (dh : Nat) (ay : List (kG)) (eO : Option Addr) (dS : Nat) (aH : List (lQ)) (bq : Int) (eu : Option Addr) (dW : Nat) (aM : List (l7)) (eD : Option Addr) (ed : Nat) (aN : List (mE)) (r1 : List Int) (r2 : Bool) (r3 : Int) (r4 : List (dR)) (w : World) (jw : Kd.C ym w dB ay.length ay) (jy : ay.length ≤ dh) (kN : Kd.C BM w eO aH.length aH) (kV : aH.length ≤ dS) (kP : Kd.C BN w eu aM.length aM) (kW : aM.length ≤ dW) (kX : Kd.C Av w eD aN.length aN) (kY : aN.length ≤ ed) (h : fI.f k aU ay aH bq aM aN = some (r1, r2, r3, r4)) :
  Calls Try.prog 14 #[.agg #[.int .i64 aU, .slice dB ay.length dh, .slice eO aH.length dS, .int .i64 bq, .slice eu aM.length dW, .slice eD aN.length ed]] w fun e w' => ∃ yB VP : Value, e = .returned (.agg #[yB, .bool r2, .int .i64 r3, VP]) ∧ Kd.R (Kd.int .u8) 5 w' w.heap.size (fun _ => True) yB r1 ∧ Kd.R qp 46 w' w.heap.size (fun k_ => some k_ ≠ (yB : Value).ownBlock) VP r4 ∧ Below w.heap.size w w' := by
 have O1 := Try.underlying37; have QN := Try.underlying46; have nC := ae jw; have iM := ae jy; clear jw jy; have oV := ae kN; have j5 := ae kV; clear kN kV; have nQ := ae kP; have kQ := ae kW; clear kP kW; have r_ := ae kX; have lH := ae kY; clear kX kY; have HB := ae (Below.refl w.heap.size w); rw [fI.f] at h; have H := h; clear h; replace H := ni H; obtain ⟨art, A2, H⟩ := H; by_cases c3 : art = true
 ·subst c3
  rw [if_pos rfl] at H; have H' := ae H; clear H; go_enter Try.func14, Try.ntmps14; go_wp2_with (first | ((with_reducible refine aD (N := 1) rfl ?_); refine je 1 #[.int .i64 aU, .slice dB ay.length dh, .slice eO aH.length dS, .int .i64 bq, .slice eu aM.length dW, .slice eD aN.length ed] 37 (h := ?_); intro tK hg w4 hbox hb; have lK := ae (hbox); have VQ := ae ((by rw [hg]; exact (af bG) : w.heap.size ≤ tK)); have axd := VQ; replace HB := eU hb; clear hb hbox hg) | ((with_reducible refine aD (N := 2) rfl ?_); refine je 2 #[.slice none 0 0, .bool false, .int .i64 0, .slice none 0 0] 46 (h := ?_); intro tL hg w5 hbox hb; have oN := ae (hbox); have VR := ae ((by rw [hg]; exact (af bG) : w.heap.size ≤ tL)); have axe := VR; have vD := ae ((by rw [hg]; exact Nat.ne_of_lt (blt lK) : tK ≠ tL)); have Ad := ae vD.o.symm; replace lK := ae (fo lK hb); replace HB := eU hb; clear hb hbox hg) | ((with_reducible refine aD (N := 3) rfl ?_); refine je 3 #[.slice none 0 0, .bool false, .int .i64 0, .slice none 0 0] 46 (h := ?_); intro o9 hg w6 hbox hb; have nX := ae (hbox); have VS := ae ((by rw [hg]; exact (af bG) : w.heap.size ≤ o9)); have axf := VS; have o_ := ae ((by rw [hg]; exact Nat.ne_of_lt (blt lK) : tK ≠ o9)); have rJ := ae o_.o.symm; have rM := ae ((by rw [hg]; exact Nat.ne_of_lt (blt oN) : tL ≠ o9)); have vE := ae rM.o.symm; replace lK := ae (fo lK hb); replace oN := ae (fo oN hb); replace HB := eU hb; clear hb hbox hg; have aes := vD.o; have aet := Ad.o; have agV := o_.o; have agW := rJ.o; have C9 := a_ lK.o trivial; have F9 := dA lK.o) | ((with_reducible refine au (f := 23) rfl ?_); refine jG (some 6) Try.func23 #[.agg #[.int .i64 aU, .slice dB ay.length dh, .slice eO aH.length dS, .int .i64 bq, .slice eu aM.length dW, .slice eD aN.length ed]] (h := ?_); (with_reducible refine (aj.calls k aU _ _ ay _ _ aH bq _ _ aM _ _ aN true _ ?aI ?aJ ?bL ?bN ?iq ?iw ?jg ?jh A2.o).mono ?_); (case aI => exact fT); (case aJ => exact iM.o); (case bL => exact fT); (case bN => exact j5.o); (case iq => exact fT); (case iw => exact kQ.o); (case jg => exact fT); (case jh => exact lH.o); rintro e Rh ⟨rfl, hb⟩; refine ⟨_, rfl, ?_⟩; replace lK := ae (fo lK hb); replace oN := ae (fo oN hb); replace nX := ae (fo nX hb); replace HB := eU hb; clear hb))
  go_loopg [4] k (fun kq v4 w' => ∃ (bI : Int) (qC : List Int) (qD : Bool) (qE : Int) (qF : List (dR)) (u354000 : Value) (u354003 : Value), v4 = .int .i64 bI ∧ ai (fI.l0 kq bI aU ay aH bq aM aN qC qD qE qF = some (r1, r2, r3, r4)) ∧ ai (kq ≤ k) ∧ ai (Kd.V (Kd.int .u8) 5 w' w.heap.size (fun k_ => k_ ≠ tK ∧ k_ ≠ tL ∧ k_ ≠ o9) u354000 qC) ∧ ai (Kd.V qp 46 w' w.heap.size (fun k_ => k_ ≠ tK ∧ k_ ≠ tL ∧ k_ ≠ o9) u354003 qF) ∧ ai (w'.heap[tK]? = some (.cells #[.int .i64 aU, (.slice dB ay.length dh), (.slice eO aH.length dS), .int .i64 bq, (.slice eu aM.length dW), (.slice eD aN.length ed)] 37 (0, 0))) ∧ ai (w'.heap[tL]? = some (.cells #[(.slice none 0 0), .bool false, .int .i64 0, (.slice none 0 0)] 46 (0, 0))) ∧ ai (w'.heap[o9]? = some (.cells #[u354000, .bool qD, .int .i64 qE, u354003] 46 (0, 0))) ∧ ai (Below w.heap.size w w'))
  case atStart => exact ⟨(0), (([] : List Int)), (false), (0), (([] : List (dR))), (.slice none 0 0), (.slice none 0 0), ky, H', ⟨Nat.le_refl _⟩, ⟨Kd.BF _ _ _ _ _⟩, ⟨Kd.BF _ _ _ _ _⟩, ⟨gu lK⟩, ⟨gu oN⟩, ⟨gu nX⟩, ⟨bG⟩⟩
  case round =>
   clear H'; try clear c1; try clear c2; try clear p2; try clear c3; try clear c7; try clear c8; try clear C9; try clear F9
   obtain ⟨bI, qC, qD, qE, qF, u354000, u354003, rfl, HA, nK, oq, ou, lK, oN, nX, HB⟩ := hrel; cases gk with
   | zero => exact absurd HA.o (by simp [fI.l0])
   | succ k1 =>
    have H := HA.o; clear HA; simp only [fI.l0] at H; by_cases c11 : bI < (ay.length : Int)
    ·rw [if_pos c11] at H
     have KG : decide (bI < (ay.length : Int)) = true := decide_eq_true c11; clear c11; by_cases c12 : 0 ≤ bI
     ·rw [if_pos c12] at H
      have wH : decide (0 ≤ bI) = true := decide_eq_true c12; clear c12; replace H := ni H; obtain ⟨⟨aru, axg, axh, arv⟩, A13, H⟩ := H; dsimp only at H; have H' := ae H; clear H; have aI9 := vD.o; have aI_ := Ad.o; have ag' := o_.o; have aha := rJ.o; have C16 := a_ lK.o trivial; have F16 := dA lK.o; try go_wp2
      replace oq := ae (Kd.bM oq.o); replace ou := ae (Kd.bM ou.o); replace lK := ae (aV lK.o); replace oN := ae (aV oN.o); replace nX := ae (aV nX.o); replace HB := ae (di HB.o); have arw : 0 ≤ (bI : Int) := od; have arx : bI < (ay.length : Int) := od; obtain ⟨wI, YV, YW, aho, ahp, aD2, GY, GZ, Lh, Li, abC, abD, abE, abF⟩ := qI nC.o bI arw arx; have abG := Li; have abH := Lh; have abI := GZ; have abJ := GY; cases aD2; replace GY := hxb HB GY; replace GZ := hxb HB GZ; replace Lh := hxb HB Lh; replace Li := hxb HB Li; have abK := ae abD; have akO := ae abC; clear abD abC; have akP := ae abF; have aAZ := ae abE; clear abF abE; replace arw := eq_true arw; replace arx := eq_true arx; have ary : 0 ≤ (bI : Int) := od; have arz : bI < (ay.length : Int) := od; obtain ⟨axi, aD3, aD4, aD5, aD6, aD7, G5, G6, Lj, Ll, abL, abM, abN, abO⟩ := qI nC.o bI ary arz; have abP := Ll; have abQ := Lj; have abR := G6; have abS := G5; obtain rfl : wI = axi := (by injection aD7); replace G5 := hxb HB G5; replace G6 := hxb HB G6; replace Lj := hxb HB Lj; replace Ll := hxb HB Ll; have akQ := ae abM; have aA0 := ae abL; clear abM abL; have akR := ae abO; have aA1 := ae abN; clear abO abN; replace ary := eq_true ary; replace arz := eq_true arz; have mg := Option.some.inj (GY.symm.trans G5); injection mg with mg wu wy; subst mg; subst wy; clear wu; have mg := Option.some.inj (GZ.symm.trans G6); injection mg with mg wu wy; subst mg; subst wy; clear wu; obtain ⟨arA, arB, axj⟩ := Kd.sK oq.o; (first | subst axj | (injection axj with uj AO uk; have AP := uj.symm; have AQ := uk.symm; clear uj AO uk; subst AP; subst AQ)); obtain ⟨FX, FY, akC⟩ := Kd.sK ou.o; (first | subst akC | (injection akC with uj AO uk; have AP := uj.symm; have AQ := uk.symm; clear uj AO uk; subst AP; subst AQ)); refine ji (n := 15) (S := fun w' => w'.cell? ⟨o9, 0, none⟩ = some (.slice arA qC.length arB) ∧ w'.cell? ⟨o9, 1, none⟩ = some (.bool qD) ∧ w'.cell? ⟨o9, 2, none⟩ = some (.int .i64 qE) ∧ w'.cell? ⟨o9, 3, none⟩ = some (.slice FX qF.length FY) ∧ w'.cell? ⟨tK, 0, none⟩ = some (.int .i64 aU) ∧ w'.cell? ⟨tK, 1, none⟩ = some (.slice (some wI) ay.length dh) ∧ w'.cell? ⟨tK, 2, none⟩ = some (.slice eO aH.length dS) ∧ w'.cell? ⟨tK, 3, none⟩ = some (.int .i64 bq) ∧ w'.cell? ⟨tK, 4, none⟩ = some (.slice eu aM.length dW) ∧ w'.cell? ⟨tK, 5, none⟩ = some (.slice eD aN.length ed) ∧ w'.cell? (wI.add ((bI).toNat * 4)) = some (.slice YV ((ax ay bI).f0).length YW) ∧ w'.cell? ⟨(wI.add ((bI).toNat * 4)).block, (wI.add ((bI).toNat * 4)).off + 1, none⟩ = some (.slice aho ((ax ay bI).f1).length ahp) ∧ w'.cell? ⟨(wI.add ((bI).toNat * 4)).block, (wI.add ((bI).toNat * 4)).off + 2, none⟩ = some (.int .i64 ((ax ay bI).f2)) ∧ w'.cell? ⟨(wI.add ((bI).toNat * 4)).block, (wI.add ((bI).toNat * 4)).off + 3, none⟩ = some (.int .i64 ((ax ay bI).f3)) ∧ w'.cell? (wI.add ((bI).toNat * 4)) = some (.slice YV ((ax ay bI).f0).length YW) ∧ w'.cell? ⟨(wI.add ((bI).toNat * 4)).block, (wI.add ((bI).toNat * 4)).off + 1, none⟩ = some (.slice aho ((ax ay bI).f1).length ahp) ∧ w'.cell? ⟨(wI.add ((bI).toNat * 4)).block, (wI.add ((bI).toNat * 4)).off + 2, none⟩ = some (.int .i64 ((ax ay bI).f2)) ∧ w'.cell? ⟨(wI.add ((bI).toNat * 4)).block, (wI.add ((bI).toNat * 4)).off + 3, none⟩ = some (.int .i64 ((ax ay bI).f3))) (ds := [14]) (tf 0 15) (by kernel_rfl) rfl rfl (aT nX.o (a_ lK.o ⟨(hxb HB abJ :), (hxb HB abI :), (hxb HB abH :), (hxb HB abG :), (hxb HB abS :), (hxb HB abR :), (hxb HB abQ :), (hxb HB abP :)⟩)) (fun hHeld => ?_); refine eZ fI.ahn fI.VO (fun aG fH => ?_); generalize wr.drew = w17 at oq ou lK oN nX HB abK akP akQ akR GY GZ Lh Li G5 G6 Lj Ll hHeld ⊢; refine gY aG 1 (some 17) (tb 15 2) (h := ?_); refine gY aG 3 (some 19) (tb 15 10) (h := ?_); refine gY aG 7 (some 23) (tb 15 138) (h := ?_); refine gY aG 9 (some 25) (tb 15 650) (h := ?_); refine mG aG fH hHeld 0 (some 16) (tb 15 651) (h := ?_); refine mG aG fH hHeld 2 (some 18) (tb 15 655) (h := ?_); refine gY aG 4 (some 20) (tb 15 671) (h := ?_); refine gY aG 5 (some 21) (tb 15 703) (h := ?_); refine mG aG fH hHeld 6 (some 22) (tb 15 767) (h := ?_); refine mG aG fH hHeld 8 (some 24) (tf 10 5) (h := ?_); iterate 2 (refine bF aG (h := ?_))
      refine gI aG fH hHeld (h := ?_); refine ny (i := 13) (N := some 29) (tf 14 1) rfl rfl (fZ aG.o (by kernel_rfl)) (by decide) (fun K hK => ?_); refine EZ Try.func39 #[.agg #[.slice arA qC.length arB, .bool qD, .int .i64 qE, .slice FX qF.length FY], .slice YV ((ax ay bI).f0).length YW, .int .i64 ((ax ay bI).f2)] (h := ?_); with_reducible refine (bz.calls k1 (fun k_ => (k_ ≠ tK ∧ (k_ ≠ tL ∧ k_ ≠ o9))) _ _ qC qD qE (fun k_ => (k_ ≠ tK ∧ (k_ ≠ tL ∧ k_ ≠ o9))) _ _ qF (fun k_ => k_ < w.heap.size) _ _ ((ax ay bI).f0) ((ax ay bI).f2) aru axg axh arv _ ?aI ?aJ ?bL A13.o).mono ?_
      (case aI => exact oq.o); (case aJ => exact ou.o); (case bL => exact Kd.sw akO.o (Kd.Dl (Kd.C_F (Kd.MC .u8) abK.o) bG)); rintro e w20 ⟨v358, v363, rfl, ho0, ho1, hb⟩; refine ⟨_, rfl, ?_⟩; have aoa := ae (Kd.Dm (Kd.aC (ok' := fun k_ => k_ ≠ tK ∧ k_ ≠ tL ∧ k_ ≠ o9) ho0 (fun k_ yh => ⟨Or.elim yh (fun hs_ => Or.elim hs_ (fun hs_ => hs_.1) (fun hs_ => Or.elim hs_ (fun hs_ => hs_.1) (fun hs_ => fun e_ => Nat.not_le.2 hs_ (by rw [e_]; exact VQ.o)))) (fun wz => (Kd.fU (gu lK) k_ wz)), Or.elim yh (fun hs_ => Or.elim hs_ (fun hs_ => hs_.2.1) (fun hs_ => Or.elim hs_ (fun hs_ => hs_.2.1) (fun hs_ => fun e_ => Nat.not_le.2 hs_ (by rw [e_]; exact VR.o)))) (fun wz => (Kd.fU (gu oN) k_ wz)), Or.elim yh (fun hs_ => Or.elim hs_ (fun hs_ => hs_.2.2) (fun hs_ => Or.elim hs_ (fun hs_ => hs_.2.2) (fun hs_ => fun e_ => Nat.not_le.2 hs_ (by rw [e_]; exact VS.o)))) (fun wz => (Kd.fU (gu nX) k_ wz))⟩)) (af bG)); have aob := ae (Kd.Dm (Kd.aC (ok' := fun k_ => k_ ≠ tK ∧ k_ ≠ tL ∧ k_ ≠ o9) ho1 (fun k_ yh => ⟨Or.elim yh (fun hs_ => Or.elim hs_ (fun hs_ => hs_.1) (fun hs_ => Or.elim hs_ (fun hs_ => hs_.1) (fun hs_ => fun e_ => Nat.not_le.2 hs_ (by rw [e_]; exact VQ.o)))) (fun wz => (Kd.fU (gu lK) k_ wz)), Or.elim yh (fun hs_ => Or.elim hs_ (fun hs_ => hs_.2.1) (fun hs_ => Or.elim hs_ (fun hs_ => hs_.2.1) (fun hs_ => fun e_ => Nat.not_le.2 hs_ (by rw [e_]; exact VR.o)))) (fun wz => (Kd.fU (gu oN) k_ wz)), Or.elim yh (fun hs_ => Or.elim hs_ (fun hs_ => hs_.2.2) (fun hs_ => Or.elim hs_ (fun hs_ => hs_.2.2) (fun hs_ => fun e_ => Nat.not_le.2 hs_ (by rw [e_]; exact VS.o)))) (fun wz => (Kd.fU (gu nX) k_ wz))⟩)) (af bG)); replace oq := ae (vbl oq hb); replace ou := ae (vbl ou hb); replace lK := ae (fo lK hb); replace oN := ae (fo oN hb); replace nX := ae (fo nX hb); replace HB := eU hb; clear hb ho0 ho1; obtain ⟨aD8, aD9, axk⟩ := Kd.sK aoa.o; (first | subst axk | (injection axk with uj AO uk; have AP := uj.symm; have AQ := uk.symm; clear uj AO uk; subst AP; subst AQ)); obtain ⟨aD_, aD', axl⟩ := Kd.sK aob.o; (first | subst axl | (injection axl with uj AO uk; have AP := uj.symm; have AQ := uk.symm; clear uj AO uk; subst AP; subst AQ)); refine hK.out _ _ (aT nX.o (a_ lK.o ⟨(hxb HB abJ :), (hxb HB abI :), (hxb HB abH :), (hxb HB abG :), (hxb HB abS :), (hxb HB abR :), (hxb HB abQ :), (hxb HB abP :)⟩)) (fun hHeld => ?_); clear hK K; refine mo (some 29) (h := ?_); refine PO (i := 14) (N := none) (tf 15 0) rfl rfl (fZ aG.o (by kernel_rfl)) (by decide) (fun K hK => ?_); have hs22 : w20.cell? ⟨o9, 0, none⟩ = some (.slice arA qC.length arB) := (aY nX.o 0).trans rfl; have aI' := fC nX.o 0; have aA2 := o_.o; have aA3 := rM.o; have aA4 := rJ.o; have aA5 := vE.o; have hs23 : w20.cell? ⟨o9, 1, none⟩ = some (.bool qD) := (aY nX.o 1).trans rfl; have aJa := fC nX.o 1; have aA6 := o_.o; have aA7 := rM.o; have aA8 := rJ.o; have aA9 := vE.o; have hs24 : w20.cell? ⟨o9, 2, none⟩ = some (.int .i64 qE) := (aY nX.o 2).trans rfl; have aJb := fC nX.o 2; have aA_ := o_.o; have aA' := rM.o; have aBa := rJ.o; have aBb := vE.o; have hs26 : w20.cell? ⟨o9, 3, none⟩ = some (.slice FX qF.length FY) := (aY nX.o 3).trans rfl; have aJc := fC nX.o 3; have aBc := o_.o; have aBd := rM.o; have aBe := rJ.o; have aBf := vE.o; refine Kl (w1 := ?_) (by rfl) rfl ?_ ?_; rotate_left
      ·go_simp
       rfl
      refine hK.out _ _ ?_; clear hK K; refine fu (bV aG.o (by kernel_rfl)) ?_; try go_wp2
      go_roundg k1
      case measure => have := nK.o; omega
      case rel => exact ⟨(wrap64 (bI + 1)), (aru), (axg), (axh), (arv), (.slice aD8 aru.length aD9), (.slice aD_ arv.length aD'), ky, H', ⟨by have := nK.o; omega⟩, ⟨by (with_reducible repeat (first | apply Kd.dC | apply Kd.dD | apply Kd.bM)); exact Kd.aC (Kd.iG (q := o9) (Kd.aC aoa.o (fun k_ hk => (⟨hk, hk.2.2⟩ : _ ∧ k_ ≠ o9))) (fun _ hk => hk.2)) (fun _ hk => ⟨hk.1.1, ⟨hk.1.2.1, hk.1.2.2⟩⟩)⟩, ⟨by (with_reducible repeat (first | apply Kd.dC | apply Kd.dD | apply Kd.bM)); exact Kd.aC (Kd.iG (q := o9) (Kd.aC aob.o (fun k_ hk => (⟨hk, hk.2.2⟩ : _ ∧ k_ ≠ o9))) (fun _ hk => hk.2)) (fun _ hk => ⟨hk.1.1, ⟨hk.1.2.1, hk.1.2.2⟩⟩)⟩, ⟨oo⟩, ⟨oo⟩, ⟨oo⟩, ⟨bG⟩⟩
     rw [if_neg c12] at H; exact absurd H (by simp)
    rw [if_neg c11] at H; have KG : decide (bI < (ay.length : Int)) = false := decide_eq_false c11; clear c11; replace H := ni H; obtain ⟨⟨axm, axn, axo, axp⟩, A27, H⟩ := H; dsimp only at H; simp only [Option.some.injEq, Prod.mk.injEq] at H; obtain ⟨rfl, rfl, rfl, rfl⟩ := H; have axq := vD.o; have axr := Ad.o; have aJd := o_.o; have aJe := rJ.o; have C30 := a_ lK.o trivial; have F30 := dA lK.o; have afW := vE.o; have afX := rM.o; have C32 := aT nX.o trivial; have F32 := dK nX.o; obtain ⟨axs, axt, aEa⟩ := Kd.sK oq.o; subst aEa; obtain ⟨YX, uT, arC⟩ := Kd.sK ou.o; subst arC; go_wp2_with (first | ((with_reducible refine au (f := 40) rfl ?_); refine jG (some 31) Try.func40 #[.agg #[.slice axs qC.length axt, .bool qD, .int .i64 qE, .slice YX qF.length uT]] (h := ?_); (with_reducible refine (dO.calls k1 _ _ qC qD qE _ _ qF axm axn axo axp _ ?aI ?aJ ?bL ?bN A27.o).mono ?_); (case aI => repeat (first | exact (Kd.bE oq.o).2.2 | (with_reducible refine Kd.cB ?_ _) | (with_reducible refine Kd.bO ?_ _) | (with_reducible refine Kd.dH ?_))); (case aJ => exact (Kd.bE oq.o).2.1); (case bL => repeat (first | exact (Kd.bE ou.o).2.2 | (with_reducible refine Kd.cB ?_ _) | (with_reducible refine Kd.bO ?_ _) | (with_reducible refine Kd.dH ?_))); (case bN => exact (Kd.bE ou.o).2.1); rintro e w35 ⟨v366, v371, rfl, ho0, ho1, hb⟩; refine ⟨_, rfl, ?_⟩; have aoc := ae (Kd.iE ho0 (af bG)); have aod := ae (Kd.iE (Kd.ML (Kd.ML ho1 (g := tL) (o := .cells #[.slice none 0 0, .bool false, .int .i64 0, .slice none 0 0] 46 (0, 0)) (gu oN)) (g := o9) (o := .cells #[.slice axs qC.length axt, .bool qD, .int .i64 qE, .slice YX qF.length uT] 46 (0, 0)) (gu nX)) (af bG)); replace oq := ae (Kd.aC (Kd.lM (Kd.lM (Kd.y9 (iB oq) hb) (Kd.jT ho0)) (Kd.jT ho1)) (fun _ h_ => h_.1)); replace ou := ae (Kd.aC (Kd.lM (Kd.lM (Kd.y9 (iB ou) hb) (Kd.jT ho0)) (Kd.jT ho1)) (fun _ h_ => h_.1)); replace lK := ae (fo lK hb); replace oN := ae (fo oN hb); replace nX := ae (fo nX hb); replace HB := eU hb; clear hb ho0 ho1; obtain ⟨aEb, aEc, aEd⟩ := Kd.eB aoc.o; subst aEd; have C37 := aT oN.o trivial; have F37 := dK oN.o; obtain ⟨aEe, aEf, aEg⟩ := Kd.eB aod.o; subst aEg))
    refine bodyPost_ret (results_cell_row rfl _ _ tL 46 #[.slice aEb axm.length aEc, .bool axn, .int .i64 axo, .slice aEe axp.length aEf] (0, 0) _ rfl (oo) Try.underlying46 rfl (by kernel_rfl)) rfl ?_; exact ⟨_, _, ku, by (with_reducible repeat (first | apply Kd.iN | apply Kd.iO | apply Kd.iQ)); exact Kd.dF (Kd.vZ (q := tL) (Kd.iP aoc.o oN.o (by decide)) (fun _ hk => hk.2)) (fun _ hk => trivial), by (with_reducible repeat (first | apply Kd.iN | apply Kd.iO | apply Kd.iQ)); exact Kd.dF (Kd.vZ (q := tL) (Kd.dF aod.o (fun k_ hk => (⟨hk, hk.1.2⟩ : _ ∧ k_ ≠ tL))) (fun _ hk => hk.2)) (fun _ hk => hk.1.1.1), bG⟩
 replace c3 := Bool.eq_false_iff.mpr c3; subst c3; rw [if_neg (show ¬ (false = true) by decide)] at H; simp only [Option.some.injEq, Prod.mk.injEq] at H; obtain ⟨rfl, rfl, rfl, rfl⟩ := H; go_enter Try.func14, Try.ntmps14; go_wp2_with (first | ((with_reducible refine aD (N := 1) rfl ?_); refine je 1 #[.int .i64 aU, .slice dB ay.length dh, .slice eO aH.length dS, .int .i64 bq, .slice eu aM.length dW, .slice eD aN.length ed] 37 (h := ?_); intro tK hg w39 hbox hb; have lK := ae (hbox); have VQ := ae ((by rw [hg]; exact (af bG) : w.heap.size ≤ tK)); have axd := VQ; replace HB := eU hb; clear hb hbox hg) | ((with_reducible refine aD (N := 2) rfl ?_); refine je 2 #[.slice none 0 0, .bool false, .int .i64 0, .slice none 0 0] 46 (h := ?_); intro tL hg w40 hbox hb; have oN := ae (hbox); have VR := ae ((by rw [hg]; exact (af bG) : w.heap.size ≤ tL)); have axe := VR; have vD := ae ((by rw [hg]; exact Nat.ne_of_lt (blt lK) : tK ≠ tL)); have Ad := ae vD.o.symm; replace lK := ae (fo lK hb); replace HB := eU hb; clear hb hbox hg) | ((with_reducible refine aD (N := 3) rfl ?_); refine je 3 #[.slice none 0 0, .bool false, .int .i64 0, .slice none 0 0] 46 (h := ?_); intro o9 hg w41 hbox hb; have nX := ae (hbox); have VS := ae ((by rw [hg]; exact (af bG) : w.heap.size ≤ o9)); have axf := VS; have o_ := ae ((by rw [hg]; exact Nat.ne_of_lt (blt lK) : tK ≠ o9)); have rJ := ae o_.o.symm; have rM := ae ((by rw [hg]; exact Nat.ne_of_lt (blt oN) : tL ≠ o9)); have vE := ae rM.o.symm; replace lK := ae (fo lK hb); replace oN := ae (fo oN hb); replace HB := eU hb; clear hb hbox hg; have aJf := vD.o; have aJg := Ad.o; have aJh := o_.o; have aJi := rJ.o; have C44 := a_ lK.o trivial; have F44 := dA lK.o) | ((with_reducible refine au (f := 23) rfl ?_); refine jG (some 6) Try.func23 #[.agg #[.int .i64 aU, .slice dB ay.length dh, .slice eO aH.length dS, .int .i64 bq, .slice eu aM.length dW, .slice eD aN.length ed]] (h := ?_); (with_reducible refine (aj.calls k aU _ _ ay _ _ aH bq _ _ aM _ _ aN false _ ?aI ?aJ ?bL ?bN ?iq ?iw ?jg ?jh A2.o).mono ?_); (case aI => exact fT); (case aJ => exact iM.o); (case bL => exact fT); (case bN => exact j5.o); (case iq => exact fT); (case iw => exact kQ.o); (case jg => exact fT); (case jh => exact lH.o); rintro e w45 ⟨rfl, hb⟩; refine ⟨_, rfl, ?_⟩; replace lK := ae (fo lK hb); replace oN := ae (fo oN hb); replace nX := ae (fo nX hb); replace HB := eU hb; clear hb; have aJj := vE.o; have aJk := rM.o; have C47 := aT nX.o trivial; have F47 := dK nX.o; have C48 := aT oN.o trivial; have F48 := dK oN.o))
 refine bodyPost_ret (results_cell_row rfl _ _ tL 46 #[.slice none 0 0, .bool false, .int .i64 0, .slice none 0 0] (0, 0) _ rfl (oo) Try.underlying46 rfl (by kernel_rfl)) rfl ?_; exact ⟨_, _, ku, by first | exact Kd.vR _ _ _ _ _ | exact Kd.Ef _ _ _ _ _ | exact Kd.BF _ _ _ _ _ | exact Kd.Ea _ _ _ _ _ | exact Kd.Ed _ _ _ _ _, by first | exact Kd.vR _ _ _ _ _ | exact Kd.Ef _ _ _ _ _ | exact Kd.BF _ _ _ _ _ | exact Kd.Ea _ _ _ _ _ | exact Kd.Ed _ _ _ _ _, bG⟩
def dw.f (a0 : Int) (a1 : Int) (a2 : Int) : Option (Bool) := if a1 ≤ a0 then (some (decide (a0 ≤ a2))) else (some false)
set_option maxHeartbeats 8000000 in
set_option maxRecDepth 100000 in
theorem dw.calls (a0 : Int) (a1 : Int) (a2 : Int) (r : Bool) (w : World) (h : dw.f a0 a1 a2 = some r) :
  Calls Try.prog 60 #[.int .i64 a0, .int .i64 a1, .int .i64 a2] w fun e w' => e = .returned (.bool r) ∧ bC w w' := by
 rw [dw.f] at h; have H := h; clear h; by_cases c4 : a1 ≤ a0
 ·rw [if_pos c4] at H
  have mF : decide (a1 ≤ a0) = true := decide_eq_true c4; clear c4; obtain rfl := Option.some.inj H; go_enter Try.func60, Try.ntmps60; go_wp2; go_ret; exact ⟨by first | rfl | (simp; done) | (simp [*]; done), by repeat (first | exact bC.refl _ | apply bC.step)⟩
 rw [if_neg c4] at H; have mF : decide (a1 ≤ a0) = false := decide_eq_false c4; clear c4; obtain rfl := Option.some.inj H; go_enter Try.func60, Try.ntmps60; go_wp2; go_ret; exact ⟨by first | rfl | (simp; done) | (simp [*]; done), by repeat (first | exact bC.refl _ | apply bC.step)⟩
def gL.l0 : Nat → List Int → List Int → Int → Int → Option (Bool)
 | 0, _, _, _, _ => none
 | k + 1, x0, x5, x6, x7 => if x7 < x6 then (if 0 ≤ x7 then (if x7 < (x5.length : Int) then (if (rd x5 x7) < 97 then (if (rd x5 x7) = 47 then (gL.l0 k x0 x5 x6 (wrap64 (x7 + 1))) else (some false)) else (if (rd x5 x7) > 122 then (if (rd x5 x7) = 47 then (gL.l0 k x0 x5 x6 (wrap64 (x7 + 1))) else (some false)) else (gL.l0 k x0 x5 x6 (wrap64 (x7 + 1))))) else (none)) else (none)) else ((dw.f (x0.length : Int) 1 20).bind fun arD => (some arD))
def gL.f (k : Nat) (l0 : List Int) : Option (Bool) := gL.l0 k l0 l0 (l0.length : Int) 0
set_option maxHeartbeats 8000000 in
set_option maxRecDepth 100000 in
theorem gL.calls (k : Nat) (A0 : Option Addr) (c0 : Nat) (l0 : List Int) (r : Bool) (w : World) (hr0 : Kd.C (Kd.int .u8) w A0 l0.length l0) (hc0 : l0.length ≤ c0) (h : gL.f k l0 = some r) :
  Calls Try.prog 61 #[.slice A0 l0.length c0] w fun e w' => e = .returned (.bool r) ∧ bC w w' := by
 have mV := ae hr0; have Jn := ae hc0; clear hr0 hc0; rw [gL.f] at h; have H := h; clear h; have H' := ae H; clear H; go_enter Try.func61, Try.ntmps61; go_wp2; go_loopg [7] k (fun kq v7 w' => ∃ (oK : Int), v7 = .int .i64 oK ∧ ai (gL.l0 kq l0 l0 (l0.length : Int) oK = some r) ∧ ai (kq ≤ k) ∧ bC w w')
 case atStart => exact ⟨(0), ky, H', ⟨Nat.le_refl _⟩, by repeat (first | exact bC.refl _ | apply bC.step)⟩
 case round =>
  clear H'; obtain ⟨oK, rfl, HA, nK, ⟨m1, rfl⟩⟩ := hrel; cases gk with
  | zero => exact absurd HA.o (by simp [gL.l0])
  | succ k1 =>
   have H := HA.o; clear HA; simp only [gL.l0] at H; by_cases c2 : oK < (l0.length : Int)
   ·rw [if_pos c2] at H
    have JG : decide (oK < (l0.length : Int)) = true := decide_eq_true c2; clear c2; by_cases c3 : 0 ≤ oK
    ·rw [if_pos c3] at H
     have jP : decide (0 ≤ oK) = true := decide_eq_true c3; clear c3; by_cases c4 : oK < (l0.length : Int)
     ·rw [if_pos c4] at H
      have mF : decide (oK < (l0.length : Int)) = true := decide_eq_true c4; clear c4; by_cases c5 : (rd l0 oK) < 97
      ·rw [if_pos c5] at H
       have wo : decide ((rd l0 oK) < 97) = true := decide_eq_true c5; clear c5; by_cases c6 : (rd l0 oK) = 47
       ·rw [if_pos c6] at H
        have o6 : ((rd l0 oK) == 47) = true := beq_iff_eq.mpr c6; have Cx : ((rd l0 oK) != 47) = false := bne_eq_false_iff_eq.mpr c6; clear c6; have H' := ae H; clear H; have AR : 0 ≤ (oK : Int) := od; have AU : oK < (l0.length : Int) := od; obtain ⟨abT, RA, Lm⟩ := Kd.gK mV.o oK AR AU; cases RA; replace AR := eq_true AR; replace AU := eq_true AU; go_wp2; go_roundg k1
        case measure => have := nK.o; omega
        case rel => exact ⟨(wrap64 (oK + 1)), ky, H', ⟨by have := nK.o; omega⟩, by repeat (first | exact bC.refl _ | apply bC.step)⟩
       rw [if_neg c6] at H; have o6 : ((rd l0 oK) == 47) = false := beq_eq_false_iff_ne.mpr c6; have Cx : ((rd l0 oK) != 47) = true := bne_iff_ne.mpr c6; obtain rfl := Option.some.inj H; have AR : 0 ≤ (oK : Int) := od; have AU : oK < (l0.length : Int) := od; obtain ⟨abT, RA, Lm⟩ := Kd.gK mV.o oK AR AU; cases RA; replace AR := eq_true AR; replace AU := eq_true AU; go_wp2; go_ret; exact ⟨by first | rfl | (simp; done) | (simp [*]; done), by repeat (first | exact bC.refl _ | apply bC.step)⟩
      rw [if_neg c5] at H; have wo : decide ((rd l0 oK) < 97) = false := decide_eq_false c5; clear c5; by_cases c7 : (rd l0 oK) > 122
      ·rw [if_pos c7] at H
       have zK : decide (122 < (rd l0 oK)) = true := decide_eq_true c7; clear c7; by_cases c8 : (rd l0 oK) = 47
       ·rw [if_pos c8] at H
        have uS : ((rd l0 oK) == 47) = true := beq_iff_eq.mpr c8; have Cs : ((rd l0 oK) != 47) = false := bne_eq_false_iff_eq.mpr c8; clear c8; have H' := ae H; clear H; have AR : 0 ≤ (oK : Int) := od; have AU : oK < (l0.length : Int) := od; obtain ⟨abT, RA, Lm⟩ := Kd.gK mV.o oK AR AU; cases RA; replace AR := eq_true AR; replace AU := eq_true AU; go_wp2; go_roundg k1
        case measure => have := nK.o; omega
        case rel => exact ⟨(wrap64 (oK + 1)), ky, H', ⟨by have := nK.o; omega⟩, by repeat (first | exact bC.refl _ | apply bC.step)⟩
       rw [if_neg c8] at H; have uS : ((rd l0 oK) == 47) = false := beq_eq_false_iff_ne.mpr c8; have Cs : ((rd l0 oK) != 47) = true := bne_iff_ne.mpr c8; obtain rfl := Option.some.inj H; have AR : 0 ≤ (oK : Int) := od; have AU : oK < (l0.length : Int) := od; obtain ⟨abT, RA, Lm⟩ := Kd.gK mV.o oK AR AU; cases RA; replace AR := eq_true AR; replace AU := eq_true AU; go_wp2; go_ret; exact ⟨by first | rfl | (simp; done) | (simp [*]; done), by repeat (first | exact bC.refl _ | apply bC.step)⟩
      rw [if_neg c7] at H; have zK : decide (122 < (rd l0 oK)) = false := decide_eq_false c7; clear c7; have H' := ae H; clear H; have AR : 0 ≤ (oK : Int) := od; have AU : oK < (l0.length : Int) := od; obtain ⟨abT, RA, Lm⟩ := Kd.gK mV.o oK AR AU; cases RA; replace AR := eq_true AR; replace AU := eq_true AU; go_wp2; go_roundg k1
      case measure => have := nK.o; omega
      case rel => exact ⟨(wrap64 (oK + 1)), ky, H', ⟨by have := nK.o; omega⟩, by repeat (first | exact bC.refl _ | apply bC.step)⟩
     rw [if_neg c4] at H; exact absurd H (by simp)
    rw [if_neg c3] at H; exact absurd H (by simp)
   rw [if_neg c2] at H; have JG : decide (oK < (l0.length : Int)) = false := decide_eq_false c2; clear c2; replace H := ni H; obtain ⟨arD, A9, H⟩ := H; obtain rfl := Option.some.inj H; go_wp2_with (first | ((with_reducible refine au (f := 60) rfl ?_); refine jG (some 24) Try.func60 #[.int .i64 (l0.length : Int), .int .i64 1, .int .i64 20] (h := ?_); (with_reducible refine (dw.calls (l0.length : Int) 1 20 arD _ A9.o).mono ?_); rintro e w' ⟨rfl, ⟨nd, rfl⟩⟩; refine ⟨_, rfl, ?_⟩))
   go_ret; exact ⟨by first | rfl | (simp; done) | (simp [*]; done), by repeat (first | exact bC.refl _ | apply bC.step)⟩
def rO.f (l0 : List Int) : Option (Bool) := some (decide ((l0.length : Int) ≤ 20))
set_option maxHeartbeats 8000000 in
set_option maxRecDepth 100000 in
theorem rO.calls (A0 : Option Addr) (c0 : Nat) (l0 : List Int) (r : Bool) (w : World) (hr0 : Kd.C (Kd.int .u8) w A0 l0.length l0) (hc0 : l0.length ≤ c0) (h : rO.f l0 = some r) :
  Calls Try.prog 62 #[.slice A0 l0.length c0] w fun e w' => e = .returned (.bool r) ∧ bC w w' := by
 have mV := ae hr0; have Jn := ae hc0; clear hr0 hc0; rw [rO.f] at h; have H := h; clear h; obtain rfl := Option.some.inj H; go_enter Try.func62, Try.ntmps62; go_wp2; go_ret; exact ⟨by first | rfl | (simp; done) | (simp [*]; done), by repeat (first | exact bC.refl _ | apply bC.step)⟩
def dn.find (id : Int) : List (l7) → Int → Int
 | [], _ => -1
 | x :: xs, i => if x.f0 = id then i else dn.find id xs (i + 1)
def dn.f (aU : Int) (ay : List (kG)) (aH : List (lQ)) (bq : Int) (aM : List (l7)) (aN : List (mE)) (a1 : Int) : Option Int := if aM.length < 140737488355328 then some (dn.find a1 aM 0) else none
set_option maxHeartbeats 4000000 in
theorem dn.pred (id a : Int) (b : Bool) (gb : Nat) (W : World) (hc : W.cell? ⟨gb, 0, none⟩ = some (.int .i64 id)) :
  Calls Try.prog 81 #[.agg #[.int .i64 a, .bool b], .pointer (some ⟨gb, 0, none⟩)] W fun e w' => e = .returned (.bool (decide (a = id))) ∧ Below W.heap.size W w' := by
 have hB : gb < W.heap.size := World.block_lt_of_cell? W _ hc; have hne : gb ≠ W.heap.size := by omega
 have hu := Try.underlying88; go_enter Try.func81, Try.ntmps81; go_wp2; all_goals (go_ret; exact ⟨by first | (simp_all; done) | (simp_all; rfl), (Below.refl _ W).alloc (Nat.le_refl _) _⟩)
set_option maxHeartbeats 8000000 in
set_option maxRecDepth 100000 in
theorem dn.index (A0 : Option Addr) (c0 : Nat) (l0 : List (l7)) (id : Int) (gb : Nat) (w : World) (hr0 : Kd.C BN w A0 l0.length l0) (hl : l0.length < 140737488355328) (hc : w.cell? ⟨gb, 0, none⟩ = some (.int .i64 id)) :
  Calls Try.prog 80 #[.slice A0 l0.length c0, .func (.func 81) #[] #[.pointer (some ⟨gb, 0, none⟩)]] w fun e w' => e = .returned (.int .i64 (dn.find id l0 0)) ∧ Below w.heap.size w w' := by
 have hu := Try.underlying88; have mV := ae hr0; have HC := ae hc; clear hr0 hc
 have eg : ∀ args w, (callFunc 81 args).run Try.prog w = .ok (.enter 81 args) w := by
  intro args w; have h1 : ¬ Try.f81.name = "runtime.NumGoroutine" := by simp [Try.f81]
  obtain ⟨c, hb⟩ : ∃ c, Try.f81.body = some c := ⟨_, rfl⟩; simp [callFunc, Try.func81, h1, hb, mark]
 go_enter Try.func80, Try.ntmps80; go_wp2; go_loopg [5, 8] l0.length (fun gg _ s8 wr => ∃ x : Int, s8 = .int .i64 x ∧ 0 ≤ x ∧ x ≤ (l0.length : Int) ∧ l0.length - x.toNat ≤ gg ∧ Aside (Below w.heap.size w wr) ∧ Aside (dn.find id l0 0 = dn.find id (l0.drop x.toNat) x))
 case atStart => exact ⟨0, rfl, by omega, by omega, by omega, Below.refl _ w, rfl⟩
 case round =>
  obtain ⟨x, rfl, hx0, hx1, hg, BW, A⟩ := hrel; by_cases hlt : x < (l0.length : Int)
  ·obtain ⟨ad, e, h0, h1⟩ := qJ (Kd.cz mV.o BW.out) x hx0 hlt
   cases e; have hcall := dn.pred id (bS l0 x).f0 (bS l0 x).f1 gb wr ((BW.out.cell (World.block_lt_of_cell? w _ HC.o)).trans HC.o)
   have hd : l0.drop x.toNat = bS l0 x :: l0.drop (x.toNat + 1) := by
    rw [List.drop_eq_getElem_cons (by omega)]; congr 1; unfold bS; simp [List.getD, show x.toNat < l0.length by omega]
   have HD := ae hd; clear hd; by_cases hq : (bS l0 x).f0 = id
   ·rw [decide_eq_true hq] at hcall
    have HQ := ae hq; clear hq; go_wp2_with (refine hcall.mono ?_; rintro e w' ⟨rfl, hb'⟩)
    go_ret; refine ⟨?_, BW.out.trans (hb'.mono BW.out.size)⟩; rw [A.out, HD.o, dn.find, if_pos HQ.o]; rfl
   rw [decide_eq_false hq] at hcall; have HQ := ae hq; clear hq; go_wp2_with (refine hcall.mono ?_; rintro e w' ⟨rfl, hb'⟩)
   go_roundg (l0.length - (x.toNat + 1))
   case measure => omega
   case rel =>
    have ex : (x + 1).toNat = x.toNat + 1 := by omega
    refine ⟨x + 1, by go_num, by omega, by omega, by omega, BW.out.trans (hb'.mono BW.out.size), ?_⟩; show Aside _; rw [A.out, HD.o, dn.find, if_neg HQ.o, ex]; exact rfl
  have hx : x.toNat = l0.length := by omega
  go_wp2; go_ret; refine ⟨?_, BW.out⟩; rw [A.out, hx, List.drop_length, dn.find]; rfl
set_option maxHeartbeats 8000000 in
set_option maxRecDepth 100000 in
theorem dn.calls (aU : Int) (dB : Option Addr) (dh : Nat) (ay : List (kG)) (eO : Option Addr) (dS : Nat) (aH : List (lQ)) (bq : Int) (eu : Option Addr) (dW : Nat) (aM : List (l7)) (eD : Option Addr) (ed : Nat) (aN : List (mE)) (a1 : Int) (r : Int) (w : World) (jw : Kd.C ym w dB ay.length ay) (jy : ay.length ≤ dh) (kN : Kd.C BM w eO aH.length aH) (kV : aH.length ≤ dS) (kP : Kd.C BN w eu aM.length aM) (kW : aM.length ≤ dW) (kX : Kd.C Av w eD aN.length aN) (kY : aN.length ≤ ed) (h : dn.f aU ay aH bq aM aN a1 = some r) :
  Calls Try.prog 63 #[.agg #[.int .i64 aU, .slice dB ay.length dh, .slice eO aH.length dS, .int .i64 bq, .slice eu aM.length dW, .slice eD aN.length ed], .int .i64 a1] w fun e w' => e = .returned (.int .i64 r) ∧ Below w.heap.size w w' := by
 unfold dn.f at h; by_cases hl : aM.length < 140737488355328
 ·rw [if_pos hl] at h
  obtain rfl := Option.some.inj h; clear h; have hu := Try.underlying37; have HL := ae hl; have HR := ae kP; clear hl jw jy kN kV kP kW kX kY; have HB := ae (Below.refl w.heap.size w); go_enter Try.func63, Try.ntmps63
  go_wp2_with (first
   | ((with_reducible refine aD (N := 2) rfl ?_); refine je 2 #[.int .i64 aU, .slice dB ay.length dh, .slice eO aH.length dS, .int .i64 bq, .slice eu aM.length dW, .slice eD aN.length ed] 37 (h := ?_); intro Jo hg w1 hbox hb; have E5 := ae (hbox); have GW1 := ae ((by rw [hg]; exact (af bG) : w.heap.size ≤ Jo)); replace HB := eU hb; clear hb hbox hg)
   | ((with_reducible refine aD (N := 3) rfl ?_); refine je 3 #[.int .i64 a1] 3 (h := ?_); intro gb2 hg w2 hbox hb; have BK2 := ae (hbox); replace E5 := ae (fo E5 hb); replace HB := eU hb; clear hb hbox hg; have axu : w2.cell? ⟨Jo, 0, none⟩ = some (.int .i64 aU) := (aY E5.o 0).trans rfl; have axc : w2.cell? ⟨Jo, 1, none⟩ = some (.slice dB ay.length dh) := (aY E5.o 1).trans rfl; have aEi : w2.cell? ⟨Jo, 2, none⟩ = some (.slice eO aH.length dS) := (aY E5.o 2).trans rfl; have aEj : w2.cell? ⟨Jo, 3, none⟩ = some (.int .i64 bq) := (aY E5.o 3).trans rfl; have aEk : w2.cell? ⟨Jo, 4, none⟩ = some (.slice eu aM.length dW) := (aY E5.o 4).trans rfl; have aEl : w2.cell? ⟨Jo, 5, none⟩ = some (.slice eD aN.length ed) := (aY E5.o 5).trans rfl)
   | (go_at_call 80; (refine (dn.index eu dW aM a1 gb2 _ ?s1 ?s2 ?s3).mono ?_); (case s1 => exact (Kd.cz HR.o HB.o)); (case s2 => exact HL.o); (case s3 => exact ((aY BK2.o 0).trans rfl)); rintro e w3 ⟨rfl, hb⟩; replace HB := eU hb; clear hb))
  go_ret; exact ⟨rfl, HB.o⟩
 rw [if_neg hl] at h; exact absurd h (by simp)
def aA.RB (l : List Int) : List UInt8 := l.map fun x => x.toNat.toUInt8
def aA.cmp : List Int → List Int → Int
 | [], [] => 0
 | [], _ :: _ => -1
 | _ :: _, [] => 1
 | x :: xs, y :: ys => if x < y then -1 else if y < x then 1 else aA.cmp xs ys
def aA.f (l0 : List Int) (l1 : List Int) : Option Int := if (∀ x ∈ l0, 0 ≤ x ∧ x ≤ 255) ∧ (∀ x ∈ l1, 0 ≤ x ∧ x ≤ 255) then some (aA.cmp l0 l1) else none
theorem aA.run_loadBytes {P : Program} (w : World) (n : Nat) : ∀ (a : Addr) (l : List Int) (acc : ByteArray), l.length = n → (∀ i, i < n → w.cell? (a.add i) = some (.int .u8 (l.getD i 0))) →
  (Extern.Bytes.loadBytes a n acc).run P w = .ok (⟨acc.data ++ (aA.RB l).toArray⟩) w := by
 induction n with
 | zero =>
  intro a l acc hl _; obtain rfl := List.eq_nil_of_length_eq_zero hl; simp [Extern.Bytes.loadBytes, aA.RB]
 | succ n ih =>
  intro a l acc hl hc; cases l with
  | nil => simp at hl
  | cons x xs =>
   have h0 := hc 0 (by omega); rw [Addr.add_zero'] at h0
   have h := ih (a.add 1) xs (acc.push x.toNat.toUInt8) (by simpa using hl) (fun i hi => by
    have h2 := hc (i + 1) (by omega)
    have e : (a.add 1).add i = a.add (i + 1) := by
     have e2 : (a.add 1).add i = a.add (1 + i) := by first | exact Go.RowKit.add_add _ _ _ | exact Addr.add_add _ _ _ | (unfold Addr.add; split <;> simp_all <;> omega)
     rw [e2, Nat.add_comm]
    rw [e]; simpa using h2)
   simp only [Extern.Bytes.loadBytes, Sem.run_bind, run_load]; simp [h0] at *; rw [h]; simp [aA.RB]
theorem aA.KH {P : Program} {w : World} {A : Option Addr} {c : Nat} {l : List Int} (h : Kd.C (Kd.int .u8) w A l.length l) : (Extern.Bytes.bytesOf (.slice A l.length c)).run P w = .ok ⟨(aA.RB l).toArray⟩ w := by
 cases A with
 | none =>
  have hz : l.length = 0 := by
   rcases Nat.eq_zero_or_pos l.length with h2 | h2
   ·exact h2
   ·obtain ⟨ad, e, _⟩ := h.2.2 h2
    cases e
  obtain rfl := List.eq_nil_of_length_eq_zero hz; simp [Extern.Bytes.bytesOf, aA.RB, ByteArray.empty, ByteArray.emptyWithCapacity]; rfl
 | some ad =>
  have hl := aA.run_loadBytes (P := P) w l.length ad l .empty rfl (fun i hi => by
   obtain ⟨ad', e, hx⟩ := Kd.gK h (i : Int) (by omega) (by omega); cases e; rw [Int.toNat_natCast] at hx; rw [hx]; unfold rd; rw [Int.toNat_natCast])
  simp only [Extern.Bytes.bytesOf]; rw [hl]; simp [ByteArray.empty, ByteArray.emptyWithCapacity]; rfl
theorem aA.cmp_eq : ∀ l0 l1 : List Int, (∀ x ∈ l0, 0 ≤ x ∧ x ≤ 255) → (∀ x ∈ l1, 0 ≤ x ∧ x ≤ 255) → Lib.compareBytes (aA.RB l0) (aA.RB l1) = aA.cmp l0 l1
 | [], [], _, _ => rfl
 | [], _ :: _, _, _ => rfl
 | _ :: _, [], _, _ => rfl
 | x :: xs, y :: ys, h0, h1 => by
  have ih := aA.cmp_eq xs ys (fun z hz => h0 z (List.mem_cons_of_mem _ hz)) (fun z hz => h1 z (List.mem_cons_of_mem _ hz))
  have a := h0 x (List.mem_cons_self ..)
  have b := h1 y (List.mem_cons_self ..)
  have ea : x.toNat.toUInt8.toNat = x.toNat := by
   rw [Nat.toUInt8, UInt8.toNat_ofNat']; omega
  have eb : y.toNat.toUInt8.toNat = y.toNat := by
   rw [Nat.toUInt8, UInt8.toNat_ofNat']; omega
  show (if x.toNat.toUInt8 < y.toNat.toUInt8 then (-1 : Int) else if y.toNat.toUInt8 < x.toNat.toUInt8 then 1 else Lib.compareBytes (aA.RB xs) (aA.RB ys)) = if x < y then -1 else if y < x then 1 else aA.cmp xs ys
  have e1 : x.toNat.toUInt8 < y.toNat.toUInt8 ↔ x < y := by
   rw [UInt8.lt_iff_toNat_lt, ea, eb]; omega
  have e2 : y.toNat.toUInt8 < x.toNat.toUInt8 ↔ y < x := by
   rw [UInt8.lt_iff_toNat_lt, ea, eb]; omega
  simp only [e1, e2, ih]
set_option maxHeartbeats 8000000 in
set_option maxRecDepth 100000 in
theorem aA.calls (A0 : Option Addr) (c0 : Nat) (l0 : List Int) (A1 : Option Addr) (c1 : Nat) (l1 : List Int) (r : Int) (w : World) (hr0 : Kd.C (Kd.int .u8) w A0 l0.length l0) (hc0 : l0.length ≤ c0) (hr1 : Kd.C (Kd.int .u8) w A1 l1.length l1) (hc1 : l1.length ≤ c1) (h : aA.f l0 l1 = some r) :
  Calls Try.prog 64 #[.slice A0 l0.length c0, .slice A1 l1.length c1] w fun e w' => e = .returned (.int .i64 r) ∧ bC w w' := by
 clear hc0 hc1; unfold aA.f at h; by_cases hb : (∀ x ∈ l0, 0 ≤ x ∧ x ≤ 255) ∧ (∀ x ∈ l1, 0 ≤ x ∧ x ≤ 255)
 case neg =>
  rw [if_neg hb] at h; exact absurd h (by simp)
 rw [if_pos hb] at h; obtain rfl := Option.some.inj h; clear h
 have hx : (callFunc 82 #[.slice A0 l0.length c0, .slice A1 l1.length c1]).run Try.prog w = .ok (.value (.int .i64 (aA.cmp l0 l1))) w := by
  rw [run_callFunc_extern (e := Extern.BytealgCompare.compare) Try.func82 (by kernel_rfl) (by rfl) (by kernel_rfl) (by rfl)]
  have hr : (Extern.BytealgCompare.compare #[.slice A0 l0.length c0, .slice A1 l1.length c1]).run Try.prog w = .ok (.int .i64 (aA.cmp l0 l1)) w := by
   change Sem.run _ (do pure (goInt (Extern.BytealgCompare.cmp (← Extern.Bytes.bytesOf (.slice A0 l0.length c0)) (← Extern.Bytes.bytesOf (.slice A1 l1.length c1))))) w = _; simp only [Sem.run_bind, aA.KH hr0, aA.KH hr1, Result.andThen, Sem.run_pure, Lib.cmp_eq, aA.cmp_eq l0 l1 hb.1 hb.2]; rfl
  rw [hr]; rfl
 clear hr0 hr1 hb; generalize aA.cmp l0 l1 = q at hx ⊢; go_enter Try.func64, Try.ntmps64; go_wp2; go_ret; exact ⟨rfl, bC.refl _⟩
def iH.f (bH : List Int) (ay : List Int) (dI : Int) (bq : Int) (l1 : List Int) : Option (Int) := (aA.f bH l1).bind fun arE => (some arE)
set_option maxHeartbeats 8000000 in
set_option maxRecDepth 100000 in
theorem iH.calls (d_ : Option Addr) (dY : Nat) (bH : List Int) (dB : Option Addr) (dh : Nat) (ay : List Int) (dI : Int) (bq : Int) (A1 : Option Addr) (c1 : Nat) (l1 : List Int) (r : Int) (w : World) (nI : Kd.C (Kd.int .u8) w d_ bH.length bH) (nJ : bH.length ≤ dY) (jw : Kd.C (Kd.int .u8) w dB ay.length ay) (jy : ay.length ≤ dh) (hr1 : Kd.C (Kd.int .u8) w A1 l1.length l1) (hc1 : l1.length ≤ c1) (h : iH.f bH ay dI bq l1 = some r) :
  Calls Try.prog 84 #[.agg #[.slice d_ bH.length dY, .slice dB ay.length dh, .int .i64 dI, .int .i64 bq], .slice A1 l1.length c1] w fun e w' => e = .returned (.int .i64 r) ∧ Below w.heap.size w w' := by
 have Vp := Try.underlying70; have BG := ae nI; have mX := ae nJ; clear nI nJ; have nC := ae jw; have iM := ae jy; clear jw jy; have HR1 := ae hr1; have OX := ae hc1; clear hr1 hc1; have HB := ae (Below.refl w.heap.size w); rw [iH.f] at h; have H := h; clear h; replace H := ni H; obtain ⟨arE, A3, H⟩ := H; obtain rfl := Option.some.inj H; go_enter Try.func84, Try.ntmps84; go_wp2_with (first | ((with_reducible refine aD (N := 2) rfl ?_); refine je 2 #[.slice d_ bH.length dY, .slice dB ay.length dh, .int .i64 dI, .int .i64 bq] 70 (h := ?_); intro axv hg w4 hbox hb; have aoe := ae (hbox); have axw := ae ((by rw [hg]; exact (af bG) : w.heap.size ≤ axv)); have aJl := axw; replace HB := eU hb; clear hb hbox hg; have C5 := aT aoe.o trivial; have F5 := dK aoe.o) | ((with_reducible refine au (f := 64) rfl ?_); refine jG (some 8) Try.func64 #[.slice d_ bH.length dY, .slice A1 l1.length c1] (h := ?_); (with_reducible refine (aA.calls _ _ bH _ _ l1 arE _ ?aI ?aJ ?bL ?bN A3.o).mono ?_); (case aI => exact fT); (case aJ => exact mX.o); (case bL => exact fT); (case bN => exact OX.o); rintro e w' ⟨rfl, ⟨nd, rfl⟩⟩; refine ⟨_, rfl, ?_⟩))
 go_ret; exact ⟨ku, bG⟩
end Go.Proofs.Ytmfedjoofnlncaa.PT
