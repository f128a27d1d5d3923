-- Written for this claim by the session's program pp.py, out of the kit's print and the seat's translation.
import Derived.Test.YtmfedjoofnlncaaPTx0
import Derived.Test.YtmfedjoofnlncaaPTx11
namespace Go.Proofs.Ytmfedjoofnlncaa.PT
open Go.RowKit Go.Proofs.YtmfedjoofnlncaaW.PrintWords Go.Proofs.YtmfedjoofnlncaaW.PrintLast Go.Proofs.YtmfedjoofnlncaaW.PrintMore
attribute [local go_sem] kR kS nk nu jM jN kT kU   -- for this text's walks alone
set_option linter.unusedVariables false
set_option linter.unusedSimpArgs false
def eT.l0 : Nat → List (kG) → List Int → Int → Int → Int → Option (Int × Bool)
 | 0, _, _, _, _, _ => none
 | k + 1, x0, x1, x8, x9, OY => if x9 < OY then (if 0 ≤ (wrap64 ((IntKind.u64.wrap (wrap64 (x9 + OY))) / 2)) then (if (wrap64 ((IntKind.u64.wrap (wrap64 (x9 + OY))) / 2)) < (x0.length : Int) then ((iH.f ((ax x0 (wrap64 ((IntKind.u64.wrap (wrap64 (x9 + OY))) / 2))).f0) ((ax x0 (wrap64 ((IntKind.u64.wrap (wrap64 (x9 + OY))) / 2))).f1) ((ax x0 (wrap64 ((IntKind.u64.wrap (wrap64 (x9 + OY))) / 2))).f2) ((ax x0 (wrap64 ((IntKind.u64.wrap (wrap64 (x9 + OY))) / 2))).f3) x1).bind fun TG => (if TG < 0 then (eT.l0 k x0 x1 x8 (wrap64 ((wrap64 ((IntKind.u64.wrap (wrap64 (x9 + OY))) / 2)) + 1)) OY) else (eT.l0 k x0 x1 x8 x9 (wrap64 ((IntKind.u64.wrap (wrap64 (x9 + OY))) / 2))))) else (none)) else (none)) else (if x9 < x8 then (if 0 ≤ x9 then (if x9 < (x0.length : Int) then ((iH.f ((ax x0 x9).f0) ((ax x0 x9).f1) ((ax x0 x9).f2) ((ax x0 x9).f3) x1).bind fun atC => (some (x9, (atC == 0)))) else (none)) else (none)) else (some (x9, false)))
def eT.f (k : Nat) (l0 : List (kG)) (l1 : List Int) (a2 : Unit) : Option (Int × Bool) := eT.l0 k l0 l1 (l0.length : Int) 0 (l0.length : Int)
set_option maxHeartbeats 8000000 in
set_option maxRecDepth 100000 in
theorem eT.calls (k : Nat) (A0 : Option Addr) (c0 : Nat) (l0 : List (kG)) (A1 : Option Addr) (c1 : Nat) (l1 : List Int) (a2 : Unit) (r1 : Int) (r2 : Bool) (w : World) (hr0 : Kd.C ym w A0 l0.length l0) (hc0 : l0.length ≤ c0) (hr1 : Kd.C (Kd.int .u8) w A1 l1.length l1) (hc1 : l1.length ≤ c1) (h : eT.f k l0 l1 a2 = some (r1, r2)) :
  Calls Try.prog 83 #[.slice A0 l0.length c0, .slice A1 l1.length c1, .func (.func 84) #[] #[]] w fun e w' => e = .returned (.tuple #[.int .i64 r1, .bool r2]) ∧ Below w.heap.size w w' := by
 have Vp := Try.underlying70; have mV := ae hr0; have Jn := ae hc0; clear hr0 hc0; have HR1 := ae hr1; have OX := ae hc1; clear hr1 hc1; have HB := ae (Below.refl w.heap.size w); rw [eT.f] at h; have H := h; clear h; have H' := ae H; clear H; go_enter Try.func83, Try.ntmps83; go_wp2; go_loopg [9, 10] k (fun kq v9 v10 w' => ∃ (xQ : Int) (mD : Int), v9 = .int .i64 xQ ∧ v10 = .int .i64 mD ∧ ai (eT.l0 kq l0 l1 (l0.length : Int) xQ mD = some (r1, r2)) ∧ ai (kq ≤ k) ∧ ai (Below w.heap.size w w'))
 case atStart => exact ⟨(0), ((l0.length : Int)), ky, ky, H', ⟨Nat.le_refl _⟩, ⟨bG⟩⟩
 case round =>
  clear H'; try clear c1; try clear p2
  obtain ⟨xQ, mD, rfl, rfl, HA, nK, HB⟩ := hrel; cases gk with
  | zero => exact absurd HA.o (by simp [eT.l0])
  | succ k1 =>
   have H := HA.o; clear HA; simp only [eT.l0] at H; by_cases c4 : xQ < mD
   ·rw [if_pos c4] at H
    have mF : decide (xQ < mD) = true := decide_eq_true c4; clear c4; obtain ⟨BQ, Zy⟩ : ∃ j_ : Int, (wrap64 ((IntKind.u64.wrap (wrap64 (xQ + mD))) / 2)) = j_ := ⟨_, rfl⟩; replace H : (if 0 ≤ (BQ) then (if (BQ) < (l0.length : Int) then ((iH.f ((ax l0 (BQ)).f0) ((ax l0 (BQ)).f1) ((ax l0 (BQ)).f2) ((ax l0 (BQ)).f3) l1).bind fun TG => (if TG < 0 then (eT.l0 k1 l0 l1 (l0.length : Int) (wrap64 ((BQ) + 1)) mD) else (eT.l0 k1 l0 l1 (l0.length : Int) xQ BQ))) else (none)) else (none)) = some (r1, r2) := by first | (rw [Zy] at H; exact H) | (simp only [Zy] at H ⊢; exact H)
    have aKC : (IntKind.i64.wrap ((IntKind.u64.wrap (wrap64 (xQ + mD))) / 2)) = BQ := (nR _).trans Zy; by_cases c6 : 0 ≤ (BQ)
    ·rw [if_pos c6] at H
     have o6 : decide (0 ≤ (BQ)) = true := decide_eq_true c6; clear c6; by_cases c7 : (BQ) < (l0.length : Int)
     ·rw [if_pos c7] at H
      have zK : decide ((BQ) < (l0.length : Int)) = true := decide_eq_true c7; clear c7; replace H := ni H; obtain ⟨TG, A8, H⟩ := H; by_cases c9 : TG < 0
      ·rw [if_pos c9] at H
       have MX : decide (TG < 0) = true := decide_eq_true c9; clear c9; have H' := ae H; clear H; have Zz : 0 ≤ ((BQ) : Int) := od; have ZA : (BQ) < (l0.length : Int) := od; obtain ⟨azZ, ZB, ZC, ZE, ZF, atD, IE, IG, II, IJ, IK, IL, IM, IP⟩ := qI mV.o (BQ) Zz ZA; cases atD; replace IE := hxb HB IE; replace IG := hxb HB IG; replace II := hxb HB II; replace IJ := hxb HB IJ; have amA := ae IL; have TH := ae IK; clear IL IK; have amB := ae IP; have TI := ae IM; clear IP IM; replace Zz := eq_true Zz; replace ZA := eq_true ZA; go_wp2_with (first | ((with_reducible refine aD (N := 30) rfl ?_); refine avQ (some 30) Try.func84 #[.agg #[.slice ZB ((ax l0 (BQ)).f0).length ZC, .slice ZE ((ax l0 (BQ)).f1).length ZF, .int .i64 ((ax l0 (BQ)).f2), .int .i64 ((ax l0 (BQ)).f3)], .slice A1 l1.length c1] (hargs := (by (try simp only [List.map_toArray, List.map_cons, List.map_nil]); first | done | (simp only [Zy]; rfl) | rfl | (simp only [List.length_drop, List.length_take]; rfl))) (h := ?_); (with_reducible refine (iH.calls _ _ ((ax l0 (BQ)).f0) _ _ ((ax l0 (BQ)).f1) ((ax l0 (BQ)).f2) ((ax l0 (BQ)).f3) _ _ l1 TG _ ?aI ?aJ ?bL ?bN ?iq ?iw A8.o).mono ?_); (case aI => exact fT); (case aJ => exact TH.o); (case bL => exact fT); (case bN => exact TI.o); (case iq => exact fT); (case iw => exact OX.o); rintro e Rh ⟨rfl, hb⟩; refine ⟨_, rfl, ?_⟩; replace HB := eU hb; clear hb))
       go_roundg k1
       case measure => have := nK.o; omega
       case rel => exact ⟨(wrap64 ((BQ) + 1)), (mD), (by first | rfl | (simp; done) | (simp only [← Zy] <;> (first | rfl | simp)) | (simp [*]; done)), ky, H', ⟨by have := nK.o; omega⟩, ⟨bG⟩⟩
      rw [if_neg c9] at H; have MX : decide (TG < 0) = false := decide_eq_false c9; clear c9; have H' := ae H; clear H; have Zz : 0 ≤ ((BQ) : Int) := od; have ZA : (BQ) < (l0.length : Int) := od; obtain ⟨azZ, ZB, ZC, ZE, ZF, atD, IE, IG, II, IJ, IK, IL, IM, IP⟩ := qI mV.o (BQ) Zz ZA; cases atD; replace IE := hxb HB IE; replace IG := hxb HB IG; replace II := hxb HB II; replace IJ := hxb HB IJ; have amA := ae IL; have TH := ae IK; clear IL IK; have amB := ae IP; have TI := ae IM; clear IP IM; replace Zz := eq_true Zz; replace ZA := eq_true ZA; go_wp2_with (first | ((with_reducible refine aD (N := 30) rfl ?_); refine avQ (some 30) Try.func84 #[.agg #[.slice ZB ((ax l0 (BQ)).f0).length ZC, .slice ZE ((ax l0 (BQ)).f1).length ZF, .int .i64 ((ax l0 (BQ)).f2), .int .i64 ((ax l0 (BQ)).f3)], .slice A1 l1.length c1] (hargs := (by (try simp only [List.map_toArray, List.map_cons, List.map_nil]); first | done | (simp only [Zy]; rfl) | rfl | (simp only [List.length_drop, List.length_take]; rfl))) (h := ?_); (with_reducible refine (iH.calls _ _ ((ax l0 (BQ)).f0) _ _ ((ax l0 (BQ)).f1) ((ax l0 (BQ)).f2) ((ax l0 (BQ)).f3) _ _ l1 TG _ ?aI ?aJ ?bL ?bN ?iq ?iw A8.o).mono ?_); (case aI => exact fT); (case aJ => exact TH.o); (case bL => exact fT); (case bN => exact TI.o); (case iq => exact fT); (case iw => exact OX.o); rintro e sS ⟨rfl, hb⟩; refine ⟨_, rfl, ?_⟩; replace HB := eU hb; clear hb))
      go_roundg k1
      case measure => have := nK.o; omega
      case rel => exact ⟨(xQ), (BQ), ky, (by first | rfl | (simp; done) | (simp only [← Zy] <;> (first | rfl | simp)) | (simp [*]; done)), H', ⟨by have := nK.o; omega⟩, ⟨bG⟩⟩
     rw [if_neg c7] at H; exact absurd H (by simp)
    rw [if_neg c6] at H; exact absurd H (by simp)
   rw [if_neg c4] at H; have mF : decide (xQ < mD) = false := decide_eq_false c4; clear c4; by_cases c12 : xQ < (l0.length : Int)
   ·rw [if_pos c12] at H
    have wH : decide (xQ < (l0.length : Int)) = true := decide_eq_true c12; clear c12; by_cases c13 : 0 ≤ xQ
    ·rw [if_pos c13] at H
     have WE : decide (0 ≤ xQ) = true := decide_eq_true c13; clear c13; by_cases c14 : xQ < (l0.length : Int)
     ·rw [if_pos c14] at H
      have abV : decide (xQ < (l0.length : Int)) = true := decide_eq_true c14; clear c14; replace H := ni H; obtain ⟨atC, A15, H⟩ := H; simp only [Option.some.injEq, Prod.mk.injEq] at H; obtain ⟨rfl, rfl⟩ := H; have atE : 0 ≤ (xQ : Int) := od; have atF : xQ < (l0.length : Int) := od; obtain ⟨aKD, aGF, aGG, aGH, aGI, aGJ, adi, adj, adk, adl, adm, adn, ado, adp⟩ := qI mV.o xQ atE atF; cases aGJ; replace adi := hxb HB adi; replace adj := hxb HB adj; replace adk := hxb HB adk; replace adl := hxb HB adl; have aCw := ae adn; have amC := ae adm; clear adn adm; have aCx := ae adp; have amD := ae ado; clear adp ado; replace atE := eq_true atE; replace atF := eq_true atF; go_wp2_with (first | (go_at_call 84; (with_reducible refine (iH.calls _ _ ((ax l0 xQ).f0) _ _ ((ax l0 xQ).f1) ((ax l0 xQ).f2) ((ax l0 xQ).f3) _ _ l1 atC _ ?aI ?aJ ?bL ?bN ?iq ?iw A15.o).mono ?_); (case aI => exact fT); (case aJ => exact amC.o); (case bL => exact fT); (case bN => exact amD.o); (case iq => exact fT); (case iw => exact OX.o); rintro e w16 ⟨rfl, hb⟩; replace HB := eU hb; clear hb))
      go_ret2; exact ⟨ku, bG⟩
     rw [if_neg c14] at H; exact absurd H (by simp)
    rw [if_neg c13] at H; exact absurd H (by simp)
   rw [if_neg c12] at H; have wH : decide (xQ < (l0.length : Int)) = false := decide_eq_false c12; clear c12; simp only [Option.some.injEq, Prod.mk.injEq] at H; obtain ⟨rfl, rfl⟩ := H; go_wp2; go_ret2; exact ⟨ku, bG⟩
def jE.f (k : Nat) (aU : Int) (ay : List (kG)) (aH : List (lQ)) (bq : Int) (aM : List (l7)) (aN : List (mE)) (l1 : List Int) : Option (Int × Bool) := (eT.f k ay l1 ()).bind fun aoW => (some (aoW.1, aoW.2))
set_option maxHeartbeats 8000000 in
set_option maxRecDepth 100000 in
theorem jE.calls (k : Nat) (aU : Int) (dB : Option Addr) (dh : Nat) (ay : List (kG)) (eO : Option Addr) (dS : Nat) (aH : List (lQ)) (bq : Int) (eu : Option Addr) (dW : Nat) (aM : List (l7)) (eD : Option Addr) (ed : Nat) (aN : List (mE)) (A1 : Option Addr) (c1 : Nat) (l1 : List Int) (r1 : Int) (r2 : Bool) (w : World) (jw : Kd.C ym w dB ay.length ay) (jy : ay.length ≤ dh) (kN : Kd.C BM w eO aH.length aH) (kV : aH.length ≤ dS) (kP : Kd.C BN w eu aM.length aM) (kW : aM.length ≤ dW) (kX : Kd.C Av w eD aN.length aN) (kY : aN.length ≤ ed) (hr1 : Kd.C (Kd.int .u8) w A1 l1.length l1) (hc1 : l1.length ≤ c1) (h : jE.f k aU ay aH bq aM aN l1 = some (r1, r2)) :
  Calls Try.prog 65 #[.agg #[.int .i64 aU, .slice dB ay.length dh, .slice eO aH.length dS, .int .i64 bq, .slice eu aM.length dW, .slice eD aN.length ed], .slice A1 l1.length c1] w fun e w' => e = .returned (.tuple #[.int .i64 r1, .bool r2]) ∧ Below w.heap.size w w' := by
 have O1 := Try.underlying37; have nC := ae jw; have iM := ae jy; clear jw jy; have oV := ae kN; have j5 := ae kV; clear kN kV; have nQ := ae kP; have kQ := ae kW; clear kP kW; have r_ := ae kX; have lH := ae kY; clear kX kY; have HR1 := ae hr1; have OX := ae hc1; clear hr1 hc1; have HB := ae (Below.refl w.heap.size w); rw [jE.f] at h; have H := h; clear h; replace H := ni H; obtain ⟨⟨aGK, aGL⟩, A3, H⟩ := H; dsimp only at H; simp only [Option.some.injEq, Prod.mk.injEq] at H; obtain ⟨rfl, rfl⟩ := H; go_enter Try.func65, Try.ntmps65; go_wp2_with (first | ((with_reducible refine aD (N := 2) rfl ?_); refine je 2 #[.int .i64 aU, .slice dB ay.length dh, .slice eO aH.length dS, .int .i64 bq, .slice eu aM.length dW, .slice eD aN.length ed] 37 (h := ?_); intro az0 hg w4 hbox hb; have adq := ae (hbox); have az1 := ae ((by rw [hg]; exact (af bG) : w.heap.size ≤ az0)); have aKE := az1; replace HB := eU hb; clear hb hbox hg; have C5 := a_ adq.o trivial; have F5 := dA adq.o) | ((with_reducible refine au (f := 83) rfl ?_); refine jG (some 9) Try.func83 #[.slice dB ay.length dh, .slice A1 l1.length c1, .func (.func 84) #[] #[]] (h := ?_); (with_reducible refine (eT.calls k _ _ ay _ _ l1 () aGK aGL _ ?aI ?aJ ?bL ?bN A3.o).mono ?_); (case aI => exact fT); (case aJ => exact iM.o); (case bL => exact fT); (case bN => exact OX.o); rintro e w6 ⟨rfl, hb⟩; refine ⟨_, rfl, ?_⟩; replace adq := ae (fo adq hb); replace HB := eU hb; clear hb))
 go_ret2; exact ⟨ku, bG⟩
def bytes_Equal.f (l0 : List Int) (l1 : List Int) : Option (Bool) := some ((strOfNums l0).toList == (strOfNums l1).toList)
set_option maxHeartbeats 8000000 in
set_option maxRecDepth 100000 in
theorem bytes_Equal.calls (A0 : Option Addr) (c0 : Nat) (l0 : List Int) (A1 : Option Addr) (c1 : Nat) (l1 : List Int) (r : Bool) (w : World) (hr0 : Kd.C (Kd.int .u8) w A0 l0.length l0) (hc0 : l0.length ≤ c0) (hr1 : Kd.C (Kd.int .u8) w A1 l1.length l1) (hc1 : l1.length ≤ c1) (h : bytes_Equal.f l0 l1 = some r) :
  Calls Try.prog 87 #[.slice A0 l0.length c0, .slice A1 l1.length c1] w fun e w' => e = .returned (.bool r) ∧ bC w w' := by
 have mV := ae hr0; have Jn := ae hc0; clear hr0 hc0; have HR1 := ae hr1; have OX := ae hc1; clear hr1 hc1; rw [bytes_Equal.f] at h; have H := h; clear h; obtain rfl := Option.some.inj H; have hcv3 := Kd.jq (P := Try.prog) (A := A0) (c := c0) Try.underlying29 Try.underlying5 Try.underlying9 mV.o; have hcw3 := fun Sy : Nat => Kd.jq (P := Try.prog) (A := A0) (c := c0) Try.underlying29 Try.underlying5 Try.underlying9 (Kd.bO mV.o Sy)
 have hcv4 := Kd.jq (P := Try.prog) (A := A1) (c := c1) Try.underlying29 Try.underlying5 Try.underlying9 HR1.o; have hcw4 := fun Sy : Nat => Kd.jq (P := Try.prog) (A := A1) (c := c1) Try.underlying29 Try.underlying5 Try.underlying9 (Kd.bO HR1.o Sy)
 go_enter Try.func87, Try.ntmps87; go_wp2; go_ret; exact ⟨by first | rfl | (simp; done) | (simp [*]; done), by repeat (first | exact bC.refl _ | apply bC.step)⟩
def dM.find (key : List Int) : List (lQ) → Int → Int
 | [], _ => -1
 | x :: xs, i => if ((strOfNums x.f0).toList == (strOfNums key).toList) = true then i else dM.find key xs (i + 1)
def dM.f (aU : Int) (ay : List (kG)) (aH : List (lQ)) (bq : Int) (aM : List (l7)) (aN : List (mE)) (l1 : List Int) : Option Int := if aH.length < 140737488355328 then some (dM.find l1 aH 0) else none
set_option maxHeartbeats 4000000 in
theorem dM.pred (Ak : Option Addr) (ck : Nat) (key : List Int) (Ae : Option Addr) (ce : Nat) (a : List Int) (b : Int) (gb : Nat) (W : World) (hc : W.cell? ⟨gb, 0, none⟩ = some (.slice Ak key.length ck)) (hrk : Kd.C (Kd.int .u8) W Ak key.length key) (hck : key.length ≤ ck) (hre : Kd.C (Kd.int .u8) W Ae a.length a) (hce : a.length ≤ ce) :
  Calls Try.prog 86 #[.agg #[.slice Ae a.length ce, .int .i64 b], .pointer (some ⟨gb, 0, none⟩)] W fun e w' => e = .returned (.bool ((strOfNums a).toList == (strOfNums key).toList)) ∧ Below W.heap.size W w' := by
 have HC := ae hc; have HRK := ae hrk; have HCK := ae hck; have HRE := ae hre; have HCE := ae hce; clear hc hrk hck hre hce; have HB := ae (Below.refl W.heap.size W); have hu := Try.underlying85; go_enter Try.func86, Try.ntmps86; go_wp2_with (first | ((with_reducible refine aD (N := 2) rfl ?_); refine je 2 #[.slice Ae a.length ce, .int .i64 b] 85 (h := ?_); intro Jo hg w1 hbox hb; have E5 := ae (hbox); replace HB := eU hb; clear hb hbox hg; have C0 : w1.cell? ⟨Jo, 0, none⟩ = some (.slice Ae a.length ce) := (aY E5.o 0).trans rfl; have C1 : w1.cell? ⟨gb, 0, none⟩ = some (.slice Ak key.length ck) := (HB.o.cell (World.block_lt_of_cell? W _ HC.o)).trans HC.o) | (go_at_call 87; (refine (bytes_Equal.calls Ae ce a Ak ck key _ _ ?s1 ?s2 ?s3 ?s4 rfl).mono ?_); (case s1 => exact (Kd.cz HRE.o HB.o)); (case s2 => exact HCE.o); (case s3 => exact (Kd.cz HRK.o HB.o)); (case s4 => exact HCK.o); rintro e w2 ⟨rfl, hd⟩; have HB2 := ae (HB.o.trans (hd.below.mono HB.o.size)); clear hd))
 go_ret; exact ⟨rfl, HB2.o⟩
set_option maxHeartbeats 8000000 in
set_option maxRecDepth 100000 in
theorem dM.index (A0 : Option Addr) (c0 : Nat) (l0 : List (lQ)) (key : List Int) (Ak : Option Addr) (ck : Nat) (gb : Nat) (w : World) (hr0 : Kd.C BM w A0 l0.length l0) (hl : l0.length < 140737488355328) (hc : w.cell? ⟨gb, 0, none⟩ = some (.slice Ak key.length ck)) (hrk : Kd.C (Kd.int .u8) w Ak key.length key) (hck : key.length ≤ ck) :
  Calls Try.prog 85 #[.slice A0 l0.length c0, .func (.func 86) #[] #[.pointer (some ⟨gb, 0, none⟩)]] w fun e w' => e = .returned (.int .i64 (dM.find key l0 0)) ∧ Below w.heap.size w w' := by
 have hu := Try.underlying85; have mV := ae hr0; have HC := ae hc; have HRK := ae hrk; have HCK := ae hck; clear hr0 hc hrk hck
 have eg : ∀ args w, (callFunc 86 args).run Try.prog w = .ok (.enter 86 args) w := by
  intro args w; have h1 : ¬ Try.f86.name = "runtime.NumGoroutine" := by simp [Try.f86]
  obtain ⟨c, hb⟩ : ∃ c, Try.f86.body = some c := ⟨_, rfl⟩; simp [callFunc, Try.func86, h1, hb, mark]
 go_enter Try.func85, Try.ntmps85; go_wp2; go_loopg [5, 8] l0.length (fun gg _ s8 wr => ∃ x : Int, s8 = .int .i64 x ∧ 0 ≤ x ∧ x ≤ (l0.length : Int) ∧ l0.length - x.toNat ≤ gg ∧ Aside (Below w.heap.size w wr) ∧ Aside (dM.find key l0 0 = dM.find key (l0.drop x.toNat) x))
 case atStart => exact ⟨0, rfl, by omega, by omega, by omega, Below.refl _ w, rfl⟩
 case round =>
  obtain ⟨x, rfl, hx0, hx1, hg, BW, A⟩ := hrel; by_cases hlt : x < (l0.length : Int)
  ·obtain ⟨ad, Ae, ce, e, h0, h1, hle, hre⟩ := tV (Kd.cz mV.o BW.out) x hx0 hlt
   cases e; have hcall := dM.pred Ak ck key Ae ce (bu l0 x).f0 (bu l0 x).f1 gb wr ((BW.out.cell (World.block_lt_of_cell? w _ HC.o)).trans HC.o) (Kd.cz HRK.o BW.out) HCK.o hre hle; clear hre hle
   have hd : l0.drop x.toNat = bu l0 x :: l0.drop (x.toNat + 1) := by
    rw [List.drop_eq_getElem_cons (by omega)]; congr 1; unfold bu; simp [List.getD, show x.toNat < l0.length by omega]
   have HD := ae hd; clear hd; by_cases hq : ((strOfNums (bu l0 x).f0).toList == (strOfNums key).toList) = true
   ·rw [hq] at hcall
    have HQ := ae hq; clear hq; go_wp2_with (refine hcall.mono ?_; rintro e w' ⟨rfl, hb'⟩)
    go_ret; refine ⟨?_, BW.out.trans (hb'.mono BW.out.size)⟩; rw [A.out, HD.o, dM.find, if_pos HQ.o]; rfl
   rw [eq_false_of_ne_true hq] at hcall; have HQ := ae hq; clear hq; go_wp2_with (refine hcall.mono ?_; rintro e w' ⟨rfl, hb'⟩)
   go_roundg (l0.length - (x.toNat + 1))
   case measure => omega
   case rel =>
    have ex : (x + 1).toNat = x.toNat + 1 := by omega
    refine ⟨x + 1, by go_num, by omega, by omega, by omega, BW.out.trans (hb'.mono BW.out.size), ?_⟩; show Aside _; rw [A.out, HD.o, dM.find, if_neg HQ.o, ex]; exact rfl
  have hx : x.toNat = l0.length := by omega
  go_wp2; go_ret; refine ⟨?_, BW.out⟩; rw [A.out, hx, List.drop_length, dM.find]; rfl
set_option maxHeartbeats 8000000 in
set_option maxRecDepth 100000 in
theorem dM.calls (aU : Int) (dB : Option Addr) (dh : Nat) (ay : List (kG)) (eO : Option Addr) (dS : Nat) (aH : List (lQ)) (bq : Int) (eu : Option Addr) (dW : Nat) (aM : List (l7)) (eD : Option Addr) (ed : Nat) (aN : List (mE)) (A1 : Option Addr) (c1 : Nat) (l1 : List Int) (r : Int) (w : World) (jw : Kd.C ym w dB ay.length ay) (jy : ay.length ≤ dh) (kN : Kd.C BM w eO aH.length aH) (kV : aH.length ≤ dS) (kP : Kd.C BN w eu aM.length aM) (kW : aM.length ≤ dW) (kX : Kd.C Av w eD aN.length aN) (kY : aN.length ≤ ed) (hr1 : Kd.C (Kd.int .u8) w A1 l1.length l1) (hc1 : l1.length ≤ c1) (h : dM.f aU ay aH bq aM aN l1 = some r) :
  Calls Try.prog 66 #[.agg #[.int .i64 aU, .slice dB ay.length dh, .slice eO aH.length dS, .int .i64 bq, .slice eu aM.length dW, .slice eD aN.length ed], .slice A1 l1.length c1] w fun e w' => e = .returned (.int .i64 r) ∧ Below w.heap.size w w' := by
 unfold dM.f at h; by_cases hl : aH.length < 140737488355328
 ·rw [if_pos hl] at h
  obtain rfl := Option.some.inj h; clear h; have hu := Try.underlying37; have HL := ae hl; have HR := ae kN; have HR1 := ae hr1; have OX := ae hc1; clear hl jw jy kN kV kP kW kX kY hr1 hc1; have HB := ae (Below.refl w.heap.size w); go_enter Try.func66, Try.ntmps66
  go_wp2_with (first
   | ((with_reducible refine aD (N := 2) rfl ?_); refine je 2 #[.int .i64 aU, .slice dB ay.length dh, .slice eO aH.length dS, .int .i64 bq, .slice eu aM.length dW, .slice eD aN.length ed] 37 (h := ?_); intro Jo hg w1 hbox hb; have E5 := ae (hbox); have GW1 := ae ((by rw [hg]; exact (af bG) : w.heap.size ≤ Jo)); replace HB := eU hb; clear hb hbox hg)
   | ((with_reducible refine aD (N := 3) rfl ?_); refine je 3 #[.slice A1 l1.length c1] 29 (h := ?_); intro gb2 hg w2 hbox hb; have BK2 := ae (hbox); replace E5 := ae (fo E5 hb); replace HB := eU hb; clear hb hbox hg; have axu : w2.cell? ⟨Jo, 0, none⟩ = some (.int .i64 aU) := (aY E5.o 0).trans rfl; have axc : w2.cell? ⟨Jo, 1, none⟩ = some (.slice dB ay.length dh) := (aY E5.o 1).trans rfl; have aEi : w2.cell? ⟨Jo, 2, none⟩ = some (.slice eO aH.length dS) := (aY E5.o 2).trans rfl; have aEj : w2.cell? ⟨Jo, 3, none⟩ = some (.int .i64 bq) := (aY E5.o 3).trans rfl; have aEk : w2.cell? ⟨Jo, 4, none⟩ = some (.slice eu aM.length dW) := (aY E5.o 4).trans rfl; have aEl : w2.cell? ⟨Jo, 5, none⟩ = some (.slice eD aN.length ed) := (aY E5.o 5).trans rfl)
   | (go_at_call 85; (refine (dM.index eO dS aH l1 A1 c1 gb2 _ ?s1 ?s2 ?s3 ?s4 ?s5).mono ?_); (case s1 => exact (Kd.cz HR.o HB.o)); (case s2 => exact HL.o); (case s3 => exact ((aY BK2.o 0).trans rfl)); (case s4 => exact (Kd.cz HR1.o HB.o)); (case s5 => exact OX.o); rintro e w3 ⟨rfl, hb⟩; replace HB := eU hb; clear hb))
  go_ret; exact ⟨rfl, HB.o⟩
 rw [if_neg hl] at h; exact absurd h (by simp)
end Go.Proofs.Ytmfedjoofnlncaa.PT
