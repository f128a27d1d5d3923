import Derived.Test.YtoaddpfoecggpaaPGx0
import Derived.Test.YtoaddpfoecggpaaPGx5
import Derived.Test.YtoaddpfoecggpaaLBase
import Derived.Test.YtoaddpfoecggpaaLTreeok
import Derived.Test.YtoaddpfoecggpaaLTrees
import Derived.Test.YtoaddpfoecggpaaLWithin
namespace Go.Proofs.Ytoaddpfoecggpaa.Pure
open Go.RowKit Go.Proofs.Ytoaddpfoecggpaa.PG Go.Proofs.YtoaddpfoecggpaaW.PrintWords Go.Proofs.YtoaddpfoecggpaaW.PrintLast Go.Proofs.YtoaddpfoecggpaaW.PrintMore
set_option linter.unusedVariables false
set_option linter.unusedSimpArgs false
/-- What 'scan' answers. -/
def ScanSays (ok : Prop) (cnt lng : Nat) (long count : Int) (b : Bool) (c : Int) : Prop :=
  (b = true ↔ ok ∧ count + (cnt : Int) ≤ 200 ∧ long + (lng : Int) ≤ 20) ∧ (b = true → c = count + (cnt : Int))
theorem scan_loop (r : Nat) (hr : r < 25) (a : List Int) (ha : a.length ≤ 1048576) (b : Bool) (c : Int) (ks : List S30) (hn : ks.length ≤ 1048576) (long : Int) (hl0 : 0 ≤ long) (hl1 : long + (a.length : Int) ≤ 20)
    (hk : ∀ x ∈ ks, ∀ count : Int, 0 ≤ count → count ≤ 200 → ∃ v n, Ev (fun k => impl_scan.f k x.f0 x.f1 x.f2 x.f3 (25 - (r : Int)) (long + (a.length : Int)) count) (v, n) ∧ ScanSays (okD r x) (cntD r x) (longD r x) (long + (a.length : Int)) count v n) (d : Nat) :
    ∀ (i : Nat) (count : Int), i ≤ ks.length → ks.length - i = d → 0 ≤ count → count ≤ 200 → (0 < i → ∀ h : i - 1 < ks.length, 0 < ks[i - 1].f0.length) →
    ∃ v n, Ev (fun k => impl_scan.l0 k (24 - (r : Int)) long ks (ks.length : Int) (i : Int) count a b c ks) (v, n) ∧ ScanSays (okFrom r ks i) (cntFrom r ks i) (longFrom r ks i) (long + (a.length : Int)) count v n := by
  induction d with
  | zero =>
    intro i count hi hd h0 h1 hp
    refine ⟨true, count, Ev.step (fun k => by rw [impl_scan.l0]) (ev_if_neg (by omega) (Ev.now _)), ?_⟩
    rw [cntFrom_end r ks i (by omega), longFrom_end r ks i (by omega)]
    exact ⟨⟨fun _ => ⟨okFrom_end r ks i (by omega), by simpa using h1, by simpa using hl1⟩, fun _ => rfl⟩, fun _ => by simp⟩
  | succ d ih =>
    intro i count hi hd h0 h1 hp
    have hi' : i < ks.length := by omega
    have S := okFrom_step r ks i hi'
    obtain ⟨v, n, e, hv, hc⟩ := hk ks[i] (List.getElem_mem hi') count h0 h1
    have go : ∀ (R : Nat → Option (Bool × Int)) (v' : Bool) (n' : Int), (if v = true then Ev R (v', n') else (v', n') = (false, n)) → Ev (fun k => (if v = true then R k else some (false, n))) (v', n') := by
      intro R v' n' h
      by_cases g : v = true
      · rw [if_pos g] at h
        exact ev_if_pos g h
      · rw [if_neg g] at h
        exact ev_if_neg g (ev_done h.symm)
    have main : ∀ (v' : Bool) (n' : Int), Ev (fun k => if v = true then (if (i : Int) > 0 then (if 0 ≤ (wrap64 ((i : Int) - 1)) then (if (wrap64 ((i : Int) - 1)) < (ks.length : Int) then (if 0 < (((rd_T30 ks (wrap64 ((i : Int) - 1))).f0).length : Int) then (if 0 < ((ks[i].f0).length : Int) then (if (rd ((rd_T30 ks (wrap64 ((i : Int) - 1))).f0) 0) ≥ (rd (ks[i].f0) 0) then (some (false, n)) else (impl_scan.l0 k (24 - (r : Int)) long ks (ks.length : Int) (wrap64 ((i : Int) + 1)) n a b c ks)) else (none)) else (none)) else (none)) else (none)) else (impl_scan.l0 k (24 - (r : Int)) long ks (ks.length : Int) (wrap64 ((i : Int) + 1)) n a b c ks)) else (some (false, n))) (v', n') →
        Ev (fun k => impl_scan.l0 k (24 - (r : Int)) long ks (ks.length : Int) (i : Int) count a b c ks) (v', n') := by
      intro v' n' h
      refine Ev.step (fun k => by rw [impl_scan.l0]) ?_
      rw [rd_T30_get ks i hi', w64 (x := 24 - (r : Int) + 1) (by omega) (by omega), w64 (x := long + (a.length : Int)) (by omega) (by omega), show 24 - (r : Int) + 1 = 25 - (r : Int) by omega]
      exact ev_if_pos (by omega) (ev_if_pos (by omega) (ev_if_pos (by omega) (Ev.bind e h)))
    by_cases hvt : v = true
    · obtain ⟨o1, o2, o3⟩ := hv.1 hvt
      have hn' := hc hvt
      have hpos := okD_edge o1 hr
      have hcp := cntD_pos r ks[i]
      obtain ⟨v', n', e', hv', hc'⟩ := ih (i + 1) n (by omega) (by omega) (by omega) (by omega) (fun _ h => by simpa using hpos)
      rw [Int.natCast_add, Int.natCast_one] at e'
      have good : (0 < i → rd (ks[i - 1]'(by omega)).f0 0 < rd ks[i].f0 0) → ScanSays (okFrom r ks i) (cntFrom r ks i) (longFrom r ks i) (long + (a.length : Int)) count v' n' := by
        intro g
        rw [cntFrom_step r ks i hi', longFrom_step r ks i hi']
        constructor
        · constructor
          · intro h
            obtain ⟨p1, p2, p3⟩ := hv'.1 h
            exact ⟨S.2 ⟨⟨o1, g⟩, p1⟩, by omega, by omega⟩
          · rintro ⟨p1, p2, p3⟩
            exact hv'.2 ⟨(S.1 p1).2, by omega, by omega⟩
        · intro h
          have := hc' h
          omega
      by_cases i0 : 0 < i
      · have hi1 : i - 1 < ks.length := by omega
        have hpp := hp i0 hi1
        have ei : (i : Int) - 1 = ((i - 1 : Nat) : Int) := by omega
        by_cases o : rd ks[i - 1].f0 0 ≥ rd ks[i].f0 0
        · refine ⟨false, n, main _ _ (ev_if_pos hvt ?_), ⟨⟨fun h => absurd h (by simp), fun h => ?_⟩, fun h => absurd h (by simp)⟩⟩
          · rw [w64 (x := (i : Int) - 1) (by omega) (by omega), ei, rd_T30_get ks (i - 1) hi1]
            exact ev_if_pos (by omega) (ev_if_pos (by omega) (ev_if_pos (by omega) (ev_if_pos (by omega) (ev_if_pos (by omega) (ev_if_pos o (Ev.now _))))))
          · have := (S.1 h.1).1.2 i0
            omega
        · refine ⟨v', n', main _ _ (ev_if_pos hvt ?_), good (fun _ => by omega)⟩
          rw [w64 (x := (i : Int) - 1) (by omega) (by omega), ei, rd_T30_get ks (i - 1) hi1, w64 (x := (i : Int) + 1) (by omega) (by omega)]
          exact ev_if_pos (by omega) (ev_if_pos (by omega) (ev_if_pos (by omega) (ev_if_pos (by omega) (ev_if_pos (by omega) (ev_if_neg o e')))))
      · refine ⟨v', n', main _ _ (ev_if_pos hvt (ev_if_neg (by omega) ?_)), good (fun h => absurd h i0)⟩
        rw [w64 (x := (i : Int) + 1) (by omega) (by omega)]
        exact e'
    · refine ⟨false, n, main _ _ (ev_if_neg hvt (Ev.now _)), ⟨⟨fun h => absurd h (by simp), fun h => ?_⟩, fun h => absurd h (by simp)⟩⟩
      rw [cntFrom_step r ks i hi', longFrom_step r ks i hi'] at h
      exact absurd (hv.2 ⟨(S.1 h.1).1.1, by omega, by omega⟩) hvt
set_option maxHeartbeats 4000000 in
theorem scan_ev (r : Nat) : ∀ (t : S30), r ≤ 25 → FitU t → ∀ (long count : Int), 0 ≤ long → long ≤ 20 → 0 ≤ count → count ≤ 200 →
    ∃ v n, Ev (fun k => impl_scan.f k t.f0 t.f1 t.f2 t.f3 (25 - (r : Int)) long count) (v, n) ∧ ScanSays (okD r t) (cntD r t) (longD r t) long count v n := by
  induction r with
  | zero =>
    intro t hr hf long count hl0 hl1 h0 h1
    refine ⟨false, count + 1, Ev.step (fun k => by rw [impl_scan.f]) ?_, ⟨⟨fun h => absurd h (by simp), fun h => h.1.elim⟩, fun h => absurd h (by simp)⟩⟩
    have T : Ev (fun k => impl_scan.j0 k (25 - ((0 : Nat) : Int)) long true (count + 1) t.f0 t.f1 t.f2 t.f3) (false, count + 1) := Ev.step (fun k => by rw [impl_scan.j0]) (ev_if_pos rfl (Ev.now _))
    rw [w64 (x := count + 1) (by omega) (by omega)]
    exact ev_ite (fun _ => T) (fun _ => ev_if_pos (by simp) T)
  | succ r ih =>
    intro t hr hf long count hl0 hl1 h0 h1
    have ht0 := hf.h0
    have T : Ev (fun k => impl_scan.j0 k (24 - (r : Int)) long true (count + 1) t.f0 t.f1 t.f2 t.f3) (false, count + 1) := Ev.step (fun k => by rw [impl_scan.j0]) (ev_if_pos rfl (Ev.now _))
    have J : Ev (fun k => impl_scan.j1 k (24 - (r : Int)) long true (count + 1) t.f0 t.f1 t.f2 t.f3) (false, count + 1) := Ev.step (fun k => by rw [impl_scan.j1]) (ev_if_pos rfl (Ev.now _))
    have ed : 25 - ((r + 1 : Nat) : Int) = 24 - (r : Int) := by omega
    have ee : ((((t.f0.length : Int) == 0) != (24 - (r : Int) == 0)) = true) ↔ ¬ (t.f0.length = 0 ↔ r = 24) := by
      have e1 : ((t.f0.length : Int) == 0) = decide (t.f0.length = 0) := by
        rw [Bool.eq_iff_iff, beq_iff_eq, decide_eq_true_iff]; omega
      have e2 : ((24 - (r : Int)) == 0) = decide (r = 24) := by
        rw [Bool.eq_iff_iff, beq_iff_eq, decide_eq_true_iff]; omega
      rw [e1, e2]
      by_cases p : t.f0.length = 0 <;> by_cases q : r = 24 <;> simp [p, q]
    rw [ed]
    by_cases N1 : (t.f0.length = 0 ↔ r = 24) ∧ count + 1 ≤ 200 ∧ long + (t.f0.length : Int) ≤ 20
    · have A : ∀ v n, Ev (fun k => impl_scan.j0 k (24 - (r : Int)) long false (count + 1) t.f0 t.f1 t.f2 t.f3) (v, n) → Ev (fun k => impl_scan.f k t.f0 t.f1 t.f2 t.f3 (24 - (r : Int)) long count) (v, n) := by
        intro v n h
        refine Ev.step (fun k => by rw [impl_scan.f]) ?_
        rw [w64 (x := count + 1) (by omega) (by omega), w64 (x := long + (t.f0.length : Int)) (by omega) (by omega)]
        refine ev_if_neg (by omega) (ev_if_neg (by omega) (ev_if_neg (fun g => (ee.1 g) N1.1) ?_))
        rw [decide_eq_false (by omega)]
        exact h
      by_cases N2 : (t.f1 = true → 0 ≤ t.f2 ∧ t.f2 ≤ 2147483647) ∧ (t.f1 = false → t.f2 = 0) ∧ (r = 24 ∨ t.f1 = true ∨ 2 ≤ t.f3.length)
      · obtain ⟨v, n, e, hv, hc⟩ := scan_loop r (by omega) t.f0 ht0 t.f1 t.f2 t.f3 hf.h3 long hl0 N1.2.2 (fun x hx cn a b => ih x (by omega) (hf.hk x hx) (long + (t.f0.length : Int)) cn (by omega) (by omega) a b) t.f3.length 0 (count + 1) (by omega) (by omega) (by omega) (by omega) (fun h => absurd h (by omega))
        have e : Ev (fun k => impl_scan.l0 k (24 - (r : Int)) long t.f3 (t.f3.length : Int) 0 (count + 1) t.f0 t.f1 t.f2 t.f3) (v, n) := e
        have F : Ev (fun k => impl_scan.j1 k (24 - (r : Int)) long false (count + 1) t.f0 t.f1 t.f2 t.f3) (v, n) := Ev.step (fun k => by rw [impl_scan.j1]) (ev_if_neg (by simp) e)
        refine ⟨v, n, A v n (Ev.step (fun k => by rw [impl_scan.j0]) (ev_if_neg (by simp) ?_)), ?_⟩
        · obtain ⟨n2, n3, n4⟩ := N2
          repeat' (first
            | exact F
            | refine ev_bind_eq (within_eq _ _ _) ?_
            | refine ev_ite (fun hc => ?_) (fun hc => ?_)
            | (rw [decide_eq_false (by grind)]; exact F)
            | (exfalso; grind))
        · rw [okD_succ, cntD_succ, longD_succ]
          constructor
          · constructor
            · intro h
              obtain ⟨p1, p2, p3⟩ := hv.1 h
              exact ⟨⟨N1.1, N2.1, N2.2.1, N2.2.2, p1⟩, by omega, by omega⟩
            · rintro ⟨⟨_, _, _, _, p1⟩, p2, p3⟩
              exact hv.2 ⟨p1, by omega, by omega⟩
          · intro h
            have := hc h
            omega
      · refine ⟨false, count + 1, A _ _ (Ev.step (fun k => by rw [impl_scan.j0]) (ev_if_neg (by simp) ?_)), ⟨⟨fun h => absurd h (by simp), fun h => ?_⟩, fun h => absurd h (by simp)⟩⟩
        · repeat' (first
            | exact J
            | refine ev_bind_eq (within_eq _ _ _) ?_
            | refine ev_ite (fun hc => ?_) (fun hc => ?_)
            | (rw [decide_eq_true (by grind)]; exact J)
            | (exfalso; grind))
        · rw [okD_succ] at h
          exact absurd ⟨h.1.2.1, h.1.2.2.1, h.1.2.2.2.1⟩ N2
    · refine ⟨false, count + 1, Ev.step (fun k => by rw [impl_scan.f]) ?_, ⟨⟨fun h => absurd h (by simp), fun h => ?_⟩, fun h => absurd h (by simp)⟩⟩
      · rw [w64 (x := count + 1) (by omega) (by omega), w64 (x := long + (t.f0.length : Int)) (by omega) (by omega)]
        refine ev_ite (fun _ => T) (fun g1 => ev_ite (fun _ => T) (fun g2 => ev_ite (fun _ => T) (fun g3 => ?_)))
        rw [decide_eq_true (by
          have g4 := Classical.not_not.1 (fun q => g3 (ee.2 q))
          have : ¬ long + (t.f0.length : Int) ≤ 20 := fun q => N1 ⟨g4, by omega, q⟩
          omega)]
        exact T
      · rw [okD_succ, cntD_succ, longD_succ] at h
        exact absurd ⟨h.1.1, by omega, by omega⟩ N1

end Go.Proofs.Ytoaddpfoecggpaa.Pure
