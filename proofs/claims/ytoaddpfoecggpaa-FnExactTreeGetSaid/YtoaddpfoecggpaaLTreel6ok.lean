import Derived.Test.YtoaddpfoecggpaaPGx0
import Derived.Test.YtoaddpfoecggpaaPGx3
import Derived.Test.YtoaddpfoecggpaaLBase
import Derived.Test.YtoaddpfoecggpaaLTreeok
import Derived.Test.YtoaddpfoecggpaaLTrees
namespace Go.Proofs.Ytoaddpfoecggpaa.Pure
open Go.RowKit Go.Proofs.Ytoaddpfoecggpaa.PG Go.Proofs.YtoaddpfoecggpaaW.PrintWords Go.Proofs.YtoaddpfoecggpaaW.PrintLast Go.Proofs.YtoaddpfoecggpaaW.PrintMore
set_option linter.unusedVariables false
set_option linter.unusedSimpArgs false
/-- What the reference's look at a part answers. -/
def OkSays (ok : Prop) (cnt : Nat) (left q : Int) : Prop := (ok ∧ (cnt : Int) ≤ left → q = left - (cnt : Int)) ∧ (¬ (ok ∧ (cnt : Int) ≤ left) → q = -1)
theorem l6ok_loop (r : Nat) (hr : r < 25) (a : List Int) (b : Bool) (c : Int) (ks : List S30) (hn : ks.length ≤ 1048576)
    (hk : ∀ x ∈ ks, ∀ left : Int, 0 ≤ left → left ≤ 200 → ∃ q, Ev (fun k => spec_l6ok.f k x.f0 x.f1 x.f2 x.f3 false left (25 - (r : Int))) q ∧ OkSays (okD r x) (cntD r x) left q) (d : Nat) :
    ∀ (i : Nat) (left : Int), i ≤ ks.length → ks.length - i = d → 0 ≤ left → left ≤ 200 → (0 < i → ∀ h : i - 1 < ks.length, 0 < ks[i - 1].f0.length) →
    ∃ q, Ev (fun k => spec_l6ok.l0 k left (24 - (r : Int)) (i : Int) a b c ks) q ∧ OkSays (okFrom r ks i) (cntFrom r ks i) left q := by
  induction d with
  | zero =>
    intro i left hi hd h0 h1 hp
    refine ⟨left, Ev.step (fun k => by rw [spec_l6ok.l0]) (ev_if_neg (by omega) (Ev.now _)), ?_⟩
    rw [cntFrom_end r ks i (by omega)]
    exact ⟨fun _ => by simp, fun h => absurd ⟨okFrom_end r ks i (by omega), by simpa using h0⟩ h⟩
  | succ d ih =>
    intro i left hi hd h0 h1 hp
    have hi' : i < ks.length := by omega
    have T : Ev (fun k => spec_l6ok.j2 k left (24 - (r : Int)) (i : Int) true a b c ks ks[i].f0 ks[i].f1 ks[i].f2 ks[i].f3) (-1) :=
      Ev.step (fun k => by rw [spec_l6ok.j2]) (ev_if_pos rfl (Ev.now _))
    have F : 0 < ks[i].f0.length → ∃ q, Ev (fun k => spec_l6ok.j2 k left (24 - (r : Int)) (i : Int) false a b c ks ks[i].f0 ks[i].f1 ks[i].f2 ks[i].f3) q ∧ OkSays (okD r ks[i] ∧ okFrom r ks (i + 1)) (cntD r ks[i] + cntFrom r ks (i + 1)) left q := by
      intro hpos
      obtain ⟨q, e, hq1, hq2⟩ := hk ks[i] (List.getElem_mem hi') left h0 h1
      by_cases g : okD r ks[i] ∧ (cntD r ks[i] : Int) ≤ left
      · have hq := hq1 g
        have hc := cntD_pos r ks[i]
        obtain ⟨q', e', hq'1, hq'2⟩ := ih (i + 1) q (by omega) (by omega) (by omega) (by omega) (fun _ h => by simpa using hpos)
        refine ⟨q', Ev.step (fun k => by rw [spec_l6ok.j2]) (ev_if_neg (by simp) ?_), ?_⟩
        · rw [w64 (x := 24 - (r : Int) + 1) (by omega) (by omega), w64 (x := (i : Int) + 1) (by omega) (by omega), show 24 - (r : Int) + 1 = 25 - (r : Int) by omega]
          rw [Int.natCast_add, Int.natCast_one] at e'
          exact Ev.bind e (ev_if_neg (by omega) e')
        · constructor
          · rintro ⟨⟨u1, u2⟩, u3⟩
            have := hq'1 ⟨u2, by omega⟩
            omega
          · intro u
            exact hq'2 (fun ⟨v1, v2⟩ => u ⟨⟨g.1, v1⟩, by omega⟩)
      · have hq := hq2 g
        refine ⟨-1, Ev.step (fun k => by rw [spec_l6ok.j2]) (ev_if_neg (by simp) ?_), ?_⟩
        · rw [w64 (x := 24 - (r : Int) + 1) (by omega) (by omega), show 24 - (r : Int) + 1 = 25 - (r : Int) by omega]
          exact Ev.bind e (ev_if_pos (by omega) (Ev.now _))
        · constructor
          · rintro ⟨⟨u1, u2⟩, u3⟩
            exact absurd ⟨u1, by omega⟩ g
          · intro _
            rfl
    have S := okFrom_step r ks i hi'
    have bad : ¬ okFrom r ks i → OkSays (okFrom r ks i) (cntFrom r ks i) left (-1) := fun h => ⟨fun g => absurd g.1 h, fun _ => rfl⟩
    have good : (0 < i → rd (ks[i - 1]'(by omega)).f0 0 < rd ks[i].f0 0) → ∀ q, OkSays (okD r ks[i] ∧ okFrom r ks (i + 1)) (cntD r ks[i] + cntFrom r ks (i + 1)) left q → OkSays (okFrom r ks i) (cntFrom r ks i) left q := by
      intro g q h
      rw [cntFrom_step r ks i hi']
      exact ⟨fun ⟨u1, u2⟩ => h.1 ⟨⟨(S.1 u1).1.1, (S.1 u1).2⟩, u2⟩, fun u => h.2 (fun ⟨⟨v1, v2⟩, v3⟩ => u ⟨S.2 ⟨⟨v1, g⟩, v2⟩, v3⟩)⟩
    by_cases z : (ks[i].f0.length : Int) = 0
    · refine ⟨-1, Ev.step (fun k => by rw [spec_l6ok.l0]) ?_, bad (fun g => ?_)⟩
      · rw [rd_T30_get ks i hi']
        exact ev_if_pos (by omega) (ev_if_pos (by omega) (ev_if_pos z T))
      · have := okD_edge (S.1 g).1.1 hr
        omega
    · have hpos : 0 < ks[i].f0.length := by omega
      by_cases i0 : 0 < i
      · have hi1 : i - 1 < ks.length := by omega
        have hpp := hp i0 hi1
        have ei : (i : Int) - 1 = ((i - 1 : Nat) : Int) := by omega
        by_cases o : rd ks[i - 1].f0 0 ≥ rd ks[i].f0 0
        · refine ⟨-1, Ev.step (fun k => by rw [spec_l6ok.l0]) ?_, bad (fun g => ?_)⟩
          · rw [rd_T30_get ks i hi', w64 (x := (i : Int) - 1) (by omega) (by omega), ei, rd_T30_get ks (i - 1) hi1]
            refine ev_if_pos (by omega) (ev_if_pos (by omega) (ev_if_neg z (ev_if_pos (by omega) (ev_if_pos (by omega) (ev_if_pos (by omega) (ev_if_pos (by omega) (ev_if_pos (by omega) ?_)))))))
            rw [decide_eq_true o]
            exact T
          · have := (S.1 g).1.2 i0
            omega
        · obtain ⟨q, e, hq⟩ := F hpos
          refine ⟨q, Ev.step (fun k => by rw [spec_l6ok.l0]) ?_, good (fun _ => by omega) q hq⟩
          rw [rd_T30_get ks i hi', w64 (x := (i : Int) - 1) (by omega) (by omega), ei, rd_T30_get ks (i - 1) hi1]
          refine ev_if_pos (by omega) (ev_if_pos (by omega) (ev_if_neg z (ev_if_pos (by omega) (ev_if_pos (by omega) (ev_if_pos (by omega) (ev_if_pos (by omega) (ev_if_pos (by omega) ?_)))))))
          rw [decide_eq_false o]
          exact e
      · obtain ⟨q, e, hq⟩ := F hpos
        refine ⟨q, Ev.step (fun k => by rw [spec_l6ok.l0]) ?_, good (fun h => absurd h i0) q hq⟩
        rw [rd_T30_get ks i hi']
        exact ev_if_pos (by omega) (ev_if_pos (by omega) (ev_if_neg z (ev_if_neg (by omega) e)))
set_option maxHeartbeats 4000000 in
theorem l6ok_ev (r : Nat) : ∀ (t : S30), r ≤ 25 → FitU t → ∀ (root : Bool) (left : Int), (root = true ↔ r = 25) → 0 ≤ left → left ≤ 200 →
    ∃ q, Ev (fun k => spec_l6ok.f k t.f0 t.f1 t.f2 t.f3 root left (25 - (r : Int))) q ∧ OkSays (okD r t) (cntD r t) left q := by
  induction r with
  | zero =>
    intro t hr hf root left hroot h0 h1
    refine ⟨-1, Ev.step (fun k => by rw [spec_l6ok.f]) ?_, ⟨fun g => g.1.elim, fun _ => rfl⟩⟩
    have T : ∀ l : Int, Ev (fun k => spec_l6ok.j0 k l (25 - ((0 : Nat) : Int)) true t.f0 t.f1 t.f2 t.f3) (-1) := fun l => Ev.step (fun k => by rw [spec_l6ok.j0]) (ev_if_pos rfl (Ev.now _))
    exact ev_ite (fun _ => T _) (fun _ => ev_if_pos (by simp) (T _))
  | succ r ih =>
    intro t hr hf root left hroot h0 h1
    have T : ∀ l : Int, Ev (fun k => spec_l6ok.j0 k l (24 - (r : Int)) true t.f0 t.f1 t.f2 t.f3) (-1) := fun l => Ev.step (fun k => by rw [spec_l6ok.j0]) (ev_if_pos rfl (Ev.now _))
    have ed : 25 - ((r + 1 : Nat) : Int) = 24 - (r : Int) := by omega
    have hlen : (0 : Int) ≤ (t.f0.length : Int) := Int.natCast_nonneg _
    rw [ed]
    by_cases N : ((t.f0.length = 0 ↔ r = 24) ∧ (t.f1 = true → 0 ≤ t.f2 ∧ t.f2 ≤ 2147483647) ∧ (t.f1 = false → t.f2 = 0) ∧ (r = 24 ∨ t.f1 = true ∨ 2 ≤ t.f3.length)) ∧ 1 ≤ left
    · obtain ⟨q, e, hq1, hq2⟩ := l6ok_loop r (by omega) t.f0 t.f1 t.f2 t.f3 hf.h3 (fun x hx l a b => ih x (by omega) (hf.hk x hx) false l (by constructor <;> intro h <;> first | omega | simp at h) a b) t.f3.length 0 (left - 1) (by omega) (by omega) (by omega) (by omega) (fun h => absurd h (by omega))
      have e : Ev (fun k => spec_l6ok.l0 k (left - 1) (24 - (r : Int)) 0 t.f0 t.f1 t.f2 t.f3) q := e
      have F : Ev (fun k => spec_l6ok.j0 k (left - 1) (24 - (r : Int)) false t.f0 t.f1 t.f2 t.f3) q := Ev.step (fun k => by rw [spec_l6ok.j0]) (ev_if_neg (by simp) e)
      refine ⟨q, Ev.step (fun k => by rw [spec_l6ok.f]) ?_, ?_⟩
      · rw [w64 (x := left - 1) (by omega) (by omega)]
        obtain ⟨⟨n1, n2, n3, n4⟩, n5⟩ := N
        repeat' (first
          | exact F
          | refine ev_ite (fun hc => ?_) (fun hc => ?_)
          | (rw [decide_eq_false (by grind)]; exact F)
          | (exfalso; grind))
      · rw [okD_succ, cntD_succ]
        constructor
        · rintro ⟨⟨_, _, _, _, u⟩, v⟩
          have := hq1 ⟨u, by omega⟩
          omega
        · intro u
          exact hq2 (fun ⟨v1, v2⟩ => u ⟨⟨N.1.1, N.1.2.1, N.1.2.2.1, N.1.2.2.2, v1⟩, by omega⟩)
    · refine ⟨-1, Ev.step (fun k => by rw [spec_l6ok.f]) ?_, ?_⟩
      · rw [w64 (x := left - 1) (by omega) (by omega)]
        repeat' (first
          | exact T _
          | refine ev_ite (fun hc => ?_) (fun hc => ?_)
          | (rw [decide_eq_true (by grind)]; exact T _)
          | (exfalso; grind))
      · rw [okD_succ, cntD_succ]
        constructor
        · rintro ⟨⟨u1, u2, u3, u4, u⟩, v⟩
          exact absurd ⟨⟨u1, u2, u3, u4⟩, by omega⟩ N
        · intro _
          rfl

end Go.Proofs.Ytoaddpfoecggpaa.Pure
