import Derived.Test.YtoaddpfoecggpaaPNx0
import Derived.Test.YtoaddpfoecggpaaPNx2
import Derived.Test.YtoaddpfoecggpaaPNx3
import Derived.Test.YtoaddpfoecggpaaPNx5
import Derived.Test.YtoaddpfoecggpaaLBase
import Derived.Test.YtoaddpfoecggpaaLItemrows
import Derived.Test.YtoaddpfoecggpaaLItems
import Derived.Test.YtoaddpfoecggpaaLNodes
namespace Go.Proofs.Ytoaddpfoecggpaa.Pure
open Go.RowKit Go.Proofs.Ytoaddpfoecggpaa.PN Go.Proofs.YtoaddpfoecggpaaW.PrintWords Go.Proofs.YtoaddpfoecggpaaW.PrintLast Go.Proofs.YtoaddpfoecggpaaW.PrintMore
set_option linter.unusedVariables false
set_option linter.unusedSimpArgs false
theorem specNode_log (id term vote : Int) (log : List S115) (commit role lead wait : Int) (votes : List Bool) (next mat : List Int) (sv : Int) (hn : log.length ≤ 1048576) (hf : ∀ x ∈ log, fitItem x) (b : Bool)
    (hb : Ev (fun k => if role = 0 then (spec_NodeOk.j2 k sv false id term vote log commit role lead wait votes next mat) else (if term < 1 then (spec_NodeOk.j2 k sv true id term vote log commit role lead wait votes next mat) else (spec_NodeOk.j2 k sv (vote != id) id term vote log commit role lead wait votes next mat))) b) (d : Nat) :
    ∀ (i : Nat), i ≤ log.length → log.length - i = d →
    (LogFrom log term i → Ev (fun k => spec_NodeOk.l0 k sv (i : Int) id term vote log commit role lead wait votes next mat) b) ∧ (¬ LogFrom log term i → Ev (fun k => spec_NodeOk.l0 k sv (i : Int) id term vote log commit role lead wait votes next mat) false) := by
  induction d with
  | zero =>
    intro i hi hd
    exact ⟨fun _ => Ev.step (fun k => by rw [spec_NodeOk.l0]) (ev_if_neg (by omega) hb), fun h => absurd (logFrom_end log term i (by omega)) h⟩
  | succ d ih =>
    intro i hi hd
    have hi' : i < log.length := by omega
    obtain ⟨h1, h2⟩ := ih (i + 1) (by omega) (by omega)
    rw [Int.natCast_add, Int.natCast_one] at h1 h2
    have S := logFrom_step log term i hi'
    have fi := hf log[i] (List.getElem_mem hi')
    have e := specItemOk_ev log[i].f0 log[i].f1.f0 log[i].f1.f1 log[i].f1.f2.f0 log[i].f1.f2.f1 log[i].f1.f2.f2 log[i].f1.f2.f3 (by have := fi.1; omega)
    have ei : 0 < i → (i : Int) - 1 = ((i - 1 : Nat) : Int) := by omega
    have key : ∀ q : Bool, (LogP log term i hi' → Ev (fun k => spec_NodeOk.l0 k sv ((i : Int) + 1) id term vote log commit role lead wait votes next mat) q) → (¬ LogP log term i hi' → q = false) → Ev (fun k => spec_NodeOk.l0 k sv (i : Int) id term vote log commit role lead wait votes next mat) q := by
      intro q hq hq'
      refine Ev.step (fun k => by rw [spec_NodeOk.l0]) ?_
      rw [rd_T54_get log i hi', w64 (x := (i : Int) + 1) (by omega) (by omega)]
      refine ev_if_pos (by omega) (ev_if_pos (by omega) (Ev.bind e ?_))
      by_cases c1 : itemOkP log[i].f0 log[i].f1.f0 log[i].f1.f1 log[i].f1.f2.f0 log[i].f1.f2.f1 log[i].f1.f2.f2 log[i].f1.f2.f3 = true
      case neg => exact ev_if_neg c1 (ev_done (hq' (fun h => c1 h.1)).symm)
      refine ev_if_pos c1 ?_
      by_cases c2 : log[i].f0 > term
      · exact ev_if_pos c2 (ev_done (hq' (fun h => by have := h.2.1; omega)).symm)
      refine ev_if_neg c2 ?_
      by_cases c3 : 0 < i
      · refine ev_if_pos (by omega) ?_
        rw [w64 (x := (i : Int) - 1) (by omega) (by omega), ei c3, rd_T54_get log (i - 1) (by omega)]
        refine ev_if_pos (by omega) (ev_if_pos (by omega) ?_)
        by_cases c4 : log[i - 1].f0 > log[i].f0
        · exact ev_if_pos c4 (ev_done (hq' (fun h => by have := h.2.2 c3; omega)).symm)
        · exact ev_if_neg c4 (hq ⟨c1, by omega, fun _ => by omega⟩)
      · exact ev_if_neg (by omega) (hq ⟨c1, by omega, fun h => absurd h c3⟩)
    constructor
    · intro h
      exact key b (fun _ => h1 (S.1 h).2) (fun g => absurd (S.1 h).1 g)
    · intro h
      exact key false (fun g => h2 (fun z => h (S.2 ⟨g, z⟩))) (fun _ => rfl)
set_option maxHeartbeats 4000000 in
theorem specNode_srv (id term vote : Int) (log : List S115) (commit role lead wait : Int) (votes : List Bool) (next mat : List Int) (sv : Int) (hs : sv ≤ 5) (hn : log.length ≤ 1048576) (hv : (votes.length : Int) = sv) (hx : (next.length : Int) = sv) (hm : (mat.length : Int) = sv) (b : Bool)
    (hb : b = true ↔ (role = 2 → lead = id)) (d : Nat) :
    ∀ (i : Int), 0 ≤ i → i ≤ sv → (sv - i).toNat = d →
    ∃ q, Ev (fun k => spec_NodeOk.l1 k sv i id term vote log commit role lead wait votes next mat) q ∧ (q = true ↔ (role = 2 → lead = id) ∧ ∀ j, i ≤ j → j < sv → SrvP (log.length : Int) role votes next mat j ∧ VoteP role votes j) := by
  induction d with
  | zero =>
    intro i h0 hi hd
    refine ⟨b, Ev.step (fun k => by rw [spec_NodeOk.l1]) (ev_if_neg (by omega) ?_), hb.trans ⟨fun h => ⟨h, fun j h1 h2 => by omega⟩, fun h => h.1⟩⟩
    by_cases c : role = 2
    · refine ev_if_pos c (ev_done ?_)
      rw [Bool.eq_iff_iff, beq_iff_eq, hb]
      exact ⟨fun h _ => h, fun h => h c⟩
    · refine ev_if_neg c (ev_done ?_)
      exact (hb.2 (fun h => absurd h c)).symm
  | succ d ih =>
    intro i h0 hi hd
    obtain ⟨q, e, hq⟩ := ih (i + 1) (by omega) (by omega) (by omega)
    have e' : Ev (fun k => spec_NodeOk.l1 k sv (wrap64 (i + 1)) id term vote log commit role lead wait votes next mat) q := by
      rw [w64 (x := i + 1) (by omega) (by omega)]
      exact e
    by_cases P : SrvP (log.length : Int) role votes next mat i ∧ VoteP role votes i
    · refine ⟨q, ?_, hq.trans ⟨fun h => ⟨h.1, fun j h1 h2 => ?_⟩, fun h => ⟨h.1, fun j h1 h2 => h.2 j (by omega) h2⟩⟩⟩
      · obtain ⟨⟨p1, p2⟩, p3⟩ := P
        unfold VoteP at p3
        refine Ev.step (g := fun k => spec_NodeOk.l1 k _ _ _ _ _ _ _ _ _ _ _ _ _) (fun k => by rw [spec_NodeOk.l1]) ?_
        rw [w64 (x := (log.length : Int) + 1) (by omega) (by omega)]
        repeat' (first
          | exact e'
          | refine Ev.step (g := fun k => spec_NodeOk.j4 k _ _ _ _ _ _ _ _ _ _ _ _ _ _) (fun k => by rw [spec_NodeOk.j4]) ?_
          | refine Ev.step (g := fun k => spec_NodeOk.j5 k _ _ _ _ _ _ _ _ _ _ _ _ _ _) (fun k => by rw [spec_NodeOk.j5]) ?_
          | refine ev_ite (fun hc => ?_) (fun hc => ?_)
          | (exfalso; grind))
      · by_cases z : j = i
        · subst z
          exact P
        · exact h.2 j (by omega) h2
    · refine ⟨false, ?_, ⟨fun h => absurd h (by simp), fun h => absurd (h.2 i (by omega) (by omega)) P⟩⟩
      have P' : ¬ (((role = 2 → 1 ≤ rd next i ∧ rd next i ≤ (log.length : Int) + 1 ∧ 0 ≤ rd mat i ∧ rd mat i ≤ (log.length : Int)) ∧ (role ≠ 2 → rd next i = 0 ∧ rd mat i = 0)) ∧ (role = 0 → rdOf false votes i = false)) := P
      refine Ev.step (g := fun k => spec_NodeOk.l1 k _ _ _ _ _ _ _ _ _ _ _ _ _) (fun k => by rw [spec_NodeOk.l1]) ?_
      rw [w64 (x := (log.length : Int) + 1) (by omega) (by omega)]
      repeat' (first
        | exact Ev.now _
        | refine Ev.step (g := fun k => spec_NodeOk.j4 k _ _ _ _ _ _ _ _ _ _ _ _ _ _) (fun k => by rw [spec_NodeOk.j4]) ?_
        | refine Ev.step (g := fun k => spec_NodeOk.j5 k _ _ _ _ _ _ _ _ _ _ _ _ _ _) (fun k => by rw [spec_NodeOk.j5]) ?_
        | refine ev_ite (fun hc => ?_) (fun hc => ?_)
        | (exfalso; grind))
set_option maxHeartbeats 8000000 in
theorem specNodeOk_ev (id term vote : Int) (log : List S115) (commit role lead wait : Int) (votes : List Bool) (next mat : List Int) (sv : Int) (hn : log.length ≤ 1048576) (hf : ∀ x ∈ log, fitItem x) :
    ∃ b, Ev (fun k => spec_NodeOk.f k id term vote log commit role lead wait votes next mat sv) b ∧ (b = true ↔ NodeP id term vote log commit role lead wait votes next mat sv) := by
  have T : Ev (fun k => spec_NodeOk.j0 k sv true id term vote log commit role lead wait votes next mat) false := Ev.step (fun k => by rw [spec_NodeOk.j0]) (ev_if_pos rfl (Ev.now _))
  have e1 : spec_l4servers.f sv = some (decide (1 ≤ sv ∧ sv ≤ 5)) := by
    unfold spec_l4servers.f
    by_cases c : sv ≥ 1 <;> simp [c] <;> omega
  have e2 : spec_l3term.f term = some (decide (0 ≤ term ∧ term ≤ 100000)) := by
    unfold spec_l3term.f
    by_cases c : term ≥ 0 <;> simp [c] <;> omega
  have e3 : ∀ x, spec_l4who.f x sv = some (decide (-1 ≤ x ∧ x < sv)) := by
    intro x
    unfold spec_l4who.f
    by_cases c : x ≥ -1 <;> simp [c] <;> omega
  by_cases N : (1 ≤ sv ∧ sv ≤ 5) ∧ (0 ≤ id ∧ id < sv) ∧ (0 ≤ term ∧ term ≤ 100000) ∧ (-1 ≤ vote ∧ vote < sv) ∧ (-1 ≤ lead ∧ lead < sv) ∧ (log.length : Int) ≤ 400 ∧
      (0 ≤ commit ∧ commit ≤ (log.length : Int)) ∧ (0 ≤ role ∧ role ≤ 2) ∧ (0 ≤ wait ∧ wait ≤ 20) ∧ (votes.length : Int) = sv ∧ (next.length : Int) = sv ∧ (mat.length : Int) = sv
  · have R : ∃ q, (LogFrom log term 0 → Ev (fun k => spec_NodeOk.j0 k sv false id term vote log commit role lead wait votes next mat) q) ∧ (¬ LogFrom log term 0 → Ev (fun k => spec_NodeOk.j0 k sv false id term vote log commit role lead wait votes next mat) false) ∧
        (q = true ↔ (role ≠ 0 → 1 ≤ term ∧ vote = id) ∧ (role = 2 → lead = id) ∧ ∀ i : Int, 0 ≤ i → i < sv → SrvP (log.length : Int) role votes next mat i ∧ VoteP role votes i) := by
      have tail : ∃ q, Ev (fun k => if role = 0 then (spec_NodeOk.j2 k sv false id term vote log commit role lead wait votes next mat) else (if term < 1 then (spec_NodeOk.j2 k sv true id term vote log commit role lead wait votes next mat) else (spec_NodeOk.j2 k sv (vote != id) id term vote log commit role lead wait votes next mat))) q ∧
          (q = true ↔ (role ≠ 0 → 1 ≤ term ∧ vote = id) ∧ (role = 2 → lead = id) ∧ ∀ i : Int, 0 ≤ i → i < sv → SrvP (log.length : Int) role votes next mat i ∧ VoteP role votes i) := by
        have bb : ∃ b : Bool, b = true ↔ (role = 2 → lead = id) := ⟨decide (role = 2 → lead = id), by rw [decide_eq_true_iff]⟩
        obtain ⟨b, hb⟩ := bb
        obtain ⟨q, e, hq⟩ := specNode_srv id term vote log commit role lead wait votes next mat sv N.1.2 hn N.2.2.2.2.2.2.2.2.2.1 N.2.2.2.2.2.2.2.2.2.2.1 N.2.2.2.2.2.2.2.2.2.2.2 b hb (sv - 0).toNat 0 (by omega) (by omega) rfl
        have F : Ev (fun k => spec_NodeOk.j2 k sv false id term vote log commit role lead wait votes next mat) q := Ev.step (fun k => by rw [spec_NodeOk.j2]) (ev_if_neg (by simp) e)
        have G : Ev (fun k => spec_NodeOk.j2 k sv true id term vote log commit role lead wait votes next mat) false := Ev.step (fun k => by rw [spec_NodeOk.j2]) (ev_if_pos rfl (Ev.now _))
        by_cases c0 : role = 0
        · exact ⟨q, ev_if_pos c0 F, hq.trans ⟨fun h => ⟨fun z => absurd c0 z, h⟩, fun h => h.2⟩⟩
        by_cases c1 : term < 1
        · exact ⟨false, ev_if_neg c0 (ev_if_pos c1 G), ⟨fun h => absurd h (by simp), fun h => by have := (h.1 c0).1; omega⟩⟩
        by_cases c2 : vote = id
        · refine ⟨q, ev_if_neg c0 (ev_if_neg c1 ?_), hq.trans ⟨fun h => ⟨fun _ => ⟨by omega, c2⟩, h⟩, fun h => h.2⟩⟩
          rw [show (vote != id) = false by simp [c2]]
          exact F
        · refine ⟨false, ev_if_neg c0 (ev_if_neg c1 ?_), ⟨fun h => absurd h (by simp), fun h => absurd (h.1 c0).2 c2⟩⟩
          rw [show (vote != id) = true by simp [c2]]
          exact G
      obtain ⟨q, eq, hq⟩ := tail
      obtain ⟨l1, l2⟩ := specNode_log id term vote log commit role lead wait votes next mat sv hn hf q eq log.length 0 (by omega) (by omega)
      have J : ∀ x, Ev (fun k => spec_NodeOk.l0 k sv ((0 : Nat) : Int) id term vote log commit role lead wait votes next mat) x → Ev (fun k => spec_NodeOk.j0 k sv false id term vote log commit role lead wait votes next mat) x := by
        intro x h
        have h : Ev (fun k => spec_NodeOk.l0 k sv 0 id term vote log commit role lead wait votes next mat) x := h
        exact Ev.step (fun k => by rw [spec_NodeOk.j0]) (ev_if_neg (by simp) h)
      exact ⟨q, fun h => J _ (l1 h), fun h => J _ (l2 h), hq⟩
    obtain ⟨q, r1, r2, hq⟩ := R
    have walk : ∀ x, Ev (fun k => spec_NodeOk.j0 k sv false id term vote log commit role lead wait votes next mat) x → Ev (fun k => spec_NodeOk.f k id term vote log commit role lead wait votes next mat sv) x := by
      intro x F
      unfold spec_NodeOk.f
      repeat' (first
        | exact F
        | refine ev_bind_eq e1 ?_
        | refine ev_bind_eq e2 ?_
        | refine ev_bind_eq (e3 _) ?_
        | refine ev_ite (fun hc => ?_) (fun hc => ?_)
        | (rw [show ((mat.length : Int) != sv) = false by simp; omega]; exact F)
        | (exfalso; grind))
    by_cases L : LogFrom log term 0
    · refine ⟨q, walk q (r1 L), hq.trans ⟨fun h => ?_, fun h => ?_⟩⟩
      · exact ⟨N.1, N.2.1, N.2.2.1, N.2.2.2.1, N.2.2.2.2.1, N.2.2.2.2.2.1, L, N.2.2.2.2.2.2.1, N.2.2.2.2.2.2.2.1, N.2.2.2.2.2.2.2.2.1, N.2.2.2.2.2.2.2.2.2.1, N.2.2.2.2.2.2.2.2.2.2.1, N.2.2.2.2.2.2.2.2.2.2.2, h.1, h.2.1, h.2.2⟩
      · obtain ⟨_, _, _, _, _, _, _, _, _, _, _, _, _, a, b, c⟩ := h
        exact ⟨a, b, c⟩
    · refine ⟨false, walk false (r2 L), ⟨fun h => absurd h (by simp), fun h => ?_⟩⟩
      obtain ⟨_, _, _, _, _, _, a, _⟩ := h
      exact absurd a L
  · refine ⟨false, ?_, ⟨fun h => absurd h (by simp), fun h => ?_⟩⟩
    · unfold spec_NodeOk.f
      repeat' (first
        | exact T
        | refine ev_bind_eq e1 ?_
        | refine ev_bind_eq e2 ?_
        | refine ev_bind_eq (e3 _) ?_
        | refine ev_ite (fun hc => ?_) (fun hc => ?_)
        | (rw [show ((mat.length : Int) != sv) = true by grind]; exact T)
        | (exfalso; grind))
    · obtain ⟨a1, a2, a3, a4, a5, a6, _, a8, a9, a10, a11, a12, a13, _⟩ := h
      exact absurd ⟨a1, a2, a3, a4, a5, a6, a8, a9, a10, a11, a12, a13⟩ N

end Go.Proofs.Ytoaddpfoecggpaa.Pure
