import Derived.Test.YtoaddpfoecggpaaPNx0
import Derived.Test.YtoaddpfoecggpaaPNx6
import Derived.Test.YtoaddpfoecggpaaPNx8
import Derived.Test.YtoaddpfoecggpaaPNx9
import Derived.Test.YtoaddpfoecggpaaLBase
import Derived.Test.YtoaddpfoecggpaaLItemrows
import Derived.Test.YtoaddpfoecggpaaLItems
import Derived.Test.YtoaddpfoecggpaaLNodes
import Derived.Test.YtoaddpfoecggpaaLWithin
namespace Go.Proofs.Ytoaddpfoecggpaa.Pure
open Go.RowKit Go.Proofs.Ytoaddpfoecggpaa.PN Go.Proofs.YtoaddpfoecggpaaW.PrintWords Go.Proofs.YtoaddpfoecggpaaW.PrintLast Go.Proofs.YtoaddpfoecggpaaW.PrintMore
set_option linter.unusedVariables false
set_option linter.unusedSimpArgs false
theorem containsTrue_loop (l : List Bool) (hn : l.length ≤ 1048576) (d : Nat) : ∀ (i : Nat), i ≤ l.length → l.length - i = d →
    ∃ q, Ev (fun k => slices_Index_bool_bool.l0 k l true (l.length : Int) (i : Int)) q ∧ (q ≥ 0 ↔ ∃ j : Nat, i ≤ j ∧ j < l.length ∧ rdOf false l (j : Int) = true) := by
  induction d with
  | zero =>
    intro i hi hd
    refine ⟨-1, Ev.step (fun k => by rw [slices_Index_bool_bool.l0]) (ev_if_neg (by omega) (Ev.now _)), ⟨fun h => absurd h (by decide), ?_⟩⟩
    rintro ⟨j, h1, h2, _⟩
    omega
  | succ d ih =>
    intro i hi hd
    have hi' : i < l.length := by omega
    obtain ⟨q, e, hq⟩ := ih (i + 1) (by omega) (by omega)
    rw [Int.natCast_add, Int.natCast_one] at e
    by_cases c : rdOf false l (i : Int) = true
    · refine ⟨(i : Int), Ev.step (fun k => by rw [slices_Index_bool_bool.l0]) ?_, ⟨fun _ => ⟨i, Nat.le_refl _, hi', c⟩, fun _ => by omega⟩⟩
      exact ev_if_pos (by omega) (ev_if_pos (by omega) (ev_if_pos (by omega) (ev_if_pos (by simp [c]) (Ev.now _))))
    · refine ⟨q, Ev.step (fun k => by rw [slices_Index_bool_bool.l0]) ?_, hq.trans ⟨fun ⟨j, h1, h2, h3⟩ => ⟨j, by omega, h2, h3⟩, fun ⟨j, h1, h2, h3⟩ => ?_⟩⟩
      · rw [w64 (x := (i : Int) + 1) (by omega) (by omega)]
        exact ev_if_pos (by omega) (ev_if_pos (by omega) (ev_if_pos (by omega) (ev_if_neg (by simp [c]) e)))
      · by_cases z : j = i
        · subst z
          exact absurd h3 c
        · exact ⟨j, by omega, h2, h3⟩
theorem containsTrue_ev (l : List Bool) (hn : l.length ≤ 1048576) : ∃ b, Ev (fun k => slices_Contains_bool_bool.f k l true) b ∧ (b = true ↔ ∃ j : Nat, j < l.length ∧ rdOf false l (j : Int) = true) := by
  obtain ⟨q, e, hq⟩ := containsTrue_loop l hn l.length 0 (by omega) (by omega)
  have e : Ev (fun k => slices_Index_bool_bool.l0 k l true (l.length : Int) 0) q := e
  unfold slices_Contains_bool_bool.f slices_Index_bool_bool.f
  refine ⟨decide (q ≥ 0), Ev.bind e (Ev.now _), ?_⟩
  rw [decide_eq_true_iff, hq]
  exact ⟨fun ⟨j, _, h2, h3⟩ => ⟨j, h2, h3⟩, fun ⟨j, h2, h3⟩ => ⟨j, by omega, h2, h3⟩⟩
set_option maxHeartbeats 4000000 in
theorem implNode_srv (id term vote : Int) (log : List S115) (commit role lead wait : Int) (votes : List Bool) (next mat : List Int) (sv : Int) (hs : sv ≤ 5) (hn : log.length ≤ 1048576) (hx : (next.length : Int) = sv) (hm : (mat.length : Int) = sv) (d : Nat) :
    ∀ (i : Int), 0 ≤ i → i ≤ sv → (sv - i).toNat = d →
    ∃ q, Ev (fun k => impl_NodeOk.l1 k sv i id term vote log commit role lead wait votes next mat) q ∧ (q = true ↔ ∀ j, i ≤ j → j < sv → SrvP (log.length : Int) role votes next mat j) := by
  induction d with
  | zero =>
    intro i h0 hi hd
    exact ⟨true, Ev.step (fun k => by rw [impl_NodeOk.l1]) (ev_if_neg (by omega) (Ev.now _)), ⟨fun _ j h1 h2 => by omega, fun _ => rfl⟩⟩
  | succ d ih =>
    intro i h0 hi hd
    obtain ⟨q, e, hq⟩ := ih (i + 1) (by omega) (by omega) (by omega)
    have e' : Ev (fun k => impl_NodeOk.l1 k sv (wrap64 (i + 1)) id term vote log commit role lead wait votes next mat) q := by
      rw [w64 (x := i + 1) (by omega) (by omega)]
      exact e
    by_cases P : SrvP (log.length : Int) role votes next mat i
    · refine ⟨q, ?_, hq.trans ⟨fun h => fun j h1 h2 => ?_, fun h => fun j h1 h2 => h j (by omega) h2⟩⟩
      · obtain ⟨p1, p2⟩ := P
        refine Ev.step (g := fun k => impl_NodeOk.l1 k _ _ _ _ _ _ _ _ _ _ _ _ _) (fun k => by rw [impl_NodeOk.l1]) ?_
        rw [w64 (x := (log.length : Int) + 1) (by omega) (by omega)]
        repeat' (first
          | exact e'
          | refine ev_bind_eq (within_eq _ _ _) ?_
          | refine ev_ite (fun hc => ?_) (fun hc => ?_)
          | (exfalso; grind))
      · by_cases z : j = i
        · subst z
          exact P
        · exact h j (by omega) h2
    · refine ⟨false, ?_, ⟨fun h => absurd h (by simp), fun h => absurd (h i (by omega) (by omega)) P⟩⟩
      have P' : ¬ ((role = 2 → 1 ≤ rd next i ∧ rd next i ≤ (log.length : Int) + 1 ∧ 0 ≤ rd mat i ∧ rd mat i ≤ (log.length : Int)) ∧ (role ≠ 2 → rd next i = 0 ∧ rd mat i = 0)) := P
      refine Ev.step (g := fun k => impl_NodeOk.l1 k _ _ _ _ _ _ _ _ _ _ _ _ _) (fun k => by rw [impl_NodeOk.l1]) ?_
      rw [w64 (x := (log.length : Int) + 1) (by omega) (by omega)]
      repeat' (first
        | exact Ev.now _
        | refine ev_bind_eq (within_eq _ _ _) ?_
        | refine ev_ite (fun hc => ?_) (fun hc => ?_)
        | (exfalso; grind))
theorem implNode_log (id term vote : Int) (log : List S115) (commit role lead wait : Int) (votes : List Bool) (next mat : List Int) (sv : Int) (hn : log.length ≤ 1048576) (hf : ∀ x ∈ log, fitItem x) (b : Bool)
    (hb : ∀ p : Int, Ev (fun k => impl_NodeOk.l0 k sv p log (log.length : Int) ((log.length : Nat) : Int) id term vote log commit role lead wait votes next mat) b) (d : Nat) :
    ∀ (i : Nat) (p : Int), i ≤ log.length → log.length - i = d → (i = 0 → p = 1) → (0 < i → ∀ h : i - 1 < log.length, p = log[i - 1].f0) →
    (LogFrom log term i → Ev (fun k => impl_NodeOk.l0 k sv p log (log.length : Int) (i : Int) id term vote log commit role lead wait votes next mat) b) ∧ (¬ LogFrom log term i → Ev (fun k => impl_NodeOk.l0 k sv p log (log.length : Int) (i : Int) id term vote log commit role lead wait votes next mat) false) := by
  induction d with
  | zero =>
    intro i p hi hd hp0 hp1
    have : i = log.length := by omega
    subst this
    exact ⟨fun _ => hb p, fun h => absurd (logFrom_end log term _ (Nat.le_refl _)) h⟩
  | succ d ih =>
    intro i p hi hd hp0 hp1
    have hi' : i < log.length := by omega
    obtain ⟨h1, h2⟩ := ih (i + 1) log[i].f0 (by omega) (by omega) (by omega) (fun _ h => by simp)
    rw [Int.natCast_add, Int.natCast_one] at h1 h2
    have S := logFrom_step log term i hi'
    have fi := hf log[i] (List.getElem_mem hi')
    have e := implItemOk_ev log[i].f0 log[i].f1.f0 log[i].f1.f1 log[i].f1.f2.f0 log[i].f1.f2.f1 log[i].f1.f2.f2 log[i].f1.f2.f3 (by have := fi.1; omega)
    have key : ∀ q : Bool, (LogP log term i hi' → Ev (fun k => impl_NodeOk.l0 k sv log[i].f0 log (log.length : Int) ((i : Int) + 1) id term vote log commit role lead wait votes next mat) q) → (¬ LogP log term i hi' → q = false) → Ev (fun k => impl_NodeOk.l0 k sv p log (log.length : Int) (i : Int) id term vote log commit role lead wait votes next mat) q := by
      intro q hq hq'
      refine Ev.step (fun k => by rw [impl_NodeOk.l0]) ?_
      rw [rd_T54_get log i hi', w64 (x := (i : Int) + 1) (by omega) (by omega)]
      refine ev_if_pos (by omega) (ev_if_pos (by omega) (ev_if_pos (by omega) (Ev.bind e ?_)))
      by_cases c1 : itemOkP log[i].f0 log[i].f1.f0 log[i].f1.f1 log[i].f1.f2.f0 log[i].f1.f2.f1 log[i].f1.f2.f2 log[i].f1.f2.f3 = true
      case neg => exact ev_if_neg c1 (ev_done (hq' (fun h => c1 h.1)).symm)
      refine ev_if_pos c1 (ev_bind_eq (within_eq _ _ _) ?_)
      have t1 := item_term c1
      by_cases c2 : p ≤ log[i].f0 ∧ log[i].f0 ≤ term
      · refine ev_if_pos (decide_eq_true c2) (hq ⟨c1, c2.2, fun c3 => ?_⟩)
        rw [← hp1 c3 (by omega)]
        exact c2.1
      · refine ev_if_neg (by rw [decide_eq_false c2]; simp) (ev_done (hq' (fun h => c2 ⟨?_, h.2.1⟩)).symm)
        by_cases c3 : 0 < i
        · rw [hp1 c3 (by omega)]
          exact h.2.2 c3
        · rw [hp0 (by omega)]
          exact t1
    constructor
    · intro h
      exact key b (fun _ => h1 (S.1 h).2) (fun g => absurd (S.1 h).1 g)
    · intro h
      exact key false (fun g => h2 (fun z => h (S.2 ⟨g, z⟩))) (fun _ => rfl)
theorem votes_all (votes : List Bool) (sv : Int) (hv : (votes.length : Int) = sv) : (¬ ∃ j : Nat, j < votes.length ∧ rdOf false votes (j : Int) = true) ↔ ∀ i : Int, 0 ≤ i → i < sv → rdOf false votes i = false := by
  constructor
  · intro h i h0 h1
    have ei : i = ((i.toNat : Nat) : Int) := by omega
    rw [ei]
    by_cases c : rdOf false votes ((i.toNat : Nat) : Int) = true
    · exact absurd ⟨i.toNat, by omega, c⟩ h
    · simpa using c
  · rintro h ⟨j, hj, c⟩
    have := h (j : Int) (by omega) (by omega)
    rw [this] at c
    exact absurd c (by simp)
set_option maxHeartbeats 8000000 in
theorem implNodeOk_ev (id term vote : Int) (log : List S115) (commit role lead wait : Int) (votes : List Bool) (next mat : List Int) (sv : Int) (hw : -9223372036854775808 ≤ sv ∧ sv ≤ 9223372036854775807) (hn : log.length ≤ 1048576) (hvn : votes.length ≤ 1048576) (hf : ∀ x ∈ log, fitItem x) :
    ∃ b, Ev (fun k => impl_NodeOk.f k id term vote log commit role lead wait votes next mat sv) b ∧ (b = true ↔ NodeP id term vote log commit role lead wait votes next mat sv) := by
  have T : Ev (fun k => impl_NodeOk.j0 k sv true id term vote log commit role lead wait votes next mat) false := Ev.step (fun k => by rw [impl_NodeOk.j0]) (ev_if_pos rfl (Ev.now _))
  have T2 : Ev (fun k => impl_NodeOk.j2 k sv true id term vote log commit role lead wait votes next mat) false := Ev.step (fun k => by rw [impl_NodeOk.j2]) (ev_if_pos rfl (Ev.now _))
  have T3 : Ev (fun k => impl_NodeOk.j3 k sv true id term vote log commit role lead wait votes next mat) false := Ev.step (fun k => by rw [impl_NodeOk.j3]) (ev_if_pos rfl (Ev.now _))
  have e0 : impl_isServer.f id sv = some (decide ((1 ≤ sv ∧ sv ≤ 5) ∧ 0 ≤ id ∧ id < sv)) := by
    unfold impl_isServer.f
    rw [within_eq, Option.bind_some]
    by_cases c : 1 ≤ sv ∧ sv ≤ 5
    · rw [if_pos (decide_eq_true c), within_eq, Option.bind_some, w64 (x := sv - 1) (by omega) (by omega)]
      congr 1
      rw [decide_eq_decide]
      omega
    · rw [if_neg (by rw [decide_eq_false c]; simp)]
      congr 1
      rw [eq_comm, decide_eq_false_iff_not]
      exact fun h => c h.1
  by_cases N1 : (1 ≤ sv ∧ sv ≤ 5) ∧ (0 ≤ id ∧ id < sv)
  case neg =>
    refine ⟨false, ?_, ⟨fun h => absurd h (by simp), fun h => absurd ⟨h.1, h.2.1⟩ N1⟩⟩
    unfold impl_NodeOk.f
    refine ev_bind_eq e0 (ev_if_neg (by rw [decide_eq_false N1]; simp) T)
  have w1 : wrap64 (sv - 1) = sv - 1 := w64 (by omega) (by omega)
  by_cases N2 : (0 ≤ term ∧ term ≤ 100000) ∧ (-1 ≤ vote ∧ vote < sv) ∧ (-1 ≤ lead ∧ lead < sv) ∧ (log.length : Int) ≤ 400
  case neg =>
    refine ⟨false, ?_, ⟨fun h => absurd h (by simp), fun h => ?_⟩⟩
    · unfold impl_NodeOk.f
      refine ev_bind_eq e0 (ev_if_pos (decide_eq_true N1) ?_)
      rw [w1]
      repeat' (first
        | exact T
        | refine ev_bind_eq (within_eq _ _ _) ?_
        | refine ev_ite (fun hc => ?_) (fun hc => ?_)
        | (rw [show decide ((log.length : Int) > 400) = true by grind]; exact T)
        | (exfalso; grind))
    · obtain ⟨_, _, a3, a4, a5, a6, _⟩ := h
      exact absurd ⟨a3, a4, a5, a6⟩ N2
  have walk : ∀ x, Ev (fun k => impl_NodeOk.l0 k sv 1 log (log.length : Int) ((0 : Nat) : Int) id term vote log commit role lead wait votes next mat) x → Ev (fun k => impl_NodeOk.f k id term vote log commit role lead wait votes next mat sv) x := by
    intro x F
    have F : Ev (fun k => impl_NodeOk.l0 k sv 1 log (log.length : Int) 0 id term vote log commit role lead wait votes next mat) x := F
    have G : Ev (fun k => impl_NodeOk.j0 k sv false id term vote log commit role lead wait votes next mat) x := Ev.step (fun k => by rw [impl_NodeOk.j0]) (ev_if_neg (by simp) F)
    unfold impl_NodeOk.f
    refine ev_bind_eq e0 (ev_if_pos (decide_eq_true N1) ?_)
    rw [w1]
    repeat' (first
      | exact G
      | refine ev_bind_eq (within_eq _ _ _) ?_
      | refine ev_ite (fun hc => ?_) (fun hc => ?_)
      | (rw [show decide ((log.length : Int) > 400) = false by grind]; exact G)
      | (exfalso; grind))
  have tail : ∃ q, (∀ p : Int, Ev (fun k => impl_NodeOk.l0 k sv p log (log.length : Int) ((log.length : Nat) : Int) id term vote log commit role lead wait votes next mat) q) ∧
      (q = true ↔ ((0 ≤ commit ∧ commit ≤ (log.length : Int)) ∧ (0 ≤ role ∧ role ≤ 2) ∧ (0 ≤ wait ∧ wait ≤ 20) ∧ (votes.length : Int) = sv ∧ (next.length : Int) = sv ∧ (mat.length : Int) = sv) ∧
        (role ≠ 0 → 1 ≤ term ∧ vote = id) ∧ (role = 2 → lead = id) ∧ ∀ i : Int, 0 ≤ i → i < sv → SrvP (log.length : Int) role votes next mat i ∧ VoteP role votes i) := by
    by_cases N3 : (0 ≤ commit ∧ commit ≤ (log.length : Int)) ∧ (0 ≤ role ∧ role ≤ 2) ∧ (0 ≤ wait ∧ wait ≤ 20) ∧ (votes.length : Int) = sv ∧ (next.length : Int) = sv ∧ (mat.length : Int) = sv
    case neg =>
      refine ⟨false, fun p => ?_, ⟨fun h => absurd h (by simp), fun h => absurd h.1 N3⟩⟩
      refine Ev.step (g := fun k => impl_NodeOk.l0 k _ _ _ _ _ _ _ _ _ _ _ _ _ _ _ _) (fun k => by rw [impl_NodeOk.l0]) ?_
      refine ev_if_neg (by omega) ?_
      repeat' (first
        | exact T2
        | refine ev_bind_eq (within_eq _ _ _) ?_
        | refine ev_ite (fun hc => ?_) (fun hc => ?_)
        | (rw [show ((mat.length : Int) != sv) = true by grind]; exact T2)
        | (exfalso; grind))
    obtain ⟨q, eq, hq⟩ := implNode_srv id term vote log commit role lead wait votes next mat sv N1.1.2 hn N3.2.2.2.2.1 N3.2.2.2.2.2 (sv - 0).toNat 0 (by omega) (by omega) rfl
    have F3 : Ev (fun k => impl_NodeOk.j3 k sv false id term vote log commit role lead wait votes next mat) q := Ev.step (fun k => by rw [impl_NodeOk.j3]) (ev_if_neg (by simp) eq)
    obtain ⟨v, ev, hv⟩ := containsTrue_ev votes hvn
    have hva := votes_all votes sv N3.2.2.2.1
    by_cases N4 : (role ≠ 0 → 1 ≤ term ∧ vote = id) ∧ (role = 2 → lead = id) ∧ (role = 0 → v ≠ true)
    · have F2 : Ev (fun k => impl_NodeOk.j2 k sv false id term vote log commit role lead wait votes next mat) q := by
        obtain ⟨n1, n2, n3⟩ := N4
        refine Ev.step (g := fun k => impl_NodeOk.j2 k _ _ _ _ _ _ _ _ _ _ _ _ _) (fun k => by rw [impl_NodeOk.j2]) ?_
        refine ev_if_neg (by simp) ?_
        repeat' (first
          | exact F3
          | refine Ev.bind ev ?_
          | refine ev_ite (fun hc => ?_) (fun hc => ?_)
          | (rw [show (lead != id) = false by grind]; exact F3)
          | (exfalso; grind))
      refine ⟨q, fun p => ?_, hq.trans ⟨fun h => ⟨N3, N4.1, N4.2.1, fun i h0 h1 => ⟨h i h0 h1, fun c => ?_⟩⟩, fun h i h0 h1 => (h.2.2.2 i h0 h1).1⟩⟩
      · refine Ev.step (g := fun k => impl_NodeOk.l0 k _ _ _ _ _ _ _ _ _ _ _ _ _ _ _ _) (fun k => by rw [impl_NodeOk.l0]) ?_
        refine ev_if_neg (by omega) ?_
        repeat' (first
          | exact F2
          | refine ev_bind_eq (within_eq _ _ _) ?_
          | refine ev_ite (fun hc => ?_) (fun hc => ?_)
          | (rw [show ((mat.length : Int) != sv) = false by grind]; exact F2)
          | (exfalso; grind))
      · exact hva.1 (fun z => N4.2.2 c (hv.2 z)) i h0 h1
    · have G2 : Ev (fun k => impl_NodeOk.j2 k sv false id term vote log commit role lead wait votes next mat) false := by
        refine Ev.step (g := fun k => impl_NodeOk.j2 k _ _ _ _ _ _ _ _ _ _ _ _ _) (fun k => by rw [impl_NodeOk.j2]) ?_
        refine ev_if_neg (by simp) ?_
        repeat' (first
          | exact T3
          | refine Ev.bind ev ?_
          | refine ev_ite (fun hc => ?_) (fun hc => ?_)
          | (rw [show (lead != id) = true by grind]; exact T3)
          | (exfalso; grind))
      refine ⟨false, fun p => ?_, ⟨fun h => absurd h (by simp), fun h => absurd ⟨h.2.1, h.2.2.1, fun c z => ?_⟩ N4⟩⟩
      · refine Ev.step (g := fun k => impl_NodeOk.l0 k _ _ _ _ _ _ _ _ _ _ _ _ _ _ _ _) (fun k => by rw [impl_NodeOk.l0]) ?_
        refine ev_if_neg (by omega) ?_
        repeat' (first
          | exact G2
          | refine ev_bind_eq (within_eq _ _ _) ?_
          | refine ev_ite (fun hc => ?_) (fun hc => ?_)
          | (rw [show ((mat.length : Int) != sv) = false by grind]; exact G2)
          | (exfalso; grind))
      · exact absurd (hv.1 z) (hva.2 (fun i h0 h1 => (h.2.2.2 i h0 h1).2 c))
  obtain ⟨q, eq, hq⟩ := tail
  obtain ⟨l1, l2⟩ := implNode_log id term vote log commit role lead wait votes next mat sv hn hf q eq log.length 0 1 (by omega) (by omega) (fun _ => rfl) (fun h => absurd h (by omega))
  by_cases L : LogFrom log term 0
  · refine ⟨q, walk q (l1 L), hq.trans ⟨fun h => ?_, fun h => ?_⟩⟩
    · obtain ⟨⟨b1, b2, b3, b4, b5, b6⟩, c1, c2, c3⟩ := h
      exact ⟨N1.1, N1.2, N2.1, N2.2.1, N2.2.2.1, N2.2.2.2, L, b1, b2, b3, b4, b5, b6, c1, c2, c3⟩
    · obtain ⟨_, _, _, _, _, _, _, b1, b2, b3, b4, b5, b6, c1, c2, c3⟩ := h
      exact ⟨⟨b1, b2, b3, b4, b5, b6⟩, c1, c2, c3⟩
  · refine ⟨false, walk false (l2 L), ⟨fun h => absurd h (by simp), fun h => ?_⟩⟩
    obtain ⟨_, _, _, _, _, _, a, _⟩ := h
    exact absurd a L

end Go.Proofs.Ytoaddpfoecggpaa.Pure
