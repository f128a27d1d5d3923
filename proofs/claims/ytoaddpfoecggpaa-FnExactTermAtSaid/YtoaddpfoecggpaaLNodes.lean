import Derived.Test.YtoaddpfoecggpaaPNx0
import Derived.Test.YtoaddpfoecggpaaLItems
namespace Go.Proofs.Ytoaddpfoecggpaa.Pure
open Go.RowKit Go.Proofs.Ytoaddpfoecggpaa.PN Go.Proofs.YtoaddpfoecggpaaW.PrintWords Go.Proofs.YtoaddpfoecggpaaW.PrintLast Go.Proofs.YtoaddpfoecggpaaW.PrintMore
set_option linter.unusedVariables false
set_option linter.unusedSimpArgs false
/-- An item of a server's log, beside the one ahead. -/
def LogP (log : List S115) (term : Int) (i : Nat) (h : i < log.length) : Prop :=
  itemOkP log[i].f0 log[i].f1.f0 log[i].f1.f1 log[i].f1.f2.f0 log[i].f1.f2.f1 log[i].f1.f2.f2 log[i].f1.f2.f3 = true ∧ log[i].f0 ≤ term ∧ (0 < i → (log[i - 1]'(by omega)).f0 ≤ log[i].f0)
def LogFrom (log : List S115) (term : Int) (i : Nat) : Prop := ∀ j, i ≤ j → (h : j < log.length) → LogP log term j h
theorem logFrom_end (log : List S115) (term : Int) (i : Nat) (h : log.length ≤ i) : LogFrom log term i := fun j h1 h2 => absurd h2 (by omega)
theorem logFrom_step (log : List S115) (term : Int) (i : Nat) (h : i < log.length) : LogFrom log term i ↔ LogP log term i h ∧ LogFrom log term (i + 1) := by
  constructor
  · intro g
    exact ⟨g i (Nat.le_refl _) h, fun j h1 h2 => g j (by omega) h2⟩
  · rintro ⟨a, b⟩ j h1 h2
    by_cases e : j = i
    · subst e
      exact a
    · exact b j (by omega) h2
theorem item_term {t c r kd : Int} {key val : List Int} {n : Int} (h : itemOkP t c r kd key val n = true) : 1 ≤ t := by
  unfold itemOkP at h
  rw [Bool.and_eq_true, decide_eq_true_iff] at h
  exact h.1.1
/-- What is told of one of the servers. -/
def SrvP (len role : Int) (votes : List Bool) (next mat : List Int) (i : Int) : Prop :=
  (role = 2 → 1 ≤ rd next i ∧ rd next i ≤ len + 1 ∧ 0 ≤ rd mat i ∧ rd mat i ≤ len) ∧ (role ≠ 2 → rd next i = 0 ∧ rd mat i = 0)
def VoteP (role : Int) (votes : List Bool) (i : Int) : Prop := role = 0 → rdOf false votes i = false
def NodeP (id term vote : Int) (log : List S115) (commit role lead wait : Int) (votes : List Bool) (next mat : List Int) (sv : Int) : Prop :=
  (1 ≤ sv ∧ sv ≤ 5) ∧ (0 ≤ id ∧ id < sv) ∧ (0 ≤ term ∧ term ≤ 100000) ∧ (-1 ≤ vote ∧ vote < sv) ∧ (-1 ≤ lead ∧ lead < sv) ∧ (log.length : Int) ≤ 400 ∧ LogFrom log term 0 ∧
    (0 ≤ commit ∧ commit ≤ (log.length : Int)) ∧ (0 ≤ role ∧ role ≤ 2) ∧ (0 ≤ wait ∧ wait ≤ 20) ∧ (votes.length : Int) = sv ∧ (next.length : Int) = sv ∧ (mat.length : Int) = sv ∧
    (role ≠ 0 → 1 ≤ term ∧ vote = id) ∧ (role = 2 → lead = id) ∧ ∀ i : Int, 0 ≤ i → i < sv → SrvP (log.length : Int) role votes next mat i ∧ VoteP role votes i

end Go.Proofs.Ytoaddpfoecggpaa.Pure
