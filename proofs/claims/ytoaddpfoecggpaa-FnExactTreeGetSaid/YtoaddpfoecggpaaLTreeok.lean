import Derived.Test.YtoaddpfoecggpaaPGx0
namespace Go.Proofs.Ytoaddpfoecggpaa.Pure
open Go.RowKit Go.Proofs.Ytoaddpfoecggpaa.PG Go.Proofs.YtoaddpfoecggpaaW.PrintWords Go.Proofs.YtoaddpfoecggpaaW.PrintLast Go.Proofs.YtoaddpfoecggpaaW.PrintMore
set_option linter.unusedVariables false
set_option linter.unusedSimpArgs false
/-- Of a tree with so many levels left (25 at the root): is each part of it well formed? -/
def okD : Nat → S30 → Prop
  | 0, _ => False
  | r + 1, t => (t.f0.length = 0 ↔ r = 24) ∧ (t.f1 = true → 0 ≤ t.f2 ∧ t.f2 ≤ 2147483647) ∧ (t.f1 = false → t.f2 = 0) ∧ (r = 24 ∨ t.f1 = true ∨ 2 ≤ t.f3.length) ∧
      ∀ j, (h : j < t.f3.length) → okD r t.f3[j] ∧ (0 < j → rd (t.f3[j - 1]'(by omega)).f0 0 < rd t.f3[j].f0 0)
/-- How many parts it has. -/
def cntD : Nat → S30 → Nat
  | 0, _ => 1
  | r + 1, t => 1 + (t.f3.map (cntD r)).sum
/-- How long its longest key is. -/
def longD : Nat → S30 → Nat
  | 0, t => t.f0.length
  | r + 1, t => t.f0.length + (t.f3.map (longD r)).foldr max 0
/-- Its kids from one on. -/
def okFrom (r : Nat) (ks : List S30) (i : Nat) : Prop := ∀ j, i ≤ j → (h : j < ks.length) → okD r ks[j] ∧ (0 < j → rd (ks[j - 1]'(by omega)).f0 0 < rd ks[j].f0 0)
def cntFrom (r : Nat) (ks : List S30) (i : Nat) : Nat := ((ks.drop i).map (cntD r)).sum
def longFrom (r : Nat) (ks : List S30) (i : Nat) : Nat := ((ks.drop i).map (longD r)).foldr max 0
theorem okD_pos {r : Nat} {t : S30} (h : okD r t) : 0 < r := by
  cases r
  · exact h.elim
  · omega
theorem okD_edge {r : Nat} {t : S30} (h : okD r t) (hr : r < 25) : 0 < t.f0.length := by
  cases r with
  | zero => exact h.elim
  | succ r =>
    have := h.1
    omega
theorem cntFrom_end (r : Nat) (ks : List S30) (i : Nat) (h : ks.length ≤ i) : cntFrom r ks i = 0 := by
  unfold cntFrom
  rw [List.drop_of_length_le h]
  rfl
theorem cntFrom_step (r : Nat) (ks : List S30) (i : Nat) (h : i < ks.length) : cntFrom r ks i = cntD r ks[i] + cntFrom r ks (i + 1) := by
  unfold cntFrom
  rw [List.drop_eq_getElem_cons h, List.map_cons, List.sum_cons]
theorem longFrom_end (r : Nat) (ks : List S30) (i : Nat) (h : ks.length ≤ i) : longFrom r ks i = 0 := by
  unfold longFrom
  rw [List.drop_of_length_le h]
  rfl
theorem longFrom_step (r : Nat) (ks : List S30) (i : Nat) (h : i < ks.length) : longFrom r ks i = max (longD r ks[i]) (longFrom r ks (i + 1)) := by
  unfold longFrom
  rw [List.drop_eq_getElem_cons h, List.map_cons, List.foldr_cons]
theorem okFrom_end (r : Nat) (ks : List S30) (i : Nat) (h : ks.length ≤ i) : okFrom r ks i := fun j h1 h2 => absurd h2 (by omega)
theorem okFrom_step (r : Nat) (ks : List S30) (i : Nat) (h : i < ks.length) : okFrom r ks i ↔ (okD r ks[i] ∧ (0 < i → rd (ks[i - 1]'(by omega)).f0 0 < rd ks[i].f0 0)) ∧ okFrom r ks (i + 1) := by
  constructor
  · intro g
    exact ⟨g i (Nat.le_refl _) h, fun j h1 h2 => g j (by omega) h2⟩
  · rintro ⟨a, b⟩ j h1 h2
    by_cases e : j = i
    · subst e
      exact a
    · exact b j (by omega) h2
theorem okD_succ (r : Nat) (t : S30) : okD (r + 1) t ↔ (t.f0.length = 0 ↔ r = 24) ∧ (t.f1 = true → 0 ≤ t.f2 ∧ t.f2 ≤ 2147483647) ∧ (t.f1 = false → t.f2 = 0) ∧ (r = 24 ∨ t.f1 = true ∨ 2 ≤ t.f3.length) ∧ okFrom r t.f3 0 := by
  rw [okD]
  unfold okFrom
  constructor
  · rintro ⟨a, b, c, d, e⟩
    exact ⟨a, b, c, d, fun j _ h => e j h⟩
  · rintro ⟨a, b, c, d, e⟩
    exact ⟨a, b, c, d, fun j h => e j (by omega) h⟩
theorem cntD_succ (r : Nat) (t : S30) : cntD (r + 1) t = 1 + cntFrom r t.f3 0 := by rw [cntD, cntFrom, List.drop_zero]
theorem longD_succ (r : Nat) (t : S30) : longD (r + 1) t = t.f0.length + longFrom r t.f3 0 := by rw [longD, longFrom, List.drop_zero]
theorem cntD_pos (r : Nat) (t : S30) : 0 < cntD r t := by
  cases r
  · rw [cntD]; omega
  · rw [cntD_succ]; omega

end Go.Proofs.Ytoaddpfoecggpaa.Pure
