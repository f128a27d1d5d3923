import Derived.Test.YtoaddpfoecggpaaPGx0
namespace Go.Proofs.Ytoaddpfoecggpaa.Pure
open Go.RowKit Go.Proofs.Ytoaddpfoecggpaa.PG Go.Proofs.YtoaddpfoecggpaaW.PrintWords Go.Proofs.YtoaddpfoecggpaaW.PrintLast Go.Proofs.YtoaddpfoecggpaaW.PrintMore
set_option linter.unusedVariables false
set_option linter.unusedSimpArgs false
mutual
/-- A tree as the program has it. -/
def cvTree : S25 → S30
  | ⟨a, b, c, ks⟩ => ⟨a, b, c, cvTrees ks⟩
def cvTrees : List S25 → List S30
  | [] => []
  | x :: xs => cvTree x :: cvTrees xs
end
theorem cvTrees_map (l : List S25) : cvTrees l = l.map cvTree := by
  induction l with
  | nil => rw [cvTrees]; rfl
  | cons x xs ih => rw [cvTrees, ih]; rfl
theorem cvTree_eq (t : S25) : cvTree t = ⟨t.f0, t.f1, t.f2, t.f3.map cvTree⟩ := by
  cases t
  rw [cvTree, cvTrees_map]
/-- All of its rows are short. -/
inductive FitT : S25 → Prop
  | mk (t : S25) (h0 : t.f0.length ≤ 1048576) (h3 : t.f3.length ≤ 1048576) (hk : ∀ x ∈ t.f3, FitT x) : FitT t
inductive FitU : S30 → Prop
  | mk (t : S30) (h0 : t.f0.length ≤ 1048576) (h3 : t.f3.length ≤ 1048576) (hk : ∀ x ∈ t.f3, FitU x) : FitU t
theorem FitU.h0 {t : S30} (h : FitU t) : t.f0.length ≤ 1048576 := by cases h; assumption
theorem FitU.h3 {t : S30} (h : FitU t) : t.f3.length ≤ 1048576 := by cases h; assumption
theorem FitU.hk {t : S30} (h : FitU t) : ∀ x ∈ t.f3, FitU x := by cases h; assumption
theorem fit_cv {t : S25} (h : FitT t) : FitU (cvTree t) := by
  induction h with
  | mk t h0 h3 hk ih =>
    refine FitU.mk _ ?_ ?_ ?_
    · rw [cvTree_eq]; exact h0
    · rw [cvTree_eq]; show (t.f3.map cvTree).length ≤ _; rw [List.length_map]; exact h3
    · intro x hx
      rw [cvTree_eq] at hx
      obtain ⟨y, hy, rfl⟩ := List.mem_map.1 hx
      exact ih y hy
theorem rd_T25_get (l : List S25) (i : Nat) (h : i < l.length) : rd_T25 l (i : Int) = l[i] := by
  unfold rd_T25
  rw [Int.toNat_natCast]
  simp [List.getD, h]
theorem rd_T30_get (l : List S30) (i : Nat) (h : i < l.length) : rd_T30 l (i : Int) = l[i] := by
  unfold rd_T30
  rw [Int.toNat_natCast]
  simp [List.getD, h]

end Go.Proofs.Ytoaddpfoecggpaa.Pure
