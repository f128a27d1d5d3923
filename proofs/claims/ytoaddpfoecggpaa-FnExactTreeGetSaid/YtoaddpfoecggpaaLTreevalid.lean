import Derived.Test.YtoaddpfoecggpaaPGx0
import Derived.Test.YtoaddpfoecggpaaPGx4
import Derived.Test.YtoaddpfoecggpaaPGx6
import Derived.Test.YtoaddpfoecggpaaLBase
import Derived.Test.YtoaddpfoecggpaaLTreel6ok
import Derived.Test.YtoaddpfoecggpaaLTreelong
import Derived.Test.YtoaddpfoecggpaaLTreeok
import Derived.Test.YtoaddpfoecggpaaLTrees
import Derived.Test.YtoaddpfoecggpaaLTreescan
namespace Go.Proofs.Ytoaddpfoecggpaa.Pure
open Go.RowKit Go.Proofs.Ytoaddpfoecggpaa.PG Go.Proofs.YtoaddpfoecggpaaW.PrintWords Go.Proofs.YtoaddpfoecggpaaW.PrintLast Go.Proofs.YtoaddpfoecggpaaW.PrintMore
set_option linter.unusedVariables false
set_option linter.unusedSimpArgs false
def ValidT (t : S30) : Prop := okD 25 t ∧ cntD 25 t ≤ 200 ∧ longD 25 t ≤ 20
theorem specTreeOk_ev {t : S30} (hf : FitU t) : ∃ b, Ev (fun k => spec_TreeOk.f k t.f0 t.f1 t.f2 t.f3) b ∧ (b = true ↔ ValidT t) := by
  obtain ⟨q, e, h1, h2⟩ := l6ok_ev 25 t (by omega) hf true 200 (by simp) (by omega) (by omega)
  unfold spec_TreeOk.f
  by_cases g : okD 25 t ∧ (cntD 25 t : Int) ≤ 200
  · have hq := h1 g
    refine ⟨decide ((longD 25 t : Int) ≤ 20), Ev.bind e (ev_if_pos (by omega) (Ev.bind (l6long_ev 25 t (by omega) hf g.1) (Ev.now _))), ?_⟩
    rw [decide_eq_true_iff]
    unfold ValidT
    constructor
    · intro h
      exact ⟨g.1, by omega, by omega⟩
    · intro h
      have := h.2.2
      omega
  · have hq := h2 g
    refine ⟨false, Ev.bind e (ev_if_neg (by omega) (Ev.now _)), ⟨fun h => absurd h (by simp), fun h => ?_⟩⟩
    exact absurd ⟨h.1, by have := h.2.1; omega⟩ g
theorem implTreeOk_ev {t : S30} (hf : FitU t) : ∃ b, Ev (fun k => impl_TreeOk.f k t.f0 t.f1 t.f2 t.f3) b ∧ (b = true ↔ ValidT t) := by
  obtain ⟨v, n, e, hv, _⟩ := scan_ev 25 t (by omega) hf 0 0 (by omega) (by omega) (by omega) (by omega)
  unfold impl_TreeOk.f
  refine ⟨v, Ev.bind e (Ev.now _), ?_⟩
  rw [hv]
  unfold ValidT
  constructor
  · rintro ⟨a, b, c⟩
    exact ⟨a, by omega, by omega⟩
  · rintro ⟨a, b, c⟩
    exact ⟨a, by omega, by omega⟩

end Go.Proofs.Ytoaddpfoecggpaa.Pure
