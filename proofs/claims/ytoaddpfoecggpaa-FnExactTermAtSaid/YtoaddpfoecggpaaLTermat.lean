import Derived.Test.YtoaddpfoecggpaaPNx0
import Derived.Test.YtoaddpfoecggpaaPNx11
import Derived.Test.YtoaddpfoecggpaaLBase
import Derived.Test.YtoaddpfoecggpaaLWithin
namespace Go.Proofs.Ytoaddpfoecggpaa.Pure
open Go.RowKit Go.Proofs.Ytoaddpfoecggpaa.PN Go.Proofs.YtoaddpfoecggpaaW.PrintWords Go.Proofs.YtoaddpfoecggpaaW.PrintLast Go.Proofs.YtoaddpfoecggpaaW.PrintMore
set_option linter.unusedVariables false
set_option linter.unusedSimpArgs false
theorem termAt_eq (a0 a1 a2 : Int) (l3 : List S115) (a4 a5 a6 a7 : Int) (l8 : List Bool) (l9 l10 : List Int) (p : Int) (hw : -9223372036854775808 ≤ p ∧ p ≤ 9223372036854775807) (h3 : l3.length ≤ 1048576) :
    ∃ v, spec_l4termAt.f a0 a1 a2 l3 a4 a5 a6 a7 l8 l9 l10 p = some (v, a0, a1, a2, a4, a5, a6, a7) ∧ impl_Node_termAt.f a0 a1 a2 l3 a4 a5 a6 a7 l8 l9 l10 p = some v := by
  unfold spec_l4termAt.f impl_Node_termAt.f
  rw [within_eq, Option.bind_some]
  by_cases c1 : p < 1
  · rw [if_pos c1, if_neg (by rw [decide_eq_false (by omega)]; simp)]
    exact ⟨0, rfl, rfl⟩
  by_cases c2 : p > (l3.length : Int)
  · rw [if_neg c1, if_pos c2, if_neg (by rw [decide_eq_false (by omega)]; simp)]
    exact ⟨0, rfl, rfl⟩
  rw [if_neg c1, if_neg c2, if_pos (decide_eq_true (by omega)), w64 (x := p - 1) (by omega) (by omega), if_pos (by omega), if_pos (by omega), if_pos (by omega), if_pos (by omega)]
  exact ⟨_, rfl, rfl⟩

end Go.Proofs.Ytoaddpfoecggpaa.Pure
