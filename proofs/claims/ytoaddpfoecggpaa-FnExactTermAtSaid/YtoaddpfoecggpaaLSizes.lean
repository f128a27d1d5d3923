import Derived.Test.YtoaddpfoecggpaaPNx0
import Derived.Test.YtoaddpfoecggpaaPNx2
import Derived.Test.YtoaddpfoecggpaaLBase
namespace Go.Proofs.Ytoaddpfoecggpaa.Pure
open Go.RowKit Go.Proofs.Ytoaddpfoecggpaa.PN Go.Proofs.YtoaddpfoecggpaaW.PrintWords Go.Proofs.YtoaddpfoecggpaaW.PrintLast Go.Proofs.YtoaddpfoecggpaaW.PrintMore
set_option linter.unusedVariables false
set_option linter.unusedSimpArgs false
theorem szByteS_eq (l : List Int) (left : Int) (h0 : 0 ≤ left) (h1 : left ≤ 1048576) (hl : l.length ≤ maxLen) : ∃ r, laws_szByteS.f l left = some r ∧ (0 ≤ r → r ≤ left ∧ (l.length : Int) ≤ left) := by
  unfold laws_szByteS.f
  unfold maxLen at hl
  rw [w64 (by omega) (by omega)]
  by_cases c : left - (l.length : Int) < 0
  · rw [if_pos c]
    exact ⟨-1, rfl, fun h => absurd h (by decide)⟩
  · rw [if_neg c]
    exact ⟨_, rfl, fun _ => ⟨by omega, by omega⟩⟩

end Go.Proofs.Ytoaddpfoecggpaa.Pure
