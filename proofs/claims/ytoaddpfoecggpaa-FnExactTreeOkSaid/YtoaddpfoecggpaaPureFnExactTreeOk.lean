/- What is proved: the program's TreeOk answers as the reference's, for all arguments, and leaves its argument alone. Conditions: none beyond those of the given statement. -/
import Derived.Test.YtoaddpfoecggpaaPTx0
import Derived.Test.YtoaddpfoecggpaaPTx6
import Derived.Test.YtoaddpfoecggpaaLBase
import Derived.Test.YtoaddpfoecggpaaLTreeeq
import Derived.Test.YtoaddpfoecggpaaLTrees
import Derived.Test.YtoaddpfoecggpaaLTreesz
import Derived.Test.YtoaddpfoecggpaaLTreeto
import Derived.Test.YtoaddpfoecggpaaLTreevalid
namespace Go.Proofs.Ytoaddpfoecggpaa.Pure
open Go.RowKit Go.Proofs.Ytoaddpfoecggpaa.PT Go.Proofs.YtoaddpfoecggpaaW.PrintWords Go.Proofs.YtoaddpfoecggpaaW.PrintLast Go.Proofs.YtoaddpfoecggpaaW.PrintMore
set_option linter.unusedVariables false
set_option linter.unusedSimpArgs false
theorem FnExactTreeOk : laws_FnExactTreeOk.Pure := by
  intro x0 h0
  refine Ev.rounds ?_
  unfold laws_FnExactTreeOk.f
  obtain ⟨r, e, hr⟩ := szTree_ev h0 1048576 (by decide) (by decide)
  refine Ev.bind e ?_
  by_cases c : r < 0
  · exact ev_if_pos c (Ev.now _)
  refine ev_if_neg c ?_
  obtain ⟨_, ft⟩ := hr (by omega)
  have fu := fit_cv ft
  obtain ⟨b, eb, hb⟩ := specTreeOk_ev fu
  obtain ⟨v, ev, hv⟩ := implTreeOk_ev fu
  have same : v = b := by
    have : v = true ↔ b = true := hv.trans hb.symm
    cases v <;> cases b <;> simp_all
  subst same
  refine Ev.bind (toTree_ev ft) (Ev.bind eb (Ev.bind (toTree_ev ft) (Ev.bind ev (ev_if_neg (by simp) (Ev.bind (toTree_ev ft) (Ev.bind (eqTree_self fu) (ev_if_pos rfl (Ev.now _))))))))

end Go.Proofs.Ytoaddpfoecggpaa.Pure
