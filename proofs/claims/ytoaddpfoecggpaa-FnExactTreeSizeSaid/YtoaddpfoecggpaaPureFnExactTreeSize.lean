/- What is proved: the program's TreeSize answers as the reference's, for all arguments, and leaves its argument alone. Conditions: none beyond those of the given statement. -/
import Derived.Test.YtoaddpfoecggpaaPSx0
import Derived.Test.YtoaddpfoecggpaaPSx4
import Derived.Test.YtoaddpfoecggpaaPSx6
import Derived.Test.YtoaddpfoecggpaaPSx7
import Derived.Test.YtoaddpfoecggpaaLBase
import Derived.Test.YtoaddpfoecggpaaLEntries
import Derived.Test.YtoaddpfoecggpaaLTreeeq
import Derived.Test.YtoaddpfoecggpaaLTrees
import Derived.Test.YtoaddpfoecggpaaLTreesize
import Derived.Test.YtoaddpfoecggpaaLTreesz
import Derived.Test.YtoaddpfoecggpaaLTreeto
import Derived.Test.YtoaddpfoecggpaaLTreevalid
namespace Go.Proofs.Ytoaddpfoecggpaa.Pure
open Go.RowKit Go.Proofs.Ytoaddpfoecggpaa.PS Go.Proofs.YtoaddpfoecggpaaW.PrintWords Go.Proofs.YtoaddpfoecggpaaW.PrintLast Go.Proofs.YtoaddpfoecggpaaW.PrintMore
set_option linter.unusedVariables false
set_option linter.unusedSimpArgs false
theorem FnExactTreeSize : laws_FnExactTreeSize.Pure := by
  intro x0 h0
  refine Ev.rounds ?_
  unfold laws_FnExactTreeSize.f
  obtain ⟨r, e, hr⟩ := szTree_ev h0 1048576 (by decide) (by decide)
  refine Ev.bind e ?_
  by_cases c : r < 0
  · exact ev_if_pos c (Ev.now _)
  refine ev_if_neg c ?_
  obtain ⟨_, ft⟩ := hr (by omega)
  have fu := fit_cv ft
  obtain ⟨b, eb, hb⟩ := specTreeOk_ev fu
  obtain ⟨v, ev, hv⟩ := implTreeOk_ev fu
  have same : v = b := by
    have : v = true ↔ b = true := hv.trans hb.symm
    cases v <;> cases b <;> simp_all
  subst same
  have both : ∃ n : Int, Ev (fun k => spec_TreeSize.f k (cvTree x0).f0 (cvTree x0).f1 (cvTree x0).f2 (cvTree x0).f3) n ∧ Ev (fun k => impl_TreeSize.f k (cvTree x0).f0 (cvTree x0).f1 (cvTree x0).f2 (cvTree x0).f3) n := by
    unfold spec_TreeSize.f impl_TreeSize.f
    by_cases g : v = true
    · obtain ⟨o1, o2, _⟩ := hb.1 g
      have e1 := l6size_ev 25 (cvTree x0) (by omega) fu o1 o2
      have e2 := entries_ev 25 (cvTree x0) [] (by omega) fu o1 o2 (by simp)
      refine ⟨(sizeD 25 (cvTree x0) : Int), Ev.bind eb (ev_if_pos g (Ev.bind e1 (Ev.now _))), Ev.bind ev (ev_if_pos g (Ev.bind e2 (ev_done ?_)))⟩
      rw [entsD_length]
    · exact ⟨0, Ev.bind eb (ev_if_neg g (Ev.now _)), Ev.bind ev (ev_if_neg g (Ev.now _))⟩
  obtain ⟨n, e1, e2⟩ := both
  refine Ev.bind (toTree_ev ft) (Ev.bind e1 (Ev.bind (toTree_ev ft) (Ev.bind e2 (ev_if_pos rfl (Ev.bind (toTree_ev ft) (Ev.bind (eqTree_self fu) (ev_if_pos rfl (Ev.now _))))))))

end Go.Proofs.Ytoaddpfoecggpaa.Pure
