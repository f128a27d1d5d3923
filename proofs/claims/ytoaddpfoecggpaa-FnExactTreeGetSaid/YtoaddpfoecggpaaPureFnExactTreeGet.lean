/- What is proved: the program's TreeGet answers as the reference's, for all arguments, and leaves its arguments alone. Conditions: none beyond those of the given statement. -/
import Derived.Test.YtoaddpfoecggpaaPGx0
import Derived.Test.YtoaddpfoecggpaaPGx4
import Derived.Test.YtoaddpfoecggpaaPGx7
import Derived.Test.YtoaddpfoecggpaaPGx8
import Derived.Test.YtoaddpfoecggpaaLBase
import Derived.Test.YtoaddpfoecggpaaLBytes
import Derived.Test.YtoaddpfoecggpaaLTreeents
import Derived.Test.YtoaddpfoecggpaaLTreeeq
import Derived.Test.YtoaddpfoecggpaaLTreeget
import Derived.Test.YtoaddpfoecggpaaLTrees
import Derived.Test.YtoaddpfoecggpaaLTreesz
import Derived.Test.YtoaddpfoecggpaaLTreeto
import Derived.Test.YtoaddpfoecggpaaLTreevalid
namespace Go.Proofs.Ytoaddpfoecggpaa.Pure
open Go.RowKit Go.Proofs.Ytoaddpfoecggpaa.PG Go.Proofs.YtoaddpfoecggpaaW.PrintWords Go.Proofs.YtoaddpfoecggpaaW.PrintLast Go.Proofs.YtoaddpfoecggpaaW.PrintMore
set_option linter.unusedVariables false
set_option linter.unusedSimpArgs false
theorem FnExactTreeGet : laws_FnExactTreeGet.Pure := by
  intro x0 l1 h0 hl1 _ hb1
  refine Ev.rounds ?_
  unfold laws_FnExactTreeGet.f
  by_cases cl : (l1.length : Int) > 1048576
  · exact ev_if_pos cl (Ev.now _)
  refine ev_if_neg cl ?_
  obtain ⟨r, e, hr⟩ := szTree_ev h0 1048576 (by decide) (by decide)
  refine Ev.bind e ?_
  by_cases c : r < 0
  · exact ev_if_pos c (Ev.now _)
  refine ev_if_neg c ?_
  obtain ⟨_, ft⟩ := hr (by omega)
  have fu := fit_cv ft
  have bu := by_cv h0
  obtain ⟨b, eb, hb⟩ := specTreeOk_ev fu
  obtain ⟨v, ev, hv⟩ := implTreeOk_ev fu
  have same : v = b := by
    have : v = true ↔ b = true := hv.trans hb.symm
    cases v <;> cases b <;> simp_all
  subst same
  have both : ∃ n : Int × Bool, Ev (fun k => spec_TreeGet.f k (cvTree x0).f0 (cvTree x0).f1 (cvTree x0).f2 (cvTree x0).f3 l1) n ∧ Ev (fun k => impl_TreeGet.f k (cvTree x0).f0 (cvTree x0).f1 (cvTree x0).f2 (cvTree x0).f3 l1) n := by
    unfold spec_TreeGet.f impl_TreeGet.f
    by_cases g : v = true
    · have hval := hb.1 g
      obtain ⟨res, e1, e2⟩ := gets_same (cvTree x0) l1 fu bu hval hb1
      have e3 := entries_ev 25 (cvTree x0) [] (by omega) fu hval.1 hval.2.1 (by simp)
      exact ⟨res, Ev.bind eb (ev_if_pos g (Ev.bind e1 (Ev.now _))), Ev.bind ev (ev_if_pos g (Ev.bind e3 e2))⟩
    · exact ⟨(0, false), Ev.bind eb (ev_if_neg g (Ev.now _)), Ev.bind ev (ev_if_neg g (Ev.now _))⟩
  obtain ⟨n, e1, e2⟩ := both
  have tb := toByteS_ev l1 (by omega)
  refine Ev.bind (toTree_ev ft) (Ev.bind tb (Ev.bind e1 (Ev.bind (toTree_ev ft) (Ev.bind tb (Ev.bind e2 (ev_if_pos rfl ?_))))))
  rw [show (n.2 != n.2) = false by simp]
  refine Ev.step (fun k => by rw [laws_FnExactTreeGet.j0]) (ev_if_neg (by simp) ?_)
  exact Ev.bind (toTree_ev ft) (Ev.bind (eqTree_self fu) (ev_if_pos rfl (Ev.bind tb (Ev.bind (eqByteS_self l1 (by omega)) (ev_if_pos rfl (Ev.now _))))))

end Go.Proofs.Ytoaddpfoecggpaa.Pure
