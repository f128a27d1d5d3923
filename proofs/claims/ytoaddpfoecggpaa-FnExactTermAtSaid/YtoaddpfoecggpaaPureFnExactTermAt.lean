/- What is proved: the program's TermAt answers as the reference's, for all arguments, and leaves its argument alone. Conditions: none beyond those of the given statement. -/
import Derived.Test.YtoaddpfoecggpaaPNx0
import Derived.Test.YtoaddpfoecggpaaPNx11
import Derived.Test.YtoaddpfoecggpaaPNx12
import Derived.Test.YtoaddpfoecggpaaLBase
import Derived.Test.YtoaddpfoecggpaaLItemrows
import Derived.Test.YtoaddpfoecggpaaLNodelaw
import Derived.Test.YtoaddpfoecggpaaLTermat
namespace Go.Proofs.Ytoaddpfoecggpaa.Pure
open Go.RowKit Go.Proofs.Ytoaddpfoecggpaa.PN Go.Proofs.YtoaddpfoecggpaaW.PrintWords Go.Proofs.YtoaddpfoecggpaaW.PrintLast Go.Proofs.YtoaddpfoecggpaaW.PrintMore
set_option linter.unusedVariables false
set_option linter.unusedSimpArgs false
theorem FnExactTermAt : laws_FnExactTermAt.Pure := by
  intro x0 a1 a2 h0 ha1 ha2
  refine Ev.rounds ?_
  unfold laws_FnExactTermAt.f
  obtain ⟨r, e, hr⟩ := szNode_ev x0 h0
  refine Ev.bind e ?_
  by_cases c : r < 0
  · exact ev_if_pos c (Ev.now _)
  obtain ⟨h3, g3, h8, h9, h10⟩ := hr (by omega)
  have h3' : (x0.f3.map cvItem).length ≤ 1048576 := by rw [List.length_map]; exact h3
  have g3' : ∀ x ∈ x0.f3.map cvItem, fitItem x := by
    intro x hx
    obtain ⟨y, hy, rfl⟩ := List.mem_map.1 hx
    exact g3 y hy
  have tn := toNode_ev x0.f0 x0.f1 x0.f2 x0.f3 x0.f4 x0.f5 x0.f6 x0.f7 x0.f8 x0.f9 x0.f10 h3 g3 h8 h9 h10
  obtain ⟨b, e1, e2, _⟩ := nodes_same x0.f0 x0.f1 x0.f2 (x0.f3.map cvItem) x0.f4 x0.f5 x0.f6 x0.f7 x0.f8 x0.f9 x0.f10 a1 ha1 h3' h8 g3'
  obtain ⟨v, t1, t2⟩ := termAt_eq x0.f0 x0.f1 x0.f2 (x0.f3.map cvItem) x0.f4 x0.f5 x0.f6 x0.f7 x0.f8 x0.f9 x0.f10 a2 (wf_i64 ha2) h3'
  have eq := eqNode_self x0.f0 x0.f1 x0.f2 (x0.f3.map cvItem) x0.f4 x0.f5 x0.f6 x0.f7 x0.f8 x0.f9 x0.f10 h3' g3' h8 h9 h10
  have both : ∃ n : Int, Ev (fun k => spec_TermAt.f k x0.f0 x0.f1 x0.f2 (x0.f3.map cvItem) x0.f4 x0.f5 x0.f6 x0.f7 x0.f8 x0.f9 x0.f10 a1 a2) n ∧ Ev (fun k => impl_TermAt.f k x0.f0 x0.f1 x0.f2 (x0.f3.map cvItem) x0.f4 x0.f5 x0.f6 x0.f7 x0.f8 x0.f9 x0.f10 a1 a2) n := by
    unfold spec_TermAt.f impl_TermAt.f
    by_cases g : b = true
    · exact ⟨v, Ev.bind e1 (ev_if_pos g (ev_bind_eq t1 (Ev.now _))), Ev.bind e2 (ev_if_pos g (ev_bind_eq t2 (Ev.now _)))⟩
    · exact ⟨0, Ev.bind e1 (ev_if_neg g (Ev.now _)), Ev.bind e2 (ev_if_neg g (Ev.now _))⟩
  obtain ⟨n, n1, n2⟩ := both
  exact ev_if_neg c (Ev.bind tn (Ev.bind n1 (Ev.bind tn (Ev.bind n2 (ev_if_pos rfl (Ev.bind tn (Ev.bind eq (ev_if_pos rfl (Ev.now _)))))))))

end Go.Proofs.Ytoaddpfoecggpaa.Pure
