/- What is proved: the program's NodeNew answers as the reference's, for all arguments, and what it hands back is its own. Conditions: none beyond those of the given statement. -/
import Derived.Test.YtoaddpfoecggpaaPEx0
import Derived.Test.YtoaddpfoecggpaaPEx7
import Derived.Test.YtoaddpfoecggpaaLBase
import Derived.Test.YtoaddpfoecggpaaLNodenew
namespace Go.Proofs.Ytoaddpfoecggpaa.Pure
open Go.RowKit Go.Proofs.Ytoaddpfoecggpaa.PE Go.Proofs.YtoaddpfoecggpaaW.PrintWords Go.Proofs.YtoaddpfoecggpaaW.PrintLast Go.Proofs.YtoaddpfoecggpaaW.PrintMore
set_option linter.unusedVariables false
set_option linter.unusedSimpArgs false
theorem FnExactNodeNew : laws_FnExactNodeNew.Pure := by
  intro a0 a1 _ ha1
  refine Ev.rounds ?_
  unfold laws_FnExactNodeNew.f
  obtain ⟨b0, b1, b2, b4, b5, b6, b7, l8, l9, l10, ok, h8, h9, h10, es, ei⟩ := newNodes a0 a1 (wf_i64 ha1)
  have eq := eqNode_nil b0 b1 b2 b4 b5 b6 b7 l8 l9 l10 h8 h9 h10
  have mk := markNode_nil b0 b1 b2 b4 b5 b6 b7 l8 l9 l10 h8 h9 h10
  have hd := heldNode_nil b0 b1 b2 b4 b5 b6 b7 l8.length l9.length l10.length h8 h9 h10
  have ne : (ok != ok) = false := by simp
  refine ev_bind_eq es (ev_bind_eq ei (Ev.bind eq (ev_if_pos rfl ?_)))
  dsimp only
  rw [ne]
  refine Ev.step (fun k => by rw [laws_FnExactNodeNew.j0]) (ev_if_neg (by simp) ?_)
  refine Ev.bind mk (Ev.bind hd (ev_if_neg (by omega) (ev_if_pos rfl ?_)))
  refine ev_bind_eq ei (Ev.bind eq (ev_if_pos rfl ?_))
  dsimp only
  rw [ne]
  refine Ev.step (fun k => by rw [laws_FnExactNodeNew.j1]) (ev_if_neg (by simp) ?_)
  exact Ev.bind hd (ev_if_neg (by omega) (ev_if_pos rfl (Ev.now _)))

end Go.Proofs.Ytoaddpfoecggpaa.Pure
