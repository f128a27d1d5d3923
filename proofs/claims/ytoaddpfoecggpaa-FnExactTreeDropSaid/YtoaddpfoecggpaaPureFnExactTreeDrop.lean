/- What is proved: the program's TreeDrop answers as the reference's, for all arguments; it leaves its arguments alone, and what it answers shares no memory with them. Conditions: none beyond those of the given statement. -/
import Derived.Test.YtoaddpfoecggpaaPWx0
import Derived.Test.YtoaddpfoecggpaaPWx10
import Derived.Test.YtoaddpfoecggpaaPWx11
import Derived.Test.YtoaddpfoecggpaaLAW
namespace Go.Proofs.Ytoaddpfoecggpaa.Pure
open Go.RowKit Go.Proofs.Ytoaddpfoecggpaa.PW Go.Proofs.YtoaddpfoecggpaaW.PrintWords Go.Proofs.YtoaddpfoecggpaaW.PrintLast Go.Proofs.YtoaddpfoecggpaaW.PrintMore
set_option linter.unusedVariables false
set_option linter.unusedSimpArgs false
theorem FnExactTreeDrop : laws_FnExactTreeDrop.Pure := by
  intro x0 l1 h0 hl1 _ hb1
  refine Ev.rounds ?_
  unfold laws_FnExactTreeDrop.f
  by_cases cl : (l1.length : Int) > 1048576
  · exact ev_if_pos cl (Ev.now _)
  refine ev_if_neg cl ?_
  obtain ⟨r, e, hr⟩ := szTree_ev h0 1048576 (by decide) (by decide)
  obtain ⟨r2, e2, hr2⟩ := szTree_evW h0 1048576 (by decide) (by decide)
  obtain rfl := ev_unique e e2
  refine Ev.bind e ?_
  by_cases c : r < 0
  · exact ev_if_pos c (Ev.now _)
  refine ev_if_neg c ?_
  obtain ⟨_, ft⟩ := hr (by omega)
  have hw := hr2 (by omega)
  have fu := fit_cv ft
  have bu := by_cv h0
  obtain ⟨u, b, hu, hfu, hul, e2, e1⟩ := treeDrop_both fu bu l1 hb1 (by omega)
  obtain ⟨m, em, hm1, hm2⟩ := markTree_ev ft (by omega) 1 (by omega) (by omega)
  have hwt := wt_root hu hfu (by omega)
  have mv : Ev (fun k => laws_markTreeV.f k u.f0 u.f1 u.f2 u.f3 1) (1 + (u.f0.length : Int) + ((u.f3.map (wtU 24)).sum : Nat)) := by
    unfold laws_markTreeV.f
    exact Ev.bind (markV_ev hu hfu hwt) (Ev.now _)
  have hv := heldM_ev u.f1 u.f2 hu hfu hwt
  have ts := toTree_ev ft
  have tb := toByteS_ev l1 (by omega)
  have ebb := eqByteS_self l1 (by omega)
  have mbb := markByteS_ev l1 m (by omega) (by omega)
  have eb := eqTree_self hfu
  refine Ev.bind ts (Ev.bind tb (Ev.bind e1 (Ev.bind ts (Ev.bind tb (Ev.bind e2 (Ev.bind eb (ev_if_pos rfl ?_)))))))
  refine Ev.step (g := fun k => laws_FnExactTreeDrop.j0 k _ _ _ _ _ _ _ _ _ _ _ _ _ _ _ _ _ _ _ _ _) (fun k => by rw [laws_FnExactTreeDrop.j0]) ?_
  refine ev_if_neg (by simp) (Ev.bind ts (Ev.bind (eqTree_self fu) (ev_if_pos rfl (Ev.bind tb (Ev.bind ebb (ev_if_pos rfl (Ev.bind em (Ev.bind mbb (ev_if_neg (by omega) (Ev.bind eb (ev_if_pos rfl ?_)))))))))))
  refine Ev.step (g := fun k => laws_FnExactTreeDrop.j1 k _ _ _ _ _ _ _ _ _ _ _ _ _ _ _) (fun k => by rw [laws_FnExactTreeDrop.j1]) ?_
  refine ev_if_neg (by simp) (Ev.bind mv (Ev.bind hv (ev_if_neg (by omega) (ev_if_pos rfl (Ev.bind ts (Ev.bind tb (Ev.bind e2 (Ev.bind eb (ev_if_pos rfl ?_)))))))))
  refine Ev.step (g := fun k => laws_FnExactTreeDrop.j2 k _ _ _ _ _ _) (fun k => by rw [laws_FnExactTreeDrop.j2]) ?_
  exact ev_if_neg (by simp) (Ev.bind hv (ev_if_neg (by omega) (ev_if_pos rfl (Ev.now _))))

end Go.Proofs.Ytoaddpfoecggpaa.Pure
