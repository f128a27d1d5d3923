/- What is proved: the program's Branch answers as the reference's, for all arguments; it leaves its arguments alone, and what it answers shares no memory with them. Conditions: none beyond those of the given statement. -/
import Derived.Test.YtdgegnakiljfjaaPKx0
import Derived.Test.YtdgegnakiljfjaaPKx11
import Derived.Test.YtdgegnakiljfjaaPKx12
import Derived.Test.YtdgegnakiljfjaaPKx7
import Derived.Test.YtdgegnakiljfjaaLAK
namespace Go.Proofs.Ytdgegnakiljfjaa.Pure
open Go.RowKit Go.Proofs.Ytdgegnakiljfjaa.PK Go.Proofs.YtdgegnakiljfjaaW.PrintWords Go.Proofs.YtdgegnakiljfjaaW.PrintLast Go.Proofs.YtdgegnakiljfjaaW.PrintMore
set_option linter.unusedVariables false
set_option linter.unusedSimpArgs false
theorem branch_both (x : S27) (ok : okS27 x) (h : FitS x) (key : List Int) (hl : key.length ≤ 1048576) (hk : Bytes key) : ∃ r : Int × Bool × List Int, r.2.2.length ≤ 1048576 ∧ Ev (fun k => spec_Branch.f k x.f0 (x.f1.map cvRow) (x.f2.map cvTomb) x.f3 (x.f4.map cvSess) (x.f5.map cvLast) key) r ∧ Ev (fun k => impl_Branch.f k x.f0 (x.f1.map cvRow) (x.f2.map cvTomb) x.f3 (x.f4.map cvSess) (x.f5.map cvLast) key) r := by
  obtain ⟨b, e1, e2, _⟩ := states_same x ok h
  unfold spec_Branch.f impl_Branch.f
  obtain ⟨_, ⟨_, b1⟩, ⟨_, b2⟩, _⟩ := ok
  have r1 : (x.f1.map cvRow).length ≤ 1048576 := by rw [List.length_map]; exact h.h1
  have r2 : (x.f2.map cvTomb).length ≤ 1048576 := by rw [List.length_map]; exact h.h2
  cases b with
  | false => exact ⟨(0, false, []), by simp, Ev.bind e1 (ev_if_neg (by simp) (Ev.now _)), Ev.bind e2 (ev_if_neg (by simp) (Ev.now _))⟩
  | true =>
    have a1 : Ev (fun k => spec_Branch.l0 k key 0 x.f0 (x.f1.map cvRow) (x.f2.map cvTomb) x.f3 (x.f4.map cvSess) (x.f5.map cvLast) x.f3 false) _ := specBrR_loop x.f0 (x.f1.map cvRow) (x.f2.map cvTomb) x.f3 (x.f4.map cvSess) (x.f5.map cvLast) key r1 r2 (byRows_cv b1) (byTombs_cv b2) hk (x.f1.map cvRow).length 0 x.f3 false (by omega) (by omega)
    have a2 : Ev (fun k => impl_Branch.l0 k key (x.f1.map cvRow) ((x.f1.map cvRow).length : Int) 0 x.f0 (x.f1.map cvRow) (x.f2.map cvTomb) x.f3 (x.f4.map cvSess) (x.f5.map cvLast) x.f3 false) _ := implBrR_loop x.f0 (x.f1.map cvRow) (x.f2.map cvTomb) x.f3 (x.f4.map cvSess) (x.f5.map cvLast) key r1 r2 (byRows_cv b1) (byTombs_cv b2) hk (x.f1.map cvRow).length 0 x.f3 false (by omega) (by omega)
    exact ⟨_, by simp, Ev.bind e1 (ev_if_pos rfl a1), Ev.bind e2 (ev_if_pos rfl a2)⟩
theorem FnExactBranch : laws_FnExactBranch.Pure := by
  intro x0 l1 h0 hl1 _ hb1
  refine Ev.rounds ?_
  unfold laws_FnExactBranch.f
  by_cases cl : (l1.length : Int) > 1048576
  · exact ev_if_pos cl (Ev.now _)
  refine ev_if_neg cl ?_
  obtain ⟨r, e, hr⟩ := szState_ev x0 h0
  refine Ev.bind e ?_
  by_cases c : r < 0
  · exact ev_if_pos c (Ev.now _)
  refine ev_if_neg c ?_
  have ft := hr (by omega)
  obtain ⟨q, hq, e1, e2⟩ := branch_both x0 h0 ft l1 (by omega) hb1
  obtain ⟨m, em, hm1, hm2⟩ := markState_eq x0 ft
  have ts := toState_ev x0 ft
  have tb := toByteS_ev l1 (by omega)
  have eb := eqByteS_self l1 (by omega)
  have ev := eqView_self q.1 q.2.1 q.2.2 hq
  have mb := markByteS_ev l1 m (by omega) (by omega)
  have mv := markView_ev q.1 q.2.1 q.2.2 hq
  have hv := heldView_ev q.1 q.2.1 q.2.2.length hq
  refine Ev.bind ts (Ev.bind tb (Ev.bind e1 (Ev.bind ts (Ev.bind tb (Ev.bind e2 (Ev.bind ev (ev_if_pos rfl (Ev.bind ts (Ev.bind (eqState_self x0 ft) (ev_if_pos rfl (Ev.bind tb (Ev.bind eb (ev_if_pos rfl (ev_bind_eq em (Ev.bind mb (ev_if_neg (by omega) (Ev.bind ev ?_)))))))))))))))))
  refine Ev.step (g := fun k => laws_FnExactBranch.j0 k _ _ _ _ _ _ _ _ _ _ _ _ _ _) (fun k => by rw [laws_FnExactBranch.j0]) ?_
  refine ev_if_neg (by simp) (Ev.bind mv (Ev.bind hv (ev_if_neg (by omega) (ev_if_pos rfl (Ev.bind ts (Ev.bind tb (Ev.bind e2 (Ev.bind ev (ev_if_pos rfl (Ev.bind hv (ev_if_neg (by omega) (ev_if_pos rfl (Ev.now _)))))))))))))

end Go.Proofs.Ytdgegnakiljfjaa.Pure
