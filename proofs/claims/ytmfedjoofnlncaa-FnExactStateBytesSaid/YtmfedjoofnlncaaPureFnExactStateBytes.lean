/- What is proved: the program's StateBytes answers as the reference's, for all arguments; it leaves its arguments alone, and what it answers shares no memory with them. Conditions: none beyond those of the given statement. -/
import Derived.Test.YtmfedjoofnlncaaPBx0
import Derived.Test.YtmfedjoofnlncaaPBx10
import Derived.Test.YtmfedjoofnlncaaPBx14
import Derived.Test.YtmfedjoofnlncaaPBx6
import Derived.Test.YtmfedjoofnlncaaLAB
namespace Go.Proofs.Ytmfedjoofnlncaa.Pure
open Go.RowKit Go.Proofs.Ytmfedjoofnlncaa.PB Go.Proofs.YtmfedjoofnlncaaW.PrintWords Go.Proofs.YtmfedjoofnlncaaW.PrintLast Go.Proofs.YtmfedjoofnlncaaW.PrintMore
set_option linter.unusedVariables false
set_option linter.unusedSimpArgs false
theorem bytes_both (x : S27) (ok : okS27 x) (h : FitS x) : ∃ r : List Int × Bool, r.1.length ≤ 1048576 ∧ Ev (fun k => spec_StateBytes.f k x.f0 (x.f1.map cvRow) (x.f2.map cvTomb) x.f3 (x.f4.map cvSess) (x.f5.map cvLast)) r ∧ Ev (fun k => impl_StateBytes.f k x.f0 (x.f1.map cvRow) (x.f2.map cvTomb) x.f3 (x.f4.map cvSess) (x.f5.map cvLast)) r := by
  obtain ⟨b, e1, e2, hv⟩ := states_same x ok h
  unfold spec_StateBytes.f impl_StateBytes.f
  cases b with
  | false => exact ⟨([], false), by simp, Ev.bind e1 (ev_if_neg (by simp) (Ev.now _)), Ev.bind e2 (ev_if_neg (by simp) (Ev.now _))⟩
  | true =>
    have v := hv.1 rfl
    obtain ⟨fr, ft, fs, fl⟩ := state_fits v
    have hb := stateEnc_le _ _ _ _ _ _ v.1 fr ft fs fl
    exact ⟨(_, true), hb, Ev.bind e1 (ev_if_pos rfl (Ev.bind (encStateS_ev _ _ _ _ _ _ v.1 fr ft fs fl) (Ev.now _))), Ev.bind e2 (ev_if_pos rfl (Ev.bind (encStateI_ev _ _ _ _ _ _ v.1 fr ft fs fl) (Ev.now _)))⟩
theorem FnExactStateBytes : laws_FnExactStateBytes.Pure := by
  intro x0 h0
  refine Ev.rounds ?_
  unfold laws_FnExactStateBytes.f
  obtain ⟨r, e, hr⟩ := szState_ev x0 h0
  refine Ev.bind e ?_
  by_cases c : r < 0
  · exact ev_if_pos c (Ev.now _)
  refine ev_if_neg c ?_
  have ft := hr (by omega)
  obtain ⟨q, hq, e1, e2⟩ := bytes_both x0 h0 ft
  obtain ⟨m, em, hm1, hm2⟩ := markState_eq x0 ft
  have ts := toState_ev x0 ft
  have eb := eqByteS_self q.1 (by omega)
  have mb := markByteS_ev q.1 1 (by omega) (by omega)
  have hb := heldByteS_ev q.1.length 1 (by omega) (by omega)
  refine Ev.bind ts (Ev.bind e1 (Ev.bind ts (Ev.bind e2 (Ev.bind eb (ev_if_pos rfl ?_)))))
  refine Ev.step (g := fun k => laws_FnExactStateBytes.j0 k _ _ _ _ _ _ _ _ _ _ _ _ _ _ _ _ _) (fun k => by rw [laws_FnExactStateBytes.j0]) ?_
  refine ev_if_neg (by simp) (Ev.bind ts (Ev.bind (eqState_self x0 ft) (ev_if_pos rfl (ev_bind_eq em (ev_if_neg (by omega) (Ev.bind eb (ev_if_pos rfl ?_)))))))
  refine Ev.step (g := fun k => laws_FnExactStateBytes.j1 k _ _ _ _ _ _ _ _ _ _) (fun k => by rw [laws_FnExactStateBytes.j1]) ?_
  refine ev_if_neg (by simp) (Ev.bind mb (Ev.bind hb (ev_if_neg (by omega) (ev_if_pos rfl (Ev.bind ts (Ev.bind e2 (Ev.bind eb (ev_if_pos rfl ?_))))))))
  refine Ev.step (g := fun k => laws_FnExactStateBytes.j2 k _ _ _) (fun k => by rw [laws_FnExactStateBytes.j2]) ?_
  exact ev_if_neg (by simp) (Ev.bind hb (ev_if_neg (by omega) (ev_if_pos rfl (Ev.now _))))

end Go.Proofs.Ytmfedjoofnlncaa.Pure
