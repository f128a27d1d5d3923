/- What is proved: the program's Keys answers as the reference's, for all arguments; it leaves its arguments alone, and what it answers shares no memory with them. Conditions: none beyond those of the given statement. -/
import Derived.Test.YtdgegnakiljfjaaPYx0
import Derived.Test.YtdgegnakiljfjaaPYx11
import Derived.Test.YtdgegnakiljfjaaPYx12
import Derived.Test.YtdgegnakiljfjaaPYx7
import Derived.Test.YtdgegnakiljfjaaLAY
namespace Go.Proofs.Ytdgegnakiljfjaa.Pure
open Go.RowKit Go.Proofs.Ytdgegnakiljfjaa.PY Go.Proofs.YtdgegnakiljfjaaW.PrintWords Go.Proofs.YtdgegnakiljfjaaW.PrintLast Go.Proofs.YtdgegnakiljfjaaW.PrintMore
set_option linter.unusedVariables false
set_option linter.unusedSimpArgs false
theorem keys_both (x : S27) (ok : okS27 x) (h : FitS x) (id : List Int) (hid : Bytes id) : ∃ r : List (List Int), r.length ≤ 1048576 ∧ (∀ y ∈ r, y.length ≤ 20) ∧ Ev (fun k => spec_Keys.f k x.f0 (x.f1.map cvRow) (x.f2.map cvTomb) x.f3 (x.f4.map cvSess) (x.f5.map cvLast) id) r ∧ Ev (fun k => impl_Keys.f k x.f0 (x.f1.map cvRow) (x.f2.map cvTomb) x.f3 (x.f4.map cvSess) (x.f5.map cvLast) id) r := by
  obtain ⟨b, e1, e2, hv⟩ := states_same x ok h
  unfold spec_Keys.f impl_Keys.f
  obtain ⟨_, ⟨_, b1⟩, _⟩ := ok
  have r1 : (x.f1.map cvRow).length ≤ 1048576 := by rw [List.length_map]; exact h.h1
  have sh : ∀ r ∈ x.f1.map cvRow, r.f0.length ≤ 1048576 := fun r hr => (cvRows_short h.k1 r hr).1
  cases b with
  | false => exact ⟨[], by simp, by simp, Ev.bind e1 (ev_if_neg (by simp) (Ev.now _)), Ev.bind e2 (ev_if_neg (by simp) (Ev.now _))⟩
  | true =>
    have v := hv.1 rfl
    have k1 := specKeys_loop x.f0 (x.f1.map cvRow) (x.f2.map cvTomb) x.f3 (x.f4.map cvSess) (x.f5.map cvLast) r1 sh (byRows_cv b1) id hid (x.f1.map cvRow).length 0 [] (by omega) (by omega) (by simp)
    have k2 := implKeysP_loop (x.f1.map cvRow) r1 sh (byRows_cv b1) id hid (x.f1.map cvRow).length 0 [] (by omega) (by omega) (by simp)
    have k20 : ∀ r ∈ x.f1.map cvRow, r.f0.length ≤ 20 := fun r hr => by
      obtain ⟨i, hi, rfl⟩ := List.getElem_of_mem hr
      have h := v.2.1 i hi
      unfold rowV at h
      rw [rd_T92_get _ i hi] at h
      exact (keyP_len h.1).2
    rw [List.drop_zero, List.nil_append] at k1 k2
    refine ⟨prefK id (x.f1.map cvRow), Nat.le_trans (prefK_length _ _) r1, prefK_mem _ _ 20 k20, Ev.bind e1 (ev_if_pos rfl k1), Ev.bind e2 (ev_if_pos rfl ?_)⟩
    unfold impl_State_keys.f
    exact Ev.bind k2 (Ev.now _)
theorem FnExactKeys : laws_FnExactKeys.Pure := by
  intro x0 l1 h0 hl1 _ hb1
  refine Ev.rounds ?_
  unfold laws_FnExactKeys.f
  by_cases cl : (l1.length : Int) > 1048576
  · exact ev_if_pos cl (Ev.now _)
  refine ev_if_neg cl ?_
  obtain ⟨r, e, hr⟩ := szState_ev x0 h0
  refine Ev.bind e ?_
  by_cases c : r < 0
  · exact ev_if_pos c (Ev.now _)
  refine ev_if_neg c ?_
  have ft := hr (by omega)
  obtain ⟨q, hq, hq2, e1, e2⟩ := keys_both x0 h0 ft l1 hb1
  obtain ⟨m, em, hm1, hm2⟩ := markState_eq x0 ft
  have ht := tot_le q 20 hq2
  have ts := toState_ev x0 ft
  have tb := toByteS_ev l1 (by omega)
  have ebb := eqByteS_self l1 (by omega)
  have mbb := markByteS_ev l1 m (by omega) (by omega)
  have eb := eqByteSS_self q (by omega) (fun y hy => by have := hq2 y hy; omega)
  have mb := markByteSS1_ev q 1 (by omega) (by omega) (by omega)
  have hb := heldByteSSm_ev q (by omega) (by omega)
  refine Ev.bind ts (Ev.bind tb (Ev.bind e1 (Ev.bind ts (Ev.bind tb (Ev.bind e2 (Ev.bind eb (ev_if_pos rfl (Ev.bind ts (Ev.bind (eqState_self x0 ft) (ev_if_pos rfl (Ev.bind tb (Ev.bind ebb (ev_if_pos rfl (ev_bind_eq em (Ev.bind mbb (ev_if_neg (by omega) (Ev.bind eb ?_)))))))))))))))))
  refine Ev.step (g := fun k => laws_FnExactKeys.j0 k _ _ _ _ _ _ _ _ _ _) (fun k => by rw [laws_FnExactKeys.j0]) ?_
  exact ev_if_neg (by simp) (Ev.bind mb (Ev.bind hb (ev_if_neg (by omega) (ev_if_pos rfl (Ev.bind ts (Ev.bind tb (Ev.bind e2 (Ev.bind eb (ev_if_pos rfl (Ev.bind hb (ev_if_neg (by omega) (ev_if_pos rfl (Ev.now _)))))))))))))

end Go.Proofs.Ytdgegnakiljfjaa.Pure
