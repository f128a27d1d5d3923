/- What is proved: the program's Turned answers as the reference's, for all arguments; it leaves its arguments alone, and what it answers shares no memory with them. Conditions: none beyond those of the given statement. -/
import Derived.Test.YtdgegnakiljfjaaPTx0
import Derived.Test.YtdgegnakiljfjaaPTx11
import Derived.Test.YtdgegnakiljfjaaPTx12
import Derived.Test.YtdgegnakiljfjaaPTx7
import Derived.Test.YtdgegnakiljfjaaLAT
namespace Go.Proofs.Ytdgegnakiljfjaa.Pure
open Go.RowKit Go.Proofs.Ytdgegnakiljfjaa.PT Go.Proofs.YtdgegnakiljfjaaW.PrintWords Go.Proofs.YtdgegnakiljfjaaW.PrintLast Go.Proofs.YtdgegnakiljfjaaW.PrintMore
set_option linter.unusedVariables false
set_option linter.unusedSimpArgs false
theorem turned_both (x : S27) (ok : okS27 x) (h : FitS x) (id : Int) : ∃ r : List (List Int) × Bool, r.1.length ≤ 2097152 ∧ (∀ y ∈ r.1, y.length ≤ 1048576) ∧ Ev (fun k => spec_Turned.f k x.f0 (x.f1.map cvRow) (x.f2.map cvTomb) x.f3 (x.f4.map cvSess) (x.f5.map cvLast) id) r ∧ Ev (fun k => impl_Turned.f k x.f0 (x.f1.map cvRow) (x.f2.map cvTomb) x.f3 (x.f4.map cvSess) (x.f5.map cvLast) id) r := by
  obtain ⟨b, e1, e2, hv⟩ := states_same x ok h
  unfold spec_Turned.f impl_Turned.f
  have r1 : (x.f1.map cvRow).length ≤ 1048576 := by rw [List.length_map]; exact h.h1
  have r2 : (x.f2.map cvTomb).length ≤ 1048576 := by rw [List.length_map]; exact h.h2
  have sh : ∀ r ∈ x.f1.map cvRow, r.f0.length ≤ 1048576 := fun r hr => (cvRows_short h.k1 r hr).1
  have st : ∀ r ∈ x.f2.map cvTomb, r.f0.length ≤ 1048576 := fun r hr => by
    obtain ⟨t, ht, rfl⟩ := List.mem_map.1 hr
    exact h.k2 t ht
  cases b with
  | false =>
    refine ⟨([], false), by simp, by simp, Ev.bind e1 (ev_if_neg (by simp) ?_), Ev.bind e2 (ev_if_neg (by simp) ?_)⟩
    · refine Ev.step (g := fun k => spec_Turned.j0 k _ _ _ _ _ _ _ _ _) (fun k => by rw [spec_Turned.j0]) ?_
      exact ev_if_pos rfl (Ev.now _)
    · refine Ev.step (g := fun k => impl_Turned.j0 k _ _ _ _ _ _ _ _) (fun k => by rw [impl_Turned.j0]) ?_
      exact ev_if_pos rfl (Ev.now _)
  | true =>
    by_cases c : id < x.f3
    · refine ⟨([], false), by simp, by simp, Ev.bind e1 (ev_if_pos rfl ?_), Ev.bind e2 (ev_if_pos rfl ?_)⟩
      · refine Ev.step (g := fun k => spec_Turned.j0 k _ _ _ _ _ _ _ _ _) (fun k => by rw [spec_Turned.j0]) ?_
        exact ev_if_pos (decide_eq_true c) (Ev.now _)
      · refine Ev.step (g := fun k => impl_Turned.j0 k _ _ _ _ _ _ _ _) (fun k => by rw [impl_Turned.j0]) ?_
        exact ev_if_pos (decide_eq_true c) (Ev.now _)
    · have l1 := turnK_length id (x.f1.map cvRow)
      have l2 := tombK_length id (x.f2.map cvTomb)
      have k2 := implKeysT_loop (x.f1.map cvRow) r1 sh id (x.f1.map cvRow).length 0 [] (by omega) (by omega) (by simp)
      have t1 := specTombs_loop x.f0 (x.f1.map cvRow) (x.f2.map cvTomb) x.f3 (x.f4.map cvSess) (x.f5.map cvLast) r2 st id (x.f2.map cvTomb).length 0 (turnK id (x.f1.map cvRow)) (by omega) (by omega) (by omega)
      have t2 := implTombs_loop (x.f2.map cvTomb) r2 st id (x.f2.map cvTomb).length 0 (turnK id (x.f1.map cvRow)) (by omega) (by omega) (by omega)
      rw [List.drop_zero] at t1 t2
      have k1 := specTurned_loop x.f0 (x.f1.map cvRow) (x.f2.map cvTomb) x.f3 (x.f4.map cvSess) (x.f5.map cvLast) r1 sh id _ t1 (x.f1.map cvRow).length 0 [] (by omega) (by omega) (by simp) (by simp)
      rw [List.drop_zero, List.nil_append] at k2
      refine ⟨(turnK id (x.f1.map cvRow) ++ tombK id (x.f2.map cvTomb), true), ?_, ?_, Ev.bind e1 (ev_if_pos rfl ?_), Ev.bind e2 (ev_if_pos rfl ?_)⟩
      · rw [List.length_append]; omega
      · intro y hy
        rcases List.mem_append.1 hy with hy | hy
        · exact turnK_mem _ _ _ sh y hy
        · exact tombK_mem _ _ _ st y hy
      · refine Ev.step (g := fun k => spec_Turned.j0 k _ _ _ _ _ _ _ _ _) (fun k => by rw [spec_Turned.j0]) ?_
        exact ev_if_neg (by rw [decide_eq_false c]; simp) k1
      · refine Ev.step (g := fun k => impl_Turned.j0 k _ _ _ _ _ _ _ _) (fun k => by rw [impl_Turned.j0]) ?_
        refine ev_if_neg (by rw [decide_eq_false c]; simp) ?_
        unfold impl_State_keys.f
        exact Ev.bind k2 t2
theorem FnExactTurned : laws_FnExactTurned.Pure := by
  intro x0 id h0 _
  refine Ev.rounds ?_
  unfold laws_FnExactTurned.f
  obtain ⟨r, e, hr⟩ := szState_ev x0 h0
  refine Ev.bind e ?_
  by_cases c : r < 0
  · exact ev_if_pos c (Ev.now _)
  refine ev_if_neg c ?_
  have ft := hr (by omega)
  obtain ⟨q, hq, hq2, e1, e2⟩ := turned_both x0 h0 ft id
  obtain ⟨m, em, hm1, hm2⟩ := markState_eq x0 ft
  have ht := tot_le q.1 1048576 hq2
  have ts := toState_ev x0 ft
  have eb := eqByteSS_self q.1 (by omega) (fun y hy => by have := hq2 y hy; omega)
  have mb := markByteSS1_ev q.1 1 (by omega) (by omega) (by omega)
  have hb := heldByteSSm_ev q.1 (by omega) (by omega)
  have nn : (q.2 != q.2) = false := by simp
  refine Ev.bind ts (Ev.bind e1 (Ev.bind ts (Ev.bind e2 (Ev.bind eb (ev_if_pos rfl ?_)))))
  rw [nn]
  refine Ev.step (g := fun k => laws_FnExactTurned.j0 k _ _ _ _ _ _ _ _ _ _ _ _ _ _ _ _ _ _) (fun k => by rw [laws_FnExactTurned.j0]) ?_
  refine ev_if_neg (by simp) (Ev.bind ts (Ev.bind (eqState_self x0 ft) (ev_if_pos rfl (ev_bind_eq em (ev_if_neg (by omega) (Ev.bind eb (ev_if_pos rfl ?_)))))))
  rw [nn]
  refine Ev.step (g := fun k => laws_FnExactTurned.j1 k _ _ _ _ _ _ _ _ _ _ _) (fun k => by rw [laws_FnExactTurned.j1]) ?_
  refine ev_if_neg (by simp) (Ev.bind mb (Ev.bind hb (ev_if_neg (by omega) (ev_if_pos rfl (Ev.bind ts (Ev.bind e2 (Ev.bind eb (ev_if_pos rfl ?_))))))))
  rw [nn]
  refine Ev.step (g := fun k => laws_FnExactTurned.j2 k _ _ _) (fun k => by rw [laws_FnExactTurned.j2]) ?_
  exact ev_if_neg (by simp) (Ev.bind hb (ev_if_neg (by omega) (ev_if_pos rfl (Ev.now _))))

end Go.Proofs.Ytdgegnakiljfjaa.Pure
