/- What is proved: the program's LastOf answers as the reference's, for all arguments, and leaves its argument alone. Conditions: none beyond those of the given statement. -/
import Derived.Test.YtdgegnakiljfjaaPAx0
import Derived.Test.YtdgegnakiljfjaaPAx10
import Derived.Test.YtdgegnakiljfjaaPAx11
import Derived.Test.YtdgegnakiljfjaaLAA
namespace Go.Proofs.Ytdgegnakiljfjaa.Pure
open Go.RowKit Go.Proofs.Ytdgegnakiljfjaa.PA Go.Proofs.YtdgegnakiljfjaaW.PrintWords Go.Proofs.YtdgegnakiljfjaaW.PrintLast Go.Proofs.YtdgegnakiljfjaaW.PrintMore
set_option linter.unusedVariables false
set_option linter.unusedSimpArgs false
theorem last_loops (idx : Int) (rows : List S92) (tombs : List S94) (lost : Int) (sess : List S109) (lasts : List S75) (c : Int) (hn : lasts.length ≤ 1048576) (d : Nat) : ∀ i : Nat, i ≤ lasts.length → lasts.length - i = d →
    ∃ r, Ev (fun k => spec_LastOf.l0 k c (i : Int) idx rows tombs lost sess lasts) r ∧ Ev (fun k => impl_LastOf.l0 k c lasts (lasts.length : Int) (i : Int)) r := by
  induction d with
  | zero =>
    intro i hi hd
    refine ⟨(0, 0, 0, 0, false), ?_, ?_⟩
    · refine Ev.step (fun k => by rw [spec_LastOf.l0]) ?_
      exact ev_if_neg (by omega) (Ev.now _)
    · refine Ev.step (fun k => by rw [impl_LastOf.l0]) ?_
      exact ev_if_neg (by omega) (Ev.now _)
  | succ d ih =>
    intro i hi hd
    obtain ⟨r, e1, e2⟩ := ih (i + 1) (by omega) (by omega)
    rw [Int.natCast_add, Int.natCast_one] at e1 e2
    by_cases q : (rd_T75 lasts (i : Int)).f0 = c
    · refine ⟨((rd_T75 lasts (i : Int)).f0, (rd_T75 lasts (i : Int)).f1, (rd_T75 lasts (i : Int)).f2.f0, (rd_T75 lasts (i : Int)).f2.f1, true), ?_, ?_⟩
      · refine Ev.step (fun k => by rw [spec_LastOf.l0]) ?_
        exact ev_if_pos (by omega) (ev_if_pos (by omega) (ev_if_pos q (Ev.now _)))
      · refine Ev.step (fun k => by rw [impl_LastOf.l0]) ?_
        exact ev_if_pos (by omega) (ev_if_pos (by omega) (ev_if_pos (by omega) (ev_if_pos q (Ev.now _))))
    · refine ⟨r, ?_, ?_⟩
      · refine Ev.step (fun k => by rw [spec_LastOf.l0]) ?_
        rw [w64 (x := (i : Int) + 1) (by omega) (by omega)]
        exact ev_if_pos (by omega) (ev_if_pos (by omega) (ev_if_neg q e1))
      · refine Ev.step (fun k => by rw [impl_LastOf.l0]) ?_
        rw [w64 (x := (i : Int) + 1) (by omega) (by omega)]
        exact ev_if_pos (by omega) (ev_if_pos (by omega) (ev_if_pos (by omega) (ev_if_neg q e2)))
theorem FnExactLastOf : laws_FnExactLastOf.Pure := by
  intro x0 a1 h0 ha1
  refine Ev.rounds ?_
  unfold laws_FnExactLastOf.f
  obtain ⟨r, e, hr⟩ := szState_ev x0 h0
  refine Ev.bind e ?_
  by_cases c : r < 0
  · exact ev_if_pos c (Ev.now _)
  have ft := hr (by omega)
  obtain ⟨b, e1, e2, _⟩ := states_same x0 h0 ft
  have ts := toState_ev x0 ft
  have both : ∃ n, Ev (fun k => spec_LastOf.f k x0.f0 (x0.f1.map cvRow) (x0.f2.map cvTomb) x0.f3 (x0.f4.map cvSess) (x0.f5.map cvLast) a1) n ∧ Ev (fun k => impl_LastOf.f k x0.f0 (x0.f1.map cvRow) (x0.f2.map cvTomb) x0.f3 (x0.f4.map cvSess) (x0.f5.map cvLast) a1) n := by
    unfold spec_LastOf.f impl_LastOf.f
    by_cases g : b = true
    · obtain ⟨n, l1, l2⟩ := last_loops x0.f0 (x0.f1.map cvRow) (x0.f2.map cvTomb) x0.f3 (x0.f4.map cvSess) (x0.f5.map cvLast) a1 (by rw [List.length_map]; exact ft.h5) _ 0 (by omega) rfl
      exact ⟨n, Ev.bind e1 (ev_if_pos g l1), Ev.bind e2 (ev_if_pos g l2)⟩
    · exact ⟨(0, 0, 0, 0, false), Ev.bind e1 (ev_if_neg g (Ev.now _)), Ev.bind e2 (ev_if_neg g (Ev.now _))⟩
  obtain ⟨n, n1, n2⟩ := both
  refine ev_if_neg c (Ev.bind ts (Ev.bind n1 (Ev.bind ts (Ev.bind n2 (ev_bind_eq (eqLast_self _ _ _ _) (ev_if_pos rfl ?_))))))
  refine Ev.step (g := fun k => laws_FnExactLastOf.j0 k _ _ _ _ _ _ _ _ _ _ _ _ _) (fun k => by rw [laws_FnExactLastOf.j0]) ?_
  exact ev_if_neg (by simp) (Ev.bind ts (Ev.bind (eqState_self x0 ft) (ev_if_pos rfl (Ev.now _))))

end Go.Proofs.Ytdgegnakiljfjaa.Pure
