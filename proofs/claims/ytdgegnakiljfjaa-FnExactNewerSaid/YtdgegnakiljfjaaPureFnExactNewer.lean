/- What is proved: the program's Newer answers as the reference's, for all arguments, and leaves its argument alone. Conditions: none beyond those of the given statement. -/
import Derived.Test.YtdgegnakiljfjaaPWx0
import Derived.Test.YtdgegnakiljfjaaPWx10
import Derived.Test.YtdgegnakiljfjaaPWx12
import Derived.Test.YtdgegnakiljfjaaPWx5
import Derived.Test.YtdgegnakiljfjaaLAW
namespace Go.Proofs.Ytdgegnakiljfjaa.Pure
open Go.RowKit Go.Proofs.Ytdgegnakiljfjaa.PW Go.Proofs.YtdgegnakiljfjaaW.PrintWords Go.Proofs.YtdgegnakiljfjaaW.PrintLast Go.Proofs.YtdgegnakiljfjaaW.PrintMore
set_option linter.unusedVariables false
set_option linter.unusedSimpArgs false
theorem FnExactNewer : laws_FnExactNewer.Pure := by
  intro x0 a1 a2 a3 h0 ha1 ha2 ha3
  refine Ev.rounds ?_
  unfold laws_FnExactNewer.f
  obtain ⟨r, e, hr⟩ := szNode_ev x0 h0
  refine Ev.bind e ?_
  by_cases c : r < 0
  · exact ev_if_pos c (Ev.now _)
  obtain ⟨h3, g3, h8, h9, h10⟩ := hr (by omega)
  have h3' : (x0.f3.map cvItem).length ≤ 1048576 := by rw [List.length_map]; exact h3
  have g3' : ∀ x ∈ x0.f3.map cvItem, fitItem x := by
    intro x hx
    obtain ⟨y, hy, rfl⟩ := List.mem_map.1 hx
    exact g3 y hy
  have tn := toNode_ev x0.f0 x0.f1 x0.f2 x0.f3 x0.f4 x0.f5 x0.f6 x0.f7 x0.f8 x0.f9 x0.f10 h3 g3 h8 h9 h10
  obtain ⟨b, e1, e2, _⟩ := nodes_same x0.f0 x0.f1 x0.f2 (x0.f3.map cvItem) x0.f4 x0.f5 x0.f6 x0.f7 x0.f8 x0.f9 x0.f10 a1 ha1 h3' h8 g3'
  obtain ⟨v, t1, t2⟩ := termAt_eq x0.f0 x0.f1 x0.f2 (x0.f3.map cvItem) x0.f4 x0.f5 x0.f6 x0.f7 x0.f8 x0.f9 x0.f10 ((x0.f3.map cvItem).length : Int) (by omega) h3'
  have eq := eqNode_self x0.f0 x0.f1 x0.f2 (x0.f3.map cvItem) x0.f4 x0.f5 x0.f6 x0.f7 x0.f8 x0.f9 x0.f10 h3' g3' h8 h9 h10
  have both : ∃ n : Bool, Ev (fun k => spec_Newer.f k x0.f0 x0.f1 x0.f2 (x0.f3.map cvItem) x0.f4 x0.f5 x0.f6 x0.f7 x0.f8 x0.f9 x0.f10 a1 a2 a3) n ∧ Ev (fun k => impl_Newer.f k x0.f0 x0.f1 x0.f2 (x0.f3.map cvItem) x0.f4 x0.f5 x0.f6 x0.f7 x0.f8 x0.f9 x0.f10 a1 a2 a3) n := by
    have t3 : impl_Node_lastTerm.f x0.f0 x0.f1 x0.f2 (x0.f3.map cvItem) x0.f4 x0.f5 x0.f6 x0.f7 x0.f8 x0.f9 x0.f10 = some v := by
      unfold impl_Node_lastTerm.f
      rw [t2]
      rfl
    unfold spec_Newer.f impl_Newer.f
    by_cases g : b = true
    · refine ⟨_, Ev.bind e1 (ev_if_pos g (ev_bind_eq t1 (Ev.now _))), Ev.bind e2 (ev_if_pos g ?_)⟩
      refine ev_bind_eq (a := (decide (v < a3) || ((a3 == v) && decide (((x0.f3.map cvItem).length : Int) ≤ a2)))) ?_ (Ev.now _)
      unfold impl_Node_newer.f
      rw [t3]
      simp only [Option.bind_some]
      by_cases c1 : v < a3
      · rw [if_pos c1]
        simp [c1]
      · rw [if_neg c1]
        by_cases c2 : a3 = v
        · rw [if_pos c2]
          simp [c2]
        · rw [if_neg c2]
          simp [c1, c2]
    · exact ⟨false, Ev.bind e1 (ev_if_neg g (Ev.now _)), Ev.bind e2 (ev_if_neg g (Ev.now _))⟩
  obtain ⟨n, n1, n2⟩ := both
  exact ev_if_neg c (Ev.bind tn (Ev.bind n1 (Ev.bind tn (Ev.bind n2 (ev_if_neg (by simp) (Ev.bind tn (Ev.bind eq (ev_if_pos rfl (Ev.now _)))))))))

end Go.Proofs.Ytdgegnakiljfjaa.Pure
