/- What is proved: the program's TreeOf answers as the reference's, for all arguments; it leaves its argument alone, and what it answers shares no memory with it. Conditions: none beyond those of the given statement. -/
import Derived.Test.YtmfedjoofnlncaaPTx0
import Derived.Test.YtmfedjoofnlncaaPTx17
import Derived.Test.YtmfedjoofnlncaaPTx18
import Derived.Test.YtmfedjoofnlncaaLAT
namespace Go.Proofs.Ytmfedjoofnlncaa.Pure
open Go.RowKit Go.Proofs.Ytmfedjoofnlncaa.PT Go.Proofs.YtmfedjoofnlncaaW.PrintWords Go.Proofs.YtmfedjoofnlncaaW.PrintLast Go.Proofs.YtmfedjoofnlncaaW.PrintMore
set_option linter.unusedVariables false
set_option linter.unusedSimpArgs false
theorem FnExactTreeOf : cO.Pure := by
  intro x0 h0
  refine Ev.rounds ?_
  unfold cO.f
  obtain ⟨r, e, hr⟩ := aao x0 h0
  refine Ev.bind e ?_
  by_cases c : r < 0
  · exact aa c (Ev.now _)
  refine az c ?_
  have ft := hr (by omega)
  obtain ⟨u, hu, hfu, hul, e1, e2⟩ := WZ x0 h0 ft
  obtain ⟨m, em, hm1, hm2⟩ := UA x0 ft
  have hwt := am9 hu hfu (by omega)
  have mv : Ev (fun k => aW.f k u.f0 u.f1 u.f2 u.f3 1) (1 + (u.f0.length : Int) + ((u.f3.map (yT 24)).sum : Nat)) := by
    unfold aW.f
    exact Ev.bind (W9 hu hfu hwt) (Ev.now _)
  have hv := ai8 u.f1 u.f2 hu hfu hwt
  have ts := aap x0 ft
  have eb := Xa hfu
  refine Ev.bind ts (Ev.bind e1 (Ev.bind ts (Ev.bind e2 (Ev.bind eb (aa rfl (Ev.bind ts (Ev.bind (UB x0 ft) (aa rfl (bU em (az (by omega) (Ev.bind eb ?_)))))))))))
  refine Ev.step (g := fun k => cO.j0 k _ _ _ _ _ _ _ _ _ _ _ _ _ _ _) (fun k => by rw [cO.j0]) ?_
  exact az (by simp) (Ev.bind mv (Ev.bind hv (az (by omega) (aa rfl (Ev.bind ts (Ev.bind e2 (Ev.bind eb (aa rfl (Ev.bind hv (az (by omega) (aa rfl (Ev.now _))))))))))))
end Go.Proofs.Ytmfedjoofnlncaa.Pure
