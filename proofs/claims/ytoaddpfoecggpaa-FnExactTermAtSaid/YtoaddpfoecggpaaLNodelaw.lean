import Derived.Test.YtoaddpfoecggpaaPNx0
import Derived.Test.YtoaddpfoecggpaaPNx2
import Derived.Test.YtoaddpfoecggpaaPNx5
import Derived.Test.YtoaddpfoecggpaaPNx6
import Derived.Test.YtoaddpfoecggpaaPNx9
import Derived.Test.YtoaddpfoecggpaaLBase
import Derived.Test.YtoaddpfoecggpaaLBools
import Derived.Test.YtoaddpfoecggpaaLInts
import Derived.Test.YtoaddpfoecggpaaLItemrows
import Derived.Test.YtoaddpfoecggpaaLNodeimpl
import Derived.Test.YtoaddpfoecggpaaLNodes
import Derived.Test.YtoaddpfoecggpaaLNodespec
namespace Go.Proofs.Ytoaddpfoecggpaa.Pure
open Go.RowKit Go.Proofs.Ytoaddpfoecggpaa.PN Go.Proofs.YtoaddpfoecggpaaW.PrintWords Go.Proofs.YtoaddpfoecggpaaW.PrintLast Go.Proofs.YtoaddpfoecggpaaW.PrintMore
set_option linter.unusedVariables false
set_option linter.unusedSimpArgs false
theorem szNode_ev (x0 : S67) (h : okS67 x0) : ∃ r, Ev (fun k => laws_szNode.f k x0.f0 x0.f1 x0.f2 x0.f3 x0.f4 x0.f5 x0.f6 x0.f7 x0.f8 x0.f9 x0.f10 1048576) r ∧
    (0 ≤ r → x0.f3.length ≤ 1048576 ∧ (∀ x ∈ x0.f3, fitItem (cvItem x)) ∧ x0.f8.length ≤ 1048576 ∧ x0.f9.length ≤ 1048576 ∧ x0.f10.length ≤ 1048576) := by
  obtain ⟨_, _, _, ⟨h3, g3⟩, _, _, _, _, ⟨h8, _⟩, ⟨h9, _⟩, h10, _⟩ := h
  unfold laws_szNode.f
  obtain ⟨q, e, hq⟩ := szItemS_ev x0.f3 1048576 (by decide) (by decide) h3 (fun x hx => ⟨(g3 x hx).2.2.2.2.1.1, (g3 x hx).2.2.2.2.2.1.1⟩)
  by_cases c : q < 0
  · exact ⟨-1, Ev.bind e (ev_if_pos c (Ev.now _)), fun h => absurd h (by decide)⟩
  obtain ⟨q1, q2, q3⟩ := hq (by omega)
  obtain ⟨q', e', hq'⟩ := szBoolS_eq x0.f8 q (by omega) (by omega) h8
  by_cases c' : q' < 0
  · exact ⟨-1, Ev.bind e (ev_if_neg c (ev_bind_eq e' (ev_if_pos c' (Ev.now _)))), fun h => absurd h (by decide)⟩
  obtain ⟨r1, r2⟩ := hq' (by omega)
  obtain ⟨q2', e2, hq2⟩ := szIntS_eq x0.f9 q' (by omega) (by omega) h9
  by_cases c2 : q2' < 0
  · exact ⟨-1, Ev.bind e (ev_if_neg c (ev_bind_eq e' (ev_if_neg c' (ev_bind_eq e2 (ev_if_pos c2 (Ev.now _)))))), fun h => absurd h (by decide)⟩
  obtain ⟨s1, s2⟩ := hq2 (by omega)
  obtain ⟨q3', e3, hq3⟩ := szIntS_eq x0.f10 q2' (by omega) (by omega) h10
  by_cases c3 : q3' < 0
  · exact ⟨-1, Ev.bind e (ev_if_neg c (ev_bind_eq e' (ev_if_neg c' (ev_bind_eq e2 (ev_if_neg c2 (ev_bind_eq e3 (ev_if_pos c3 (Ev.now _)))))))), fun h => absurd h (by decide)⟩
  obtain ⟨u1, u2⟩ := hq3 (by omega)
  exact ⟨q3', Ev.bind e (ev_if_neg c (ev_bind_eq e' (ev_if_neg c' (ev_bind_eq e2 (ev_if_neg c2 (ev_bind_eq e3 (ev_if_neg c3 (Ev.now _)))))))), fun h => ⟨by omega, q3, by omega, by omega, by omega⟩⟩
theorem toNode_ev (a0 a1 a2 : Int) (l3 : List S144) (a4 a5 a6 a7 : Int) (l8 : List Bool) (l9 l10 : List Int) (h3 : l3.length ≤ 1048576) (g3 : ∀ x ∈ l3, fitItem (cvItem x)) (h8 : l8.length ≤ 1048576) (h9 : l9.length ≤ 1048576) (h10 : l10.length ≤ 1048576) :
    Ev (fun k => laws_toNode.f k a0 a1 a2 l3 a4 a5 a6 a7 l8 l9 l10) (a0, a1, a2, l3.map cvItem, a4, a5, a6, a7, l8, l9, l10) := by
  unfold laws_toNode.f
  refine Ev.bind (toItemS_ev l3 h3 g3) ?_
  refine Ev.bind (toBoolS_ev l8 h8) ?_
  refine Ev.bind (toIntS_ev l9 h9) ?_
  refine Ev.bind (toIntS_ev l10 h10) ?_
  exact Ev.now _
theorem eqNode_self (a0 a1 a2 : Int) (l3 : List S115) (a4 a5 a6 a7 : Int) (l8 : List Bool) (l9 l10 : List Int) (h3 : l3.length ≤ 1048576) (g3 : ∀ x ∈ l3, fitItem x) (h8 : l8.length ≤ 1048576) (h9 : l9.length ≤ 1048576) (h10 : l10.length ≤ 1048576) :
    Ev (fun k => laws_eqNode.f k a0 a1 a2 l3 a4 a5 a6 a7 l8 l9 l10 a0 a1 a2 l3 a4 a5 a6 a7 l8 l9 l10) true := by
  unfold laws_eqNode.f
  exact ev_if_pos rfl (ev_if_pos rfl (ev_if_pos rfl (Ev.bind (eqItemS_self l3 h3 g3) (ev_if_pos rfl (ev_if_pos rfl (ev_if_pos rfl (ev_if_pos rfl (ev_if_pos rfl (Ev.bind (eqBoolS_self l8 h8) (ev_if_pos rfl (Ev.bind (eqIntS_self l9 h9) (ev_if_pos rfl (Ev.bind (eqIntS_self l10 h10) (ev_if_pos rfl (Ev.now _)))))))))))))))
theorem nodes_same (id term vote : Int) (log : List S115) (commit role lead wait : Int) (votes : List Bool) (next mat : List Int) (sv : Int) (hw : (Lit.int .i64 sv).wf = true) (hn : log.length ≤ 1048576) (hvn : votes.length ≤ 1048576) (hf : ∀ x ∈ log, fitItem x) :
    ∃ b, Ev (fun k => spec_NodeOk.f k id term vote log commit role lead wait votes next mat sv) b ∧ Ev (fun k => impl_NodeOk.f k id term vote log commit role lead wait votes next mat sv) b ∧ (b = true ↔ NodeP id term vote log commit role lead wait votes next mat sv) := by
  obtain ⟨b, e, h⟩ := specNodeOk_ev id term vote log commit role lead wait votes next mat sv hn hf
  obtain ⟨v, e', h'⟩ := implNodeOk_ev id term vote log commit role lead wait votes next mat sv (wf_i64 hw) hn hvn hf
  have same : v = b := by
    have : v = true ↔ b = true := h'.trans h.symm
    cases v <;> cases b <;> simp_all
  exact ⟨b, e, same ▸ e', h⟩

end Go.Proofs.Ytoaddpfoecggpaa.Pure
