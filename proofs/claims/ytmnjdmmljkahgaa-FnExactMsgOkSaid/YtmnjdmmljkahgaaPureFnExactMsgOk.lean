/- What is proved: the program's MsgOk answers as the reference's, for all arguments, and leaves its argument alone. Conditions: none beyond those of the given statement. -/
import Derived.Test.YtmnjdmmljkahgaaPMx0
import Derived.Test.YtmnjdmmljkahgaaPMx1
import Derived.Test.YtmnjdmmljkahgaaPMx10
import Derived.Test.YtmnjdmmljkahgaaPMx5
import Derived.Test.YtmnjdmmljkahgaaLBase
import Derived.Test.YtmnjdmmljkahgaaLItemrows
import Derived.Test.YtmnjdmmljkahgaaLMsgs
import Derived.Test.YtmnjdmmljkahgaaLSmall
namespace Go.Proofs.Ytmnjdmmljkahgaa.Pure
open Go.RowKit Go.Proofs.Ytmnjdmmljkahgaa.PM Go.Proofs.YtmnjdmmljkahgaaW.PrintWords Go.Proofs.YtmnjdmmljkahgaaW.PrintLast Go.Proofs.YtmnjdmmljkahgaaW.PrintMore
set_option linter.unusedVariables false
set_option linter.unusedSimpArgs false
theorem FnExactMsgOk : laws_FnExactMsgOk.Pure := by
  intro x0 ⟨_, _, _, h3, h4, h5, ⟨hl, hk⟩, _, _⟩
  have hk' : ∀ x ∈ x0.f6, x.f1.f2.f1.length ≤ maxLen ∧ x.f1.f2.f2.length ≤ maxLen := fun x hx => by
    obtain ⟨_, _, _, _, ⟨a, _⟩, ⟨b, _⟩, _⟩ := hk x hx
    exact ⟨a, b⟩
  refine Ev.rounds ?_
  unfold laws_FnExactMsgOk.f
  obtain ⟨r, e, hr⟩ := szItemS_ev x0.f6 1048576 (by decide) (by decide) hl hk'
  have e1 : Ev (fun k => laws_szMsg.f k x0.f0 x0.f1 x0.f2 x0.f3 x0.f4 x0.f5 x0.f6 x0.f7 x0.f8 1048576) (if r < 0 then -1 else r) := by
    unfold laws_szMsg.f
    refine Ev.bind e ?_
    by_cases c : r < 0
    · exact ev_of (ev_if_pos c (Ev.now _)) (by rw [if_pos c])
    · exact ev_of (ev_if_neg c (Ev.now _)) (by rw [if_neg c])
  refine Ev.bind e1 ?_
  by_cases c : r < 0
  · rw [if_pos c]
    exact ev_if_pos (by decide) (Ev.now _)
  rw [if_neg c]
  refine ev_if_neg c ?_
  obtain ⟨hr1, hr2, hr3⟩ := hr (by omega)
  have e2 : Ev (fun k => laws_toMsg.f k x0.f0 x0.f1 x0.f2 x0.f3 x0.f4 x0.f5 x0.f6 x0.f7 x0.f8) (x0.f0, x0.f1, x0.f2, x0.f3, x0.f4, x0.f5, x0.f6.map cvItem, x0.f7, x0.f8) := by
    unfold laws_toMsg.f
    exact Ev.bind (toItemS_ev x0.f6 (by omega) hr3) (Ev.now _)
  have hf : ∀ x ∈ x0.f6.map cvItem, fitItem x := fun x hx => by
    obtain ⟨y, hy, rfl⟩ := List.mem_map.1 hx
    exact hr3 y hy
  have hn : (x0.f6.map cvItem).length ≤ 1048576 := by rw [List.length_map]; omega
  generalize x0.f6.map cvItem = es at e2 hf hn
  refine Ev.bind e2 (Ev.bind (specMsgOk_ev x0.f0 x0.f1 x0.f2 x0.f3 x0.f4 x0.f5 es x0.f7 x0.f8 hn hf) (Ev.bind e2 (Ev.bind (implMsgOk_ev x0.f0 x0.f1 x0.f2 x0.f3 x0.f4 x0.f5 es x0.f7 x0.f8 hn hf) (ev_if_neg (bool_ne_self _) (Ev.bind e2 ?_)))))
  refine Ev.bind (a := true) ?_ (ev_if_pos rfl (Ev.now _))
  unfold laws_eqMsg.f
  refine ev_if_pos rfl (ev_if_pos rfl (ev_if_pos rfl (ev_if_pos rfl (ev_if_pos rfl (ev_if_pos rfl ?_)))))
  exact Ev.bind (eqItemS_self es hn hf) (ev_if_pos rfl (ev_if_pos rfl (ev_if_neg (bool_ne_self _) (Ev.now _))))

end Go.Proofs.Ytmnjdmmljkahgaa.Pure
