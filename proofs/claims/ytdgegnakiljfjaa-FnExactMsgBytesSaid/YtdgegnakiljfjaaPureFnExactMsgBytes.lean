/- What is proved: the program's MsgBytes answers as the reference's, for all arguments; it leaves its arguments alone, and what it answers shares no memory with them. Conditions: none beyond those of the given statement. -/
import Derived.Test.YtdgegnakiljfjaaPMx0
import Derived.Test.YtdgegnakiljfjaaPMx11
import Derived.Test.YtdgegnakiljfjaaPMx12
import Derived.Test.YtdgegnakiljfjaaPMx14
import Derived.Test.YtdgegnakiljfjaaPMx6
import Derived.Test.YtdgegnakiljfjaaLAM
namespace Go.Proofs.Ytdgegnakiljfjaa.Pure
open Go.RowKit Go.Proofs.Ytdgegnakiljfjaa.PM Go.Proofs.YtdgegnakiljfjaaW.PrintWords Go.Proofs.YtdgegnakiljfjaaW.PrintLast Go.Proofs.YtdgegnakiljfjaaW.PrintMore
set_option linter.unusedVariables false
set_option linter.unusedSimpArgs false
theorem msum (l : List S199) : ((l.map cvItem).map laws_markMsg.SItem_wt).sum = (l.map txts).sum + 5 * l.length := by
  induction l with
  | nil => rfl
  | cons x xs ih =>
    simp only [List.map_cons, List.sum_cons, List.length_cons, ih]
    unfold laws_markMsg.SItem_wt cvItem txts
    simp only []
    omega
theorem FnExactMsgBytes : laws_FnExactMsgBytes.Pure := by
  intro x0 ⟨_, _, _, h3, h4, h5, ⟨hl, hk⟩, _, _⟩
  have hk' : ∀ x ∈ x0.f6, x.f1.f2.f1.length ≤ maxLen ∧ x.f1.f2.f2.length ≤ maxLen := fun x hx => by
    obtain ⟨_, _, _, _, ⟨a, _⟩, ⟨b, _⟩, _⟩ := hk x hx
    exact ⟨a, b⟩
  refine Ev.rounds ?_
  unfold laws_FnExactMsgBytes.f
  obtain ⟨r, e, hr⟩ := szItemS_ev2 x0.f6 1048576 (by decide) (by decide) hl hk'
  have e1 : Ev (fun k => laws_szMsg.f k x0.f0 x0.f1 x0.f2 x0.f3 x0.f4 x0.f5 x0.f6 x0.f7 x0.f8 1048576) (if r < 0 then -1 else r) := by
    unfold laws_szMsg.f
    refine Ev.bind e ?_
    by_cases c : r < 0
    · exact ev_of (ev_if_pos c (Ev.now _)) (by rw [if_pos c])
    · exact ev_of (ev_if_neg c (Ev.now _)) (by rw [if_neg c])
  refine Ev.bind e1 ?_
  by_cases c : r < 0
  · rw [if_pos c]
    exact ev_if_pos (by decide) (Ev.now _)
  rw [if_neg c]
  refine ev_if_neg c ?_
  have hr1 := hr (by omega)
  have hr3 : ∀ x ∈ x0.f6, fitItem (cvItem x) := fun x hx => by
    have h := txts_mem x0.f6 x hx
    unfold txts at h
    exact ⟨by show x.f1.f2.f1.length ≤ 1048576; unfold txts at hr1; omega, by show x.f1.f2.f2.length ≤ 1048576; unfold txts at hr1; omega⟩
  have e2 : Ev (fun k => laws_toMsg.f k x0.f0 x0.f1 x0.f2 x0.f3 x0.f4 x0.f5 x0.f6 x0.f7 x0.f8) (x0.f0, x0.f1, x0.f2, x0.f3, x0.f4, x0.f5, x0.f6.map cvItem, x0.f7, x0.f8) := by
    unfold laws_toMsg.f
    exact Ev.bind (toItemS_ev x0.f6 (by omega) hr3) (Ev.now _)
  have hf : ∀ x ∈ x0.f6.map cvItem, fitItem x := fun x hx => by
    obtain ⟨y, hy, rfl⟩ := List.mem_map.1 hx
    exact hr3 y hy
  have hn : (x0.f6.map cvItem).length ≤ 1048576 := by rw [List.length_map]; omega
  have hm : ∃ m : Int, laws_markMsg.f x0.f0 x0.f1 x0.f2 x0.f3 x0.f4 x0.f5 (x0.f6.map cvItem) x0.f7 x0.f8 1 = some m ∧ 0 ≤ m := by
    unfold laws_markMsg.f
    rw [msum, if_pos (by omega)]
    exact ⟨_, rfl, by omega⟩
  obtain ⟨m, em, hm1⟩ := hm
  generalize x0.f6.map cvItem = es at e2 hf hn em
  obtain ⟨q, hq, s1, s2⟩ := msgs_both x0.f0 x0.f1 x0.f2 x0.f3 x0.f4 x0.f5 es x0.f7 x0.f8 hn hf
  have e3 : Ev (fun k => laws_eqMsg.f k x0.f0 x0.f1 x0.f2 x0.f3 x0.f4 x0.f5 es x0.f7 x0.f8 x0.f0 x0.f1 x0.f2 x0.f3 x0.f4 x0.f5 es x0.f7 x0.f8) true := by
    unfold laws_eqMsg.f
    refine ev_if_pos rfl (ev_if_pos rfl (ev_if_pos rfl (ev_if_pos rfl (ev_if_pos rfl (ev_if_pos rfl ?_)))))
    exact Ev.bind (eqItemS_self es hn hf) (ev_if_pos rfl (ev_if_pos rfl (ev_if_neg (bool_ne_self _) (Ev.now _))))
  have eb := eqByteS_self q.1 (by omega)
  have mb := markByteS_ev q.1 1 (by omega) (by omega)
  have hb := heldByteS_ev q.1.length 1 (by omega) (by omega)
  refine Ev.bind e2 (Ev.bind s1 (Ev.bind e2 (Ev.bind s2 (Ev.bind eb (ev_if_pos rfl ?_)))))
  refine Ev.step (g := fun k => laws_FnExactMsgBytes.j0 k _ _ _ _ _ _ _ _ _ _ _ _ _ _ _ _ _ _ _ _ _ _ _) (fun k => by rw [laws_FnExactMsgBytes.j0]) ?_
  refine ev_if_neg (by simp) (Ev.bind e2 (Ev.bind e3 (ev_if_pos rfl (ev_bind_eq em (ev_if_neg (by omega) (Ev.bind eb (ev_if_pos rfl ?_)))))))
  refine Ev.step (g := fun k => laws_FnExactMsgBytes.j1 k _ _ _ _ _ _ _ _ _ _ _ _ _) (fun k => by rw [laws_FnExactMsgBytes.j1]) ?_
  refine ev_if_neg (by simp) (Ev.bind mb (Ev.bind hb (ev_if_neg (by omega) (ev_if_pos rfl (Ev.bind e2 (Ev.bind s2 (Ev.bind eb (ev_if_pos rfl ?_))))))))
  refine Ev.step (g := fun k => laws_FnExactMsgBytes.j2 k _ _ _) (fun k => by rw [laws_FnExactMsgBytes.j2]) ?_
  exact ev_if_neg (by simp) (Ev.bind hb (ev_if_neg (by omega) (ev_if_pos rfl (Ev.now _))))

end Go.Proofs.Ytdgegnakiljfjaa.Pure
