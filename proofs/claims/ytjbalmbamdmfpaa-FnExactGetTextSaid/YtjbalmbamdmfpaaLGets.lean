import Derived.Test.YtjbalmbamdmfpaaPAx0
import Derived.Test.YtjbalmbamdmfpaaPAx6
import Derived.Test.YtjbalmbamdmfpaaLBase
import Derived.Test.YtjbalmbamdmfpaaLGetnum
import Derived.Test.YtjbalmbamdmfpaaLPuts
namespace Go.Proofs.Ytjbalmbamdmfpaa.Pure
open Go.RowKit Go.Proofs.Ytjbalmbamdmfpaa.PA Go.Proofs.YtjbalmbamdmfpaaW.PrintWords Go.Proofs.YtjbalmbamdmfpaaW.PrintLast Go.Proofs.YtjbalmbamdmfpaaW.PrintMore
set_option linter.unusedVariables false
set_option linter.unusedSimpArgs false
theorem getText_eq (l : List Int) (hn : l.length ≤ 1048576) (hw : ∀ x ∈ l, (Lit.int .u8 x).wf = true) (a : Int) (h0 : -9223372036854775808 ≤ a) (h1 : a ≤ 9223372036854775807) :
    ∃ (r : List Int × Int), Ev (fun k => spec_GetText.f k l a) r ∧ Ev (fun k => impl_GetText.f k l a) r ∧ r.1.length ≤ 1048576 := by
  obtain ⟨r, r1, r2, hr⟩ := getNum_range l hn hw a h0 h1
  unfold spec_GetText.f impl_GetText.f
  by_cases c0 : r.2 < 0
  · exact ⟨([], -1), Ev.bind r1 (ev_if_pos c0 (Ev.now _)), Ev.bind r2 (ev_if_pos c0 (Ev.now _)), by simp⟩
  by_cases c1 : r.1 > 20
  · exact ⟨([], -1), Ev.bind r1 (ev_if_neg c0 (ev_if_pos c1 (Ev.now _))), Ev.bind r2 (ev_if_neg c0 (ev_if_pos c1 (Ev.now _))), by simp⟩
  obtain ⟨hr1, hr2⟩ := hr (by omega)
  have e1 : Aside0 (wrap64 ((l.length : Int) - r.2) = (l.length : Int) - r.2) := ⟨w64 (by omega) (by omega)⟩
  have e2 : Aside0 (wrap64 (r.2 + r.1) = r.2 + r.1) := ⟨w64 (by omega) (by omega)⟩
  by_cases c2 : r.1 > (l.length : Int) - r.2
  · exact ⟨([], -1), Ev.bind r1 (ev_if_neg c0 (ev_if_neg c1 (ev_if_pos (by rw [e1.out]; exact c2) (Ev.now _)))), Ev.bind r2 (ev_if_neg c0 (ev_if_neg c1 (ev_if_pos (by rw [e1.out]; exact c2) (Ev.now _)))), by simp⟩
  have hl : ((l.take (r.2 + r.1).toNat).drop r.2.toNat).length ≤ 1048576 := by rw [List.length_drop, List.length_take]; omega
  refine ⟨((l.take (r.2 + r.1).toNat).drop r.2.toNat, r.2 + r.1), Ev.bind r1 (ev_if_neg c0 (ev_if_neg c1 (ev_if_neg (by rw [e1.out]; exact c2) ?_))), Ev.bind r2 (ev_if_neg c0 (ev_if_neg c1 (ev_if_neg (by rw [e1.out]; exact c2) ?_))), hl⟩
  · rw [e2.out]
    refine ev_bind_eq rfl (ev_if_pos (by omega) (ev_if_pos (by omega) (ev_if_pos (by omega) (ev_if_pos ?_ (Ev.now _)))))
    rw [List.length_nil]
    omega
  · rw [e2.out]
    exact ev_if_pos (by omega) (ev_if_pos (by omega) (ev_if_pos (by omega) (ev_bind_eq (clone_eq _ (by omega)) (Ev.now _))))

end Go.Proofs.Ytjbalmbamdmfpaa.Pure
