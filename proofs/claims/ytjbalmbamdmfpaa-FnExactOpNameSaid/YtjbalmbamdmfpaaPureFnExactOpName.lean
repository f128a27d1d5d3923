/- What is proved: the program's OpName answers as the reference's, for all arguments; what it answers shares no memory with the result of another call. Conditions: none beyond those of the given statement. -/
import Derived.Test.YtjbalmbamdmfpaaPOx0
import Derived.Test.YtjbalmbamdmfpaaPOx1
import Derived.Test.YtjbalmbamdmfpaaPOx2
import Derived.Test.YtjbalmbamdmfpaaLAO
namespace Go.Proofs.Ytjbalmbamdmfpaa.Pure
open Go.RowKit Go.Proofs.Ytjbalmbamdmfpaa.PO Go.Proofs.YtjbalmbamdmfpaaW.PrintWords Go.Proofs.YtjbalmbamdmfpaaW.PrintLast Go.Proofs.YtjbalmbamdmfpaaW.PrintMore
set_option linter.unusedVariables false
set_option linter.unusedSimpArgs false
theorem opName_same (a0 : Int) : ∃ r : List Int, r.length ≤ 4 ∧ spec_OpName.f a0 = some r ∧ impl_OpName.f a0 = some r := by
  by_cases c1 : a0 < 0
  · refine ⟨[], by simp, ?_, ?_⟩
    · unfold spec_OpName.f
      rw [if_pos c1]
    · unfold impl_OpName.f impl_within.f
      rw [if_neg (by omega)]
      rfl
  by_cases c2 : a0 > 7
  · refine ⟨[], by simp, ?_, ?_⟩
    · unfold spec_OpName.f
      rw [if_neg c1, if_pos c2]
    · unfold impl_OpName.f impl_within.f
      rw [if_pos (by omega), decide_eq_false (by omega)]
      rfl
  have h : a0 = 0 ∨ a0 = 1 ∨ a0 = 2 ∨ a0 = 3 ∨ a0 = 4 ∨ a0 = 5 ∨ a0 = 6 ∨ a0 = 7 := by omega
  rcases h with rfl | rfl | rfl | rfl | rfl | rfl | rfl | rfl
  · exact ⟨[110, 111, 110, 101], by simp, rfl, rfl⟩
  · exact ⟨[115, 101, 116], by simp, rfl, rfl⟩
  · exact ⟨[99, 97, 115], by simp, rfl, rfl⟩
  · exact ⟨[100, 101, 108], by simp, rfl, rfl⟩
  · exact ⟨[111, 112, 101, 110], by simp, rfl, rfl⟩
  · exact ⟨[115, 104, 117, 116], by simp, rfl, rfl⟩
  · exact ⟨[116, 97, 107, 101], by simp, rfl, rfl⟩
  · exact ⟨[102, 114, 101, 101], by simp, rfl, rfl⟩
theorem FnExactOpName : laws_FnExactOpName.Pure := by
  intro a0 _
  refine Ev.rounds ?_
  unfold laws_FnExactOpName.f
  obtain ⟨r, hr, e1, e2⟩ := opName_same a0
  have eb := eqByteS_self r (by omega)
  have mb := markByteS_ev r 1 (by omega) (by omega)
  have hb := heldByteS_ev r.length 1 (by omega) (by omega)
  refine ev_bind_eq e1 (ev_bind_eq e2 (Ev.bind eb (ev_if_pos rfl (Ev.bind mb (Ev.bind hb (ev_if_neg (by omega) (ev_if_pos rfl (ev_bind_eq e2 (Ev.bind eb (ev_if_pos rfl (Ev.bind hb (ev_if_neg (by omega) (ev_if_pos rfl (Ev.now _))))))))))))))

end Go.Proofs.Ytjbalmbamdmfpaa.Pure
