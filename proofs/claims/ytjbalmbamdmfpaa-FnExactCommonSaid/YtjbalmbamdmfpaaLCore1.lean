import Derived.Test.YtjbalmbamdmfpaaPAx0
import Derived.Test.YtjbalmbamdmfpaaPAx1
import Derived.Test.YtjbalmbamdmfpaaPAx2
import Derived.Test.YtjbalmbamdmfpaaLBase
namespace Go.Proofs.Ytjbalmbamdmfpaa.Pure
open Go.RowKit Go.Proofs.Ytjbalmbamdmfpaa.PA Go.Proofs.YtjbalmbamdmfpaaW.PrintWords Go.Proofs.YtjbalmbamdmfpaaW.PrintLast Go.Proofs.YtjbalmbamdmfpaaW.PrintMore
set_option linter.unusedVariables false
set_option linter.unusedSimpArgs false
theorem ofNats_ext {α : Type} {x y : α} (h : x = y) : (some x : Option α) = some y := by rw [h]
theorem hasPrefix_eq (a b : List Int) (h : a.length ≤ 140737488351232) : ∃ r, spec_HasPrefix.f a b = some r ∧ impl_HasPrefix.f a b = some r := by
  unfold impl_HasPrefix.f bytes_HasPrefix.f spec_HasPrefix.f bytes_Equal.f
  by_cases c : (a.length : Int) ≥ (b.length : Int)
  · rw [if_pos c, if_pos (by omega), if_pos (by omega), if_pos c, if_pos (by omega), if_pos (by omega)]
    exact ⟨_, rfl, rfl⟩
  · rw [if_neg c, if_neg c]
    exact ⟨_, rfl, rfl⟩
theorem common_loop (a b : List Int) (hn : a.length ≤ 140737488351232) (d : Nat) : ∀ (i : Nat), i ≤ a.length → a.length - i = d → ∃ r, Ev (fun k => spec_Common.l0 k a b (i : Int)) r ∧ Ev (fun k => impl_Common.l0 k a b (i : Int)) r := by
  induction d with
  | zero =>
    intro i hi hd
    refine ⟨(i : Int), Ev.step (fun k => by rw [spec_Common.l0]) ?_, Ev.step (fun k => by rw [impl_Common.l0]) ?_⟩
    · exact ev_if_neg (by omega) (Ev.now _)
    · exact ev_if_neg (by omega) (Ev.now _)
  | succ d ih =>
    intro i hi hd
    by_cases hb : (i : Int) < (b.length : Int)
    · by_cases e : rd a (i : Int) = rd b (i : Int)
      · obtain ⟨r, h1, h2⟩ := ih (i + 1) (by omega) (by omega)
        rw [Int.natCast_add, Int.natCast_one] at h1 h2
        refine ⟨r, Ev.step (fun k => by rw [spec_Common.l0]) ?_, Ev.step (fun k => by rw [impl_Common.l0]) ?_⟩
        · refine ev_if_pos (by omega) (ev_if_pos hb (ev_if_pos (by omega) (ev_if_pos e ?_)))
          rw [w64 (by omega) (by omega)]
          exact h1
        · refine ev_if_pos (by omega) (ev_if_pos hb (ev_if_pos (by omega) (ev_if_pos e ?_)))
          rw [w64 (by omega) (by omega)]
          exact h2
      · refine ⟨(i : Int), Ev.step (fun k => by rw [spec_Common.l0]) ?_, Ev.step (fun k => by rw [impl_Common.l0]) ?_⟩
        · exact ev_if_pos (by omega) (ev_if_pos hb (ev_if_pos (by omega) (ev_if_neg e (Ev.now _))))
        · exact ev_if_pos (by omega) (ev_if_pos hb (ev_if_pos (by omega) (ev_if_neg e (Ev.now _))))
    · refine ⟨(i : Int), Ev.step (fun k => by rw [spec_Common.l0]) ?_, Ev.step (fun k => by rw [impl_Common.l0]) ?_⟩
      · exact ev_if_pos (by omega) (ev_if_neg hb (Ev.now _))
      · exact ev_if_pos (by omega) (ev_if_neg hb (Ev.now _))
theorem common_eq (a b : List Int) (hn : a.length ≤ 140737488351232) : ∃ r, Ev (fun k => spec_Common.f k a b) r ∧ Ev (fun k => impl_Common.f k a b) r :=
  common_loop a b hn a.length 0 (by omega) (by omega)

end Go.Proofs.Ytjbalmbamdmfpaa.Pure
