import Derived.Test.YtoaddpfoecggpaaPNx0
import Derived.Test.YtoaddpfoecggpaaPNx3
import Derived.Test.YtoaddpfoecggpaaPNx6
import Derived.Test.YtoaddpfoecggpaaPNx7
import Derived.Test.YtoaddpfoecggpaaLBase
namespace Go.Proofs.Ytoaddpfoecggpaa.Pure
open Go.RowKit Go.Proofs.Ytoaddpfoecggpaa.PN Go.Proofs.YtoaddpfoecggpaaW.PrintWords Go.Proofs.YtoaddpfoecggpaaW.PrintLast Go.Proofs.YtoaddpfoecggpaaW.PrintMore
set_option linter.unusedVariables false
set_option linter.unusedSimpArgs false
/-- The bytes of keys: letters and '/'. -/
def keyByte (c : Int) : Bool := decide ((97 ≤ c ∧ c ≤ 122) ∨ c = 47)
def keyP (l : List Int) : Bool := decide (1 ≤ l.length ∧ l.length ≤ 20) && l.all keyByte
theorem drop_cons (l : List Int) (i : Nat) (h : i < l.length) : l.drop i = rd l (i : Int) :: l.drop (i + 1) := by
  rw [rd_get l i h]
  exact List.drop_eq_getElem_cons h
theorem specKey_loop (l : List Int) (hn : l.length ≤ 140737488351232) (d : Nat) : ∀ (i : Nat), i ≤ l.length → l.length - i = d → Ev (fun k => spec_l2key.l0 k l (i : Int)) ((l.drop i).all keyByte) := by
  induction d with
  | zero =>
    intro i hi hd
    refine Ev.step (fun k => by rw [spec_l2key.l0]) ?_
    refine ev_if_neg (by omega) ?_
    rw [List.drop_of_length_le (by omega)]
    exact Ev.now _
  | succ d ih =>
    intro i hi hd
    have h := ih (i + 1) (by omega) (by omega)
    rw [Int.natCast_add, Int.natCast_one] at h
    rw [drop_cons l i (by omega), List.all_cons]
    refine Ev.step (fun k => by rw [spec_l2key.l0]) ?_
    rw [w64 (by omega) (by omega)]
    refine ev_if_pos (by omega) (ev_if_pos (by omega) ?_)
    by_cases c1 : rd l (i : Int) < 97
    · refine ev_if_pos c1 ?_
      by_cases c2 : rd l (i : Int) = 47
      · refine ev_if_pos c2 ?_
        rw [show keyByte (rd l (i : Int)) = true from decide_eq_true (.inr c2), Bool.true_and]
        exact h
      · refine ev_if_neg c2 ?_
        rw [show keyByte (rd l (i : Int)) = false from decide_eq_false (by omega), Bool.false_and]
        exact Ev.now _
    · refine ev_if_neg c1 ?_
      by_cases c3 : rd l (i : Int) > 122
      · refine ev_if_pos c3 ?_
        refine ev_if_neg (by omega) ?_
        rw [show keyByte (rd l (i : Int)) = false from decide_eq_false (by omega), Bool.false_and]
        exact Ev.now _
      · refine ev_if_neg c3 ?_
        rw [show keyByte (rd l (i : Int)) = true from decide_eq_true (by omega), Bool.true_and]
        exact h
theorem specKey_ev (l : List Int) (hn : l.length ≤ 140737488351232) : Ev (fun k => spec_l2key.f k l) (keyP l) := by
  unfold spec_l2key.f
  by_cases c : (l.length : Int) < 1
  · refine ev_if_pos c ?_
    refine Ev.step (fun k => by rw [spec_l2key.j0]) ?_
    refine ev_if_pos rfl ?_
    rw [show keyP l = false from by unfold keyP; rw [decide_eq_false (by omega), Bool.false_and]]
    exact Ev.now _
  · refine ev_if_neg c ?_
    refine Ev.step (fun k => by rw [spec_l2key.j0]) ?_
    by_cases c2 : (l.length : Int) > 20
    · refine ev_if_pos (decide_eq_true c2) ?_
      rw [show keyP l = false from by unfold keyP; rw [decide_eq_false (by omega), Bool.false_and]]
      exact Ev.now _
    · refine ev_if_neg (by rw [decide_eq_false c2]; decide) ?_
      rw [show keyP l = l.all keyByte from by unfold keyP; rw [decide_eq_true (by omega), Bool.true_and]]
      exact specKey_loop l hn l.length 0 (by omega) (by omega)
theorem implKey_loop (l : List Int) (hn : l.length ≤ 140737488351232) (d : Nat) : ∀ (i : Nat), i ≤ l.length → l.length - i = d → Ev (fun k => impl_KeyOk.l0 k l l (l.length : Int) (i : Int)) (decide (1 ≤ l.length ∧ l.length ≤ 20) && (l.drop i).all keyByte) := by
  induction d with
  | zero =>
    intro i hi hd
    refine Ev.step (fun k => by rw [impl_KeyOk.l0]) ?_
    refine ev_if_neg (by omega) ?_
    rw [List.drop_of_length_le (by omega), List.all_nil, Bool.and_true]
    unfold impl_within.f
    by_cases c : 1 ≤ (l.length : Int)
    · rw [if_pos c, decide_eq_decide.mpr (show (1 ≤ l.length ∧ l.length ≤ 20) ↔ ((l.length : Int) ≤ 20) by omega)]
      exact Ev.now _
    · rw [if_neg c, decide_eq_false (by omega)]
      exact Ev.now _
  | succ d ih =>
    intro i hi hd
    have h := ih (i + 1) (by omega) (by omega)
    rw [Int.natCast_add, Int.natCast_one] at h
    rw [drop_cons l i (by omega), List.all_cons]
    refine Ev.step (fun k => by rw [impl_KeyOk.l0]) ?_
    rw [w64 (by omega) (by omega)]
    refine ev_if_pos (by omega) (ev_if_pos (by omega) (ev_if_pos (by omega) ?_))
    by_cases c1 : rd l (i : Int) < 97
    · refine ev_if_pos c1 ?_
      by_cases c2 : rd l (i : Int) = 47
      · refine ev_if_pos c2 ?_
        rw [show keyByte (rd l (i : Int)) = true from decide_eq_true (.inr c2), Bool.true_and]
        exact h
      · refine ev_if_neg c2 ?_
        rw [show keyByte (rd l (i : Int)) = false from decide_eq_false (by omega), Bool.false_and, Bool.and_false]
        exact Ev.now _
    · refine ev_if_neg c1 ?_
      by_cases c3 : rd l (i : Int) > 122
      · refine ev_if_pos c3 ?_
        refine ev_if_neg (by omega) ?_
        rw [show keyByte (rd l (i : Int)) = false from decide_eq_false (by omega), Bool.false_and, Bool.and_false]
        exact Ev.now _
      · refine ev_if_neg c3 ?_
        rw [show keyByte (rd l (i : Int)) = true from decide_eq_true (by omega), Bool.true_and]
        exact h
theorem implKey_ev (l : List Int) (hn : l.length ≤ 140737488351232) : Ev (fun k => impl_KeyOk.f k l) (keyP l) :=
  implKey_loop l hn l.length 0 (by omega) (by omega)

end Go.Proofs.Ytoaddpfoecggpaa.Pure
