import Derived.Test.YtoaddpfoecggpaaPNx0
import Derived.Test.YtoaddpfoecggpaaPNx1
import Derived.Test.YtoaddpfoecggpaaPNx6
import Derived.Test.YtoaddpfoecggpaaLBase
namespace Go.Proofs.Ytoaddpfoecggpaa.Pure
open Go.RowKit Go.Proofs.Ytoaddpfoecggpaa.PN Go.Proofs.YtoaddpfoecggpaaW.PrintWords Go.Proofs.YtoaddpfoecggpaaW.PrintLast Go.Proofs.YtoaddpfoecggpaaW.PrintMore
set_option linter.unusedVariables false
set_option linter.unusedSimpArgs false
theorem toByteS_loop (l : List Int) (hn : l.length ≤ 140737488351232) (d : Nat) : ∀ (x : List Int) (i : Nat), x.length = l.length → i ≤ l.length → l.length - i = d → x.take i = l.take i → Ev (fun k => laws_toByteS.l0 k l x (i : Int)) l := by
  induction d with
  | zero =>
    intro x i hx hi hd ht
    refine Ev.step (fun k => by rw [laws_toByteS.l0]) ?_
    refine ev_if_neg (by omega) ?_
    obtain rfl : i = l.length := by omega
    rw [eq_of_take hx rfl ht]
    exact Ev.now _
  | succ d ih =>
    intro x i hx hi hd ht
    refine Ev.step (fun k => by rw [laws_toByteS.l0]) ?_
    refine ev_if_pos (by omega) (ev_if_pos (by omega) (ev_if_pos (by omega) ?_))
    have h := ih (x.set i (rd l (i : Int))) (i + 1) (by rw [List.length_set]; exact hx) (by omega) (by omega) (take_set_succ x l i _ (by omega) (by omega) ht (rd_get l i (by omega)))
    rw [w64 (by omega) (by omega), Int.toNat_natCast]
    rw [Int.natCast_add, Int.natCast_one] at h
    exact h
theorem toByteS_ev (l : List Int) (hn : l.length ≤ 140737488351232) : Ev (fun k => laws_toByteS.f k l) l := by
  unfold laws_toByteS.f
  refine ev_if_pos (by omega) (ev_if_pos (by omega) ?_)
  exact toByteS_loop l hn l.length _ 0 (by rw [List.length_replicate, Int.toNat_natCast]) (by omega) (by omega) rfl
theorem eqByteS_loop (a b : List Int) (hn : a.length ≤ 140737488351232) (hab : a.length = b.length) (d : Nat) : ∀ (i : Nat), i ≤ a.length → a.length - i = d → a.take i = b.take i → Ev (fun k => laws_eqByteS.l0 k a b (i : Int)) (decide (a = b)) := by
  induction d with
  | zero =>
    intro i hi hd ht
    refine Ev.step (fun k => by rw [laws_eqByteS.l0]) ?_
    refine ev_if_neg (by omega) ?_
    obtain rfl : i = a.length := by omega
    rw [decide_eq_true (eq_of_take rfl hab.symm ht)]
    exact Ev.now _
  | succ d ih =>
    intro i hi hd ht
    refine Ev.step (fun k => by rw [laws_eqByteS.l0]) ?_
    refine ev_if_pos (by omega) (ev_if_pos (by omega) (ev_if_pos (by omega) ?_))
    by_cases e : rd a (i : Int) = rd b (i : Int)
    · refine ev_if_pos e ?_
      have h := ih (i + 1) (by omega) (by omega) (by
        rw [rd_get a i (by omega), rd_get b i (by omega)] at e
        rw [List.take_succ_eq_append_getElem (by omega), List.take_succ_eq_append_getElem (by omega), ht, e])
      rw [w64 (by omega) (by omega)]
      rw [Int.natCast_add, Int.natCast_one] at h
      exact h
    · refine ev_if_neg e ?_
      rw [decide_eq_false (fun h => e (by rw [h]))]
      exact Ev.now _
theorem eqByteS_ev (a b : List Int) (hn : a.length ≤ 140737488351232) : Ev (fun k => laws_eqByteS.f k a b) (decide (a = b)) := by
  by_cases hab : a.length = b.length
  · unfold laws_eqByteS.f
    refine ev_if_pos (by omega) ?_
    exact eqByteS_loop a b hn hab a.length 0 (by omega) (by omega) rfl
  · unfold laws_eqByteS.f
    refine ev_if_neg (by omega) ?_
    rw [decide_eq_false (fun h => hab (by rw [h]))]
    exact Ev.now _
theorem eqByteS_self (a : List Int) (hn : a.length ≤ 140737488351232) : Ev (fun k => laws_eqByteS.f k a a) true := by
  have h := eqByteS_ev a a hn
  rw [decide_eq_true rfl] at h
  exact h

end Go.Proofs.Ytoaddpfoecggpaa.Pure
