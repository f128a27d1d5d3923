import Derived.Test.YtoaddpfoecggpaaPGx0
import Derived.Test.YtoaddpfoecggpaaPGx1
import Derived.Test.YtoaddpfoecggpaaLBase
import Derived.Test.YtoaddpfoecggpaaLBytes
import Derived.Test.YtoaddpfoecggpaaLTrees
namespace Go.Proofs.Ytoaddpfoecggpaa.Pure
open Go.RowKit Go.Proofs.Ytoaddpfoecggpaa.PG Go.Proofs.YtoaddpfoecggpaaW.PrintWords Go.Proofs.YtoaddpfoecggpaaW.PrintLast Go.Proofs.YtoaddpfoecggpaaW.PrintMore
set_option linter.unusedVariables false
set_option linter.unusedSimpArgs false
theorem toTreeS_loop (l : List S25) (hn : l.length ≤ 1048576) (hk : ∀ x ∈ l, Ev (fun k => laws_toTree.f k x.f0 x.f1 x.f2 x.f3) (x.f0, x.f1, x.f2, x.f3.map cvTree)) (d : Nat) : ∀ (i : Nat), i ≤ l.length → l.length - i = d →
    Ev (fun k => laws_toTreeS.l0 k l ((l.take i).map cvTree ++ List.replicate (l.length - i) z30) (i : Int)) (l.map cvTree) := by
  induction d with
  | zero =>
    intro i hi hd
    refine Ev.step (fun k => by rw [laws_toTreeS.l0]) (ev_if_neg (by omega) (ev_done ?_))
    rw [hd, List.replicate_zero, List.append_nil, List.take_of_length_le (by omega)]
  | succ d ih =>
    intro i hi hd
    have hi' : i < l.length := by omega
    have hm := hk l[i] (List.getElem_mem hi')
    have h := ih (i + 1) (by omega) (by omega)
    refine Ev.step (fun k => by rw [laws_toTreeS.l0]) ?_
    rw [rd_T25_get l i hi', w64 (x := (i : Int) + 1) (by omega) (by omega)]
    refine ev_if_pos (by omega) (ev_if_pos (by omega) (Ev.bind hm ?_))
    refine ev_if_pos (by rw [List.length_append, List.length_map, List.length_take, List.length_replicate]; omega) ?_
    dsimp only
    rw [← cvTree_eq l[i]]
    rw [Int.natCast_add, Int.natCast_one] at h
    have hs : ((l.take i).map cvTree ++ List.replicate (l.length - i) z30).set ((i : Int).toNat) (cvTree l[i]) = (l.take (i + 1)).map cvTree ++ List.replicate (l.length - (i + 1)) z30 := by
      rw [Int.toNat_natCast, List.set_append_right _ _ (by rw [List.length_map, List.length_take]; omega), List.length_map, List.length_take, Nat.min_eq_left hi, Nat.sub_self,
        show l.length - i = (l.length - (i + 1)) + 1 by omega, List.replicate_succ, List.set_cons_zero, List.take_succ_eq_append_getElem hi', List.map_append, List.append_assoc]
      rfl
    rw [← hs] at h
    exact h
theorem toTree_ev0 {t : S25} (h : FitT t) : Ev (fun k => laws_toTree.f k t.f0 t.f1 t.f2 t.f3) (t.f0, t.f1, t.f2, t.f3.map cvTree) := by
  induction h with
  | mk t h0 h3 hk ih =>
    have key : Ev (fun k => laws_toTreeS.f k t.f3) (t.f3.map cvTree) := by
      have h := toTreeS_loop t.f3 h3 ih t.f3.length 0 (by omega) (by omega)
      rw [List.take_zero, List.map_nil, List.nil_append, Nat.sub_zero] at h
      refine Ev.step (fun k => by rw [laws_toTreeS.f]) ?_
      refine ev_if_pos (by omega) (ev_if_pos (by omega) ?_)
      rw [Int.toNat_natCast]
      exact h
    refine Ev.step (fun k => by rw [laws_toTree.f]) ?_
    refine Ev.bind (toByteS_ev t.f0 (by omega)) ?_
    refine Ev.bind key ?_
    exact Ev.now _
theorem toTree_ev {t : S25} (h : FitT t) : Ev (fun k => laws_toTree.f k t.f0 t.f1 t.f2 t.f3) ((cvTree t).f0, (cvTree t).f1, (cvTree t).f2, (cvTree t).f3) := by
  rw [cvTree_eq]
  exact toTree_ev0 h

end Go.Proofs.Ytoaddpfoecggpaa.Pure
