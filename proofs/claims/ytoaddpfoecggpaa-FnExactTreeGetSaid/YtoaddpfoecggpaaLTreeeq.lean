import Derived.Test.YtoaddpfoecggpaaPGx0
import Derived.Test.YtoaddpfoecggpaaPGx2
import Derived.Test.YtoaddpfoecggpaaLBase
import Derived.Test.YtoaddpfoecggpaaLBytes
import Derived.Test.YtoaddpfoecggpaaLTrees
namespace Go.Proofs.Ytoaddpfoecggpaa.Pure
open Go.RowKit Go.Proofs.Ytoaddpfoecggpaa.PG Go.Proofs.YtoaddpfoecggpaaW.PrintWords Go.Proofs.YtoaddpfoecggpaaW.PrintLast Go.Proofs.YtoaddpfoecggpaaW.PrintMore
set_option linter.unusedVariables false
set_option linter.unusedSimpArgs false
theorem eqTreeS_loop (l : List S30) (hn : l.length ≤ 1048576) (hk : ∀ x ∈ l, Ev (fun k => laws_eqTree.f k x.f0 x.f1 x.f2 x.f3 x.f0 x.f1 x.f2 x.f3) true) (d : Nat) : ∀ (i : Nat), i ≤ l.length → l.length - i = d → Ev (fun k => laws_eqTreeS.l0 k l l (i : Int)) true := by
  induction d with
  | zero =>
    intro i hi hd
    exact Ev.step (fun k => by rw [laws_eqTreeS.l0]) (ev_if_neg (by omega) (Ev.now _))
  | succ d ih =>
    intro i hi hd
    have hi' : i < l.length := by omega
    have hm := hk l[i] (List.getElem_mem hi')
    have h := ih (i + 1) (by omega) (by omega)
    refine Ev.step (fun k => by rw [laws_eqTreeS.l0]) ?_
    rw [rd_T30_get l i hi', w64 (x := (i : Int) + 1) (by omega) (by omega)]
    rw [Int.natCast_add, Int.natCast_one] at h
    exact ev_if_pos (by omega) (ev_if_pos (by omega) (ev_if_pos (by omega) (Ev.bind hm (ev_if_pos rfl h))))
theorem eqTree_self {t : S30} (h : FitU t) : Ev (fun k => laws_eqTree.f k t.f0 t.f1 t.f2 t.f3 t.f0 t.f1 t.f2 t.f3) true := by
  induction h with
  | mk t h0 h3 hk ih =>
    refine Ev.step (fun k => by rw [laws_eqTree.f]) ?_
    refine Ev.bind (eqByteS_self t.f0 (by omega)) (ev_if_pos rfl (ev_if_neg (by simp) (ev_if_pos rfl (Ev.bind (a := true) ?_ (ev_if_pos rfl (Ev.now _))))))
    have e : Ev (fun k => laws_eqTreeS.l0 k t.f3 t.f3 0) true := eqTreeS_loop t.f3 h3 ih t.f3.length 0 (by omega) (by omega)
    refine Ev.step (fun k => by rw [laws_eqTreeS.f]) ?_
    exact ev_if_pos rfl e

end Go.Proofs.Ytoaddpfoecggpaa.Pure
