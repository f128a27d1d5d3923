import Derived.Test.YtoaddpfoecggpaaPGx0
import Derived.Test.YtoaddpfoecggpaaPGx6
import Derived.Test.YtoaddpfoecggpaaLBase
namespace Go.Proofs.Ytoaddpfoecggpaa.Pure
open Go.RowKit Go.Proofs.Ytoaddpfoecggpaa.PG Go.Proofs.YtoaddpfoecggpaaW.PrintWords Go.Proofs.YtoaddpfoecggpaaW.PrintLast Go.Proofs.YtoaddpfoecggpaaW.PrintMore
set_option linter.unusedVariables false
set_option linter.unusedSimpArgs false
theorem rd_L1_0 (a b : List Int) : rd_L1 [a, b] 0 = a := rfl
theorem rd_L1_1 (a b : List Int) : rd_L1 [a, b] 1 = b := rfl
theorem grow_eq (l : List Int) (n : Int) (h0 : 0 ≤ n) (h1 : n < 140737488355328) : slices_Grow_byte_byte.f l n = some [] := by
  unfold slices_Grow_byte_byte.f
  rw [if_pos h0, if_pos h1]
theorem concat2_ev (a b : List Int) (ha : a.length ≤ 1073741824) (hb : b.length ≤ 1073741824) : Ev (fun k => slices_Concat_byte_byte.f k [a, b]) (a ++ b) := by
  unfold slices_Concat_byte_byte.f
  have z1 : wrap64 (0 + 1) = 1 := w64 (by decide) (by decide)
  have z2 : wrap64 (1 + 1) = 2 := w64 (by decide) (by decide)
  have e1 : wrap64 (0 + (a.length : Int)) = (a.length : Int) := by rw [w64 (by omega) (by omega)]; omega
  have e2 : wrap64 ((a.length : Int) + (b.length : Int)) = (a.length : Int) + (b.length : Int) := w64 (by omega) (by omega)
  refine Ev.step (fun k => by rw [slices_Concat_byte_byte.l0]) ?_
  rw [rd_L1_0, e1, z1]
  refine ev_if_pos (by simp) (ev_if_pos (by omega) (ev_if_pos (by simp) (ev_if_neg (by omega) ?_)))
  refine Ev.step (fun k => by rw [slices_Concat_byte_byte.l0]) ?_
  rw [rd_L1_1, e2, z2]
  refine ev_if_pos (by simp) (ev_if_pos (by omega) (ev_if_pos (by simp) (ev_if_neg (by omega) ?_)))
  refine Ev.step (fun k => by rw [slices_Concat_byte_byte.l0]) ?_
  refine ev_if_neg (by simp) (ev_bind_eq (grow_eq [] _ (by omega) (by omega)) ?_)
  refine Ev.step (fun k => by rw [slices_Concat_byte_byte.l1]) ?_
  rw [rd_L1_0, z1]
  refine ev_if_pos (by simp) (ev_if_pos (by omega) (ev_if_pos (by simp) (ev_if_pos (by simp; omega) ?_)))
  refine Ev.step (fun k => by rw [slices_Concat_byte_byte.l1]) ?_
  rw [rd_L1_1, z2]
  refine ev_if_pos (by simp) (ev_if_pos (by omega) (ev_if_pos (by simp) (ev_if_pos (by simp; omega) ?_)))
  refine Ev.step (fun k => by rw [slices_Concat_byte_byte.l1]) ?_
  exact ev_if_neg (by simp) (ev_done (by simp))

end Go.Proofs.Ytoaddpfoecggpaa.Pure
