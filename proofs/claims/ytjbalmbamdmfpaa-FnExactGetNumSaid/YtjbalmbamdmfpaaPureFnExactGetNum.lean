/- What is proved: the program's GetNum answers as the reference's, for all byte slices and places, and leaves its argument alone. Conditions: none beyond those of the given statement. -/
import Derived.Test.YtjbalmbamdmfpaaPAx0
import Derived.Test.YtjbalmbamdmfpaaPAx4
import Derived.Test.YtjbalmbamdmfpaaLBase
import Derived.Test.YtjbalmbamdmfpaaLBytes
import Derived.Test.YtjbalmbamdmfpaaLGetnum
namespace Go.Proofs.Ytjbalmbamdmfpaa.Pure
open Go.RowKit Go.Proofs.Ytjbalmbamdmfpaa.PA Go.Proofs.YtjbalmbamdmfpaaW.PrintWords Go.Proofs.YtjbalmbamdmfpaaW.PrintLast Go.Proofs.YtjbalmbamdmfpaaW.PrintMore
set_option linter.unusedVariables false
set_option linter.unusedSimpArgs false
theorem FnExactGetNum : laws_FnExactGetNum.Pure := by
  intro l0 a1 hm0 h0 w0 ha
  refine Ev.rounds ?_
  unfold laws_FnExactGetNum.f
  by_cases c0 : (l0.length : Int) > 1048576
  · exact ev_if_pos c0 (Ev.now _)
  refine ev_if_neg c0 ?_
  have ha := wf_i64 ha
  obtain ⟨r, r1, r2⟩ := getNum_eq l0 (by omega) w0 a1 (by omega) (by omega)
  refine Ev.bind (toByteS_ev l0 (by omega)) (Ev.bind r1 (Ev.bind (toByteS_ev l0 (by omega)) (Ev.bind r2 ?_)))
  refine ev_if_pos rfl ?_
  refine Ev.step (fun k => by rw [laws_FnExactGetNum.j0]) ?_
  refine ev_if_neg (by simp) ?_
  exact Ev.bind (toByteS_ev l0 (by omega)) (Ev.bind (eqByteS_self l0 (by omega)) (ev_if_pos rfl (Ev.now _)))

end Go.Proofs.Ytjbalmbamdmfpaa.Pure
