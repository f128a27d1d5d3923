/- What is proved: the program's KeyOk answers as the reference's, for all byte slices, and leaves its argument alone. Conditions: none beyond those of the given statement. -/
import Derived.Test.YtjbalmbamdmfpaaPAx0
import Derived.Test.YtjbalmbamdmfpaaPAx3
import Derived.Test.YtjbalmbamdmfpaaLBase
import Derived.Test.YtjbalmbamdmfpaaLBytes
import Derived.Test.YtjbalmbamdmfpaaLKeyok
import Derived.Test.YtjbalmbamdmfpaaLSmall
namespace Go.Proofs.Ytjbalmbamdmfpaa.Pure
open Go.RowKit Go.Proofs.Ytjbalmbamdmfpaa.PA Go.Proofs.YtjbalmbamdmfpaaW.PrintWords Go.Proofs.YtjbalmbamdmfpaaW.PrintLast Go.Proofs.YtjbalmbamdmfpaaW.PrintMore
set_option linter.unusedVariables false
set_option linter.unusedSimpArgs false
theorem FnExactKeyOk : laws_FnExactKeyOk.Pure := by
  intro l0 hm0 h0 w0
  refine Ev.rounds ?_
  unfold laws_FnExactKeyOk.f
  by_cases c0 : (l0.length : Int) > 1048576
  · exact ev_if_pos c0 (Ev.now _)
  refine ev_if_neg c0 ?_
  have k1 : Ev (fun k => spec_KeyOk.f k l0) (keyP l0) := by
    unfold spec_KeyOk.f
    exact Ev.bind (specKey_ev l0 (by omega)) (Ev.now _)
  refine Ev.bind (toByteS_ev l0 (by omega)) (Ev.bind k1 (Ev.bind (toByteS_ev l0 (by omega)) (Ev.bind (implKey_ev l0 (by omega)) ?_)))
  refine ev_if_neg (bool_ne_self _) ?_
  exact Ev.bind (toByteS_ev l0 (by omega)) (Ev.bind (eqByteS_self l0 (by omega)) (ev_if_pos rfl (Ev.now _)))

end Go.Proofs.Ytjbalmbamdmfpaa.Pure
