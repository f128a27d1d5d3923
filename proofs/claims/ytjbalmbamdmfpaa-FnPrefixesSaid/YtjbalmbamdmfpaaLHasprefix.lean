import Derived.Test.YtjbalmbamdmfpaaPQx0
import Derived.Test.YtjbalmbamdmfpaaPQx1
import Derived.Test.YtjbalmbamdmfpaaLBytesp
import Derived.Test.YtjbalmbamdmfpaaLStrs
namespace Go.Proofs.Ytjbalmbamdmfpaa.Pure
open Go.RowKit Go.Proofs.Ytjbalmbamdmfpaa.PQ Go.Proofs.YtjbalmbamdmfpaaW.PrintWords Go.Proofs.YtjbalmbamdmfpaaW.PrintLast Go.Proofs.YtjbalmbamdmfpaaW.PrintMore
set_option linter.unusedVariables false
set_option linter.unusedSimpArgs false
def hasP (a p : List Int) : Bool := decide (p.length ≤ a.length ∧ a.take p.length = p)
theorem implHasPrefix_eq (a p : List Int) (ha : Bytes a) (hp : Bytes p) : impl_HasPrefix.f a p = some (hasP a p) := by
  unfold impl_HasPrefix.f bytes_HasPrefix.f bytes_Equal.f hasP
  by_cases c : (a.length : Int) ≥ (p.length : Int)
  · rw [if_pos c, if_pos (by omega), if_pos (by omega), Int.toNat_natCast, str_eq _ _ (bytes_take _ ha) hp]
    have hc : p.length ≤ a.length := by omega
    simp [hc]
  · rw [if_neg c, decide_eq_false (fun h => c (by omega))]
    rfl

end Go.Proofs.Ytjbalmbamdmfpaa.Pure
