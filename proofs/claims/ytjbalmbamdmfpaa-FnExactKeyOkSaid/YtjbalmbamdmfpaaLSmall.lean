import Derived.Test.YtjbalmbamdmfpaaPAx0
namespace Go.Proofs.Ytjbalmbamdmfpaa.Pure
open Go.RowKit Go.Proofs.Ytjbalmbamdmfpaa.PA Go.Proofs.YtjbalmbamdmfpaaW.PrintWords Go.Proofs.YtjbalmbamdmfpaaW.PrintLast Go.Proofs.YtjbalmbamdmfpaaW.PrintMore
set_option linter.unusedVariables false
set_option linter.unusedSimpArgs false
theorem bool_ne_self (b : Bool) : ¬ ((b != b) = true) := by cases b <;> decide

end Go.Proofs.Ytjbalmbamdmfpaa.Pure
