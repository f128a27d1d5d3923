import Derived.Test.YtmnjdmmljkahgaaPMx0
namespace Go.Proofs.Ytmnjdmmljkahgaa.Pure
open Go.RowKit Go.Proofs.Ytmnjdmmljkahgaa.PM Go.Proofs.YtmnjdmmljkahgaaW.PrintWords Go.Proofs.YtmnjdmmljkahgaaW.PrintLast Go.Proofs.YtmnjdmmljkahgaaW.PrintMore
set_option linter.unusedVariables false
set_option linter.unusedSimpArgs false
theorem bool_ne_self (b : Bool) : ¬ ((b != b) = true) := by cases b <;> decide

end Go.Proofs.Ytmnjdmmljkahgaa.Pure
