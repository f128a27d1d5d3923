import Derived.Test.YtmnjdmmljkahgaaPMx0
import Derived.Test.YtmnjdmmljkahgaaPMx6
namespace Go.Proofs.Ytmnjdmmljkahgaa.Pure
open Go.RowKit Go.Proofs.Ytmnjdmmljkahgaa.PM Go.Proofs.YtmnjdmmljkahgaaW.PrintWords Go.Proofs.YtmnjdmmljkahgaaW.PrintLast Go.Proofs.YtmnjdmmljkahgaaW.PrintMore
set_option linter.unusedVariables false
set_option linter.unusedSimpArgs false
theorem bytesEqual_eq (a b : List Int) : bytes_Equal.f a b = some ((strOfNums a).toList == (strOfNums b).toList) := rfl

end Go.Proofs.Ytmnjdmmljkahgaa.Pure
