/- The constants of the program are those of the specification: the law FnExactConstants answers true. No conditions. -/
import Derived.Test.YtoeapnempdgagaaPFnExactConstantsx1
namespace Go.Proofs.Ytoeapnempdgagaa.Pure
open Go.RowKit Go.Proofs.Ytoeapnempdgagaa.PFnExactConstants Go.Proofs.YtoeapnempdgagaaW.PrintWords Go.Proofs.YtoeapnempdgagaaW.PrintLast

theorem FnExactConstants : laws_FnExactConstants.Pure := rfl

end Go.Proofs.Ytoeapnempdgagaa.Pure
