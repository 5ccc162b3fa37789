/- The constants of the program are the fixed numbers that the law names: the law's function is true. No condition. -/
import Derived.Test.YthkmdiogaibbdaaPFnExactConstantsx1
namespace Go.Proofs.Ythkmdiogaibbdaa.Pure
open Go.RowKit Go.Proofs.Ythkmdiogaibbdaa.PFnExactConstants Go.Proofs.YthkmdiogaibbdaaW.PrintWords Go.Proofs.YthkmdiogaibbdaaW.PrintLast
set_option linter.unusedVariables false
set_option linter.unusedSimpArgs false

theorem FnExactConstants : laws_FnExactConstants.Pure := rfl

end Go.Proofs.Ythkmdiogaibbdaa.Pure
