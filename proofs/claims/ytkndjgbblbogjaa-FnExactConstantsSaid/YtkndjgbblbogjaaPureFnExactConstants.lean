/- The plain law of FnExactConstants. -/
import Derived.Test.YtkndjgbblbogjaaM1
namespace Go.Proofs.Ytkndjgbblbogjaa.Pure
set_option linter.unusedSimpArgs false
set_option linter.unusedVariables false
open Go.RowKit Go.Proofs.Ytkndjgbblbogjaa.M Go.Proofs.YtkndjgbblbogjaaW.PrintWords Go.Proofs.YtkndjgbblbogjaaW.PrintLast

theorem FnExactConstants : laws_FnExactConstants.f = some true := rfl

end Go.Proofs.Ytkndjgbblbogjaa.Pure
