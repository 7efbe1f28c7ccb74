/- All exported constants are those of the reference. No condition. -/
import Derived.Test.YtohnkhjknihhjaaPFnExactConstantsx1
import Derived.Test.YtohnkhjknihhjaaBase
set_option linter.unusedVariables false
set_option linter.unusedSimpArgs false
namespace Go.Proofs.Ytohnkhjknihhjaa.Pure.fnExactConstants
open Go.RowKit Go.Proofs.Ytohnkhjknihhjaa.PFnExactConstants Go.Proofs.YtohnkhjknihhjaaW.PrintWords Go.Proofs.YtohnkhjknihhjaaW.PrintLast Go.Proofs.YtohnkhjknihhjaaW.PrintMore Go.Proofs.Ytohnkhjknihhjaa.Base

theorem main : laws_FnExactConstants.Pure := rfl

end Go.Proofs.Ytohnkhjknihhjaa.Pure.fnExactConstants
namespace Go.Proofs.Ytohnkhjknihhjaa.Pure
open Go.Proofs.Ytohnkhjknihhjaa.PFnExactConstants
theorem FnExactConstants : laws_FnExactConstants.Pure := fnExactConstants.main
end Go.Proofs.Ytohnkhjknihhjaa.Pure
