/- For no input at all (there is none): what FnExactConstants asks holds. No condition. -/
import Derived.Test.YtnpjijakebdljaaPrintF3
set_option linter.unusedVariables false
namespace Go.Proofs.Ytnpjijakebdljaa.Pure
open Go.RowKit Go.Proofs.Ytnpjijakebdljaa.Print Go.Proofs.YtnpjijakebdljaaW.PrintWords Go.Proofs.YtnpjijakebdljaaW.PrintLast
theorem FnExactConstants : laws_FnExactConstants.Pure := rfl
end Go.Proofs.Ytnpjijakebdljaa.Pure
