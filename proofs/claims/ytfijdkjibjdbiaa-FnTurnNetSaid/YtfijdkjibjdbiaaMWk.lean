/- Two slices of numbers compared as the laws do. -/
import Derived.Test.YtfijdkjibjdbiaaY
import Derived.Test.YtfijdkjibjdbiaaMNet

set_option linter.unusedVariables false
set_option linter.unusedSimpArgs false
namespace Go.Proofs.Ytfijdkjibjdbiaa.M
open Go.RowKit Go.Proofs.Ytfijdkjibjdbiaa.Print Go.Proofs.YtfijdkjibjdbiaaW.PrintWords Go.Proofs.YtfijdkjibjdbiaaW.PrintLast Go.Proofs.YtfijdkjibjdbiaaY
end Go.Proofs.Ytfijdkjibjdbiaa.M
