/- The contract of wide.Div: the rounded quotient, and whether there is one. -/
import Derived.Test.YtbicnpiifpcnjaaA4
set_option linter.unusedSimpArgs false
set_option linter.unusedVariables false
namespace Go.Proofs.Ytbicnpiifpcnjaa
open Go.RowKit
end Go.Proofs.Ytbicnpiifpcnjaa
