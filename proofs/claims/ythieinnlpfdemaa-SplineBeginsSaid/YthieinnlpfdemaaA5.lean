/- The contract of wide.Div: the rounded quotient, and whether there is one. -/
import Derived.Test.YthieinnlpfdemaaA4
set_option linter.unusedSimpArgs false
set_option linter.unusedVariables false
namespace Go.Proofs.Ythieinnlpfdemaa
open Go.RowKit
end Go.Proofs.Ythieinnlpfdemaa
