/- Contracts of math/bits.Len64, LeadingZeros64 and Div64: the long division of two words by one. -/
import Derived.Test.YtbicnpiifpcnjaaA3
import Derived.Lib.Strings
import Derived.Lib.Slices
import Derived.Lib.Small
import Derived.Lib.Walk
import Derived.Lib.BitFns
import Derived.Deep.CutBlock
import Derived.Deep.DeepCutAuto
import Derived.Laws.MathBits
set_option linter.unusedSimpArgs false
set_option linter.unusedVariables false
namespace Go.Proofs.Ytbicnpiifpcnjaa
open Go.RowKit

end Go.Proofs.Ytbicnpiifpcnjaa
