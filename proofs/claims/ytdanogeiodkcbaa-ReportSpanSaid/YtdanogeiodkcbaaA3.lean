/- Contracts of package wide that hold a loop or a long division. -/
import Derived.Test.YtdanogeiodkcbaaA2
set_option linter.unusedSimpArgs false
set_option linter.unusedVariables false
namespace Go.Proofs.Ytdanogeiodkcbaa
open Go.RowKit


end Go.Proofs.Ytdanogeiodkcbaa
