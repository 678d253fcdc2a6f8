/- Contracts of package wide that hold a loop or a long division. -/
import Derived.Test.YtdbbandpobifhaaA2
set_option linter.unusedSimpArgs false
set_option linter.unusedVariables false
namespace Go.Proofs.Ytdbbandpobifhaa
open Go.RowKit


end Go.Proofs.Ytdbbandpobifhaa
