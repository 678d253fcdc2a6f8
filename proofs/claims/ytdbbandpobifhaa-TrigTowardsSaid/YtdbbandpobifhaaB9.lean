/- The contract of the document's root (chapter 1). -/
import Derived.Test.YtdbbandpobifhaaB8
import Derived.Test.YtdbbandpobifhaaB5
set_option linter.unusedSimpArgs false
set_option linter.unusedVariables false
namespace Go.Proofs.Ytdbbandpobifhaa
open Go.RowKit
end Go.Proofs.Ytdbbandpobifhaa
