/- What lies so far between two numbers: both packages. -/
import Derived.Test.YtjpkkpflamkjkaaR1
import Derived.Test.YtjpkkpflamkjkaaF3
set_option linter.unusedSimpArgs false
set_option linter.unusedVariables false
namespace Go.Proofs.Ytjpkkpflamkjkaa
open Go.RowKit
def mx (a b t : Int) : Int := sat (a + sat (rsh (sat (b - a) * t)))
def mxo (a b t : Int) : Bool := !fx (b - a) || (!fx (rsh (sat (b - a) * t)) || !fx (a + sat (rsh (sat (b - a) * t))))
theorem bor3 (o p q r : Bool) : (((o || p) || q) || r) = (o || (p || (q || r))) := by cases o <;> cases p <;> rfl
end Go.Proofs.Ytjpkkpflamkjkaa
