/- Contracts of package wide that hold a loop or a long division. -/
import Derived.Test.YtggpeefijdiiiaaA2
namespace Go.Proofs.Ytggpeefijdiiiaa
open Go.RowKit


end Go.Proofs.Ytggpeefijdiiiaa
