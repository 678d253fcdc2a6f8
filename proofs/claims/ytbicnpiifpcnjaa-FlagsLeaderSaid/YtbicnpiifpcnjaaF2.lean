/- Contracts of package fx, continued: Neg, Abs, Of, Floor, Clamp, Div, Ratio. -/
import Derived.Test.YtbicnpiifpcnjaaF1
set_option linter.unusedSimpArgs false
set_option linter.unusedVariables false
namespace Go.Proofs.Ytbicnpiifpcnjaa
open Go.RowKit

/-- A number, kept from low to high. -/
def clm (a low high : Int) : Int := if a < low then low else if high < a then high else a
/-- A quotient of numbers, or the nearer bound; by 0: the bound on the number's side, 0 of 0. -/
def fq (x y : Int) : Int := if y = 0 then (if x = 0 then 0 else bnd (decide (x < 0))) else sat (rdiv (x * 4294967296) y)
/-- Does it fit? -/
def fqok (x y : Int) : Bool := !decide (y = 0) && fx (rdiv (x * 4294967296) y)
end Go.Proofs.Ytbicnpiifpcnjaa
