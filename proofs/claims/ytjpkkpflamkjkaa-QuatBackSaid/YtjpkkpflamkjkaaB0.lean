/- Plain facts on sizes of four parts of 32 bits, the lowest first: their number, its parts. No Go in sight. -/
import Derived.Test.YtjpkkpflamkjkaaA6
set_option linter.unusedSimpArgs false
set_option linter.unusedVariables false
namespace Go.Proofs.Ytjpkkpflamkjkaa
open Go.RowKit
def d0 (n : Int) : Int := n % 4294967296
def d1 (n : Int) : Int := n / 4294967296 % 4294967296
def d2 (n : Int) : Int := n / 18446744073709551616 % 4294967296
def d3 (n : Int) : Int := n / 79228162514264337593543950336 % 4294967296
def av (a0 a1 a2 a3 : Int) : Int := a0 + a1 * 4294967296 + a2 * 18446744073709551616 + a3 * 79228162514264337593543950336
theorem d0_bd (n : Int) : 0 ≤ d0 n ∧ d0 n ≤ 4294967295 := by unfold d0; omega
theorem d1_bd (n : Int) : 0 ≤ d1 n ∧ d1 n ≤ 4294967295 := by unfold d1; omega
theorem d2_bd (n : Int) : 0 ≤ d2 n ∧ d2 n ≤ 4294967295 := by unfold d2; omega
theorem d3_bd (n : Int) : 0 ≤ d3 n ∧ d3 n ≤ 4294967295 := by unfold d3; omega
theorem av_d (n : Int) (h0 : 0 ≤ n) (h1 : n ≤ 340282366920938463463374607431768211455) : av (d0 n) (d1 n) (d2 n) (d3 n) = n := by unfold av d0 d1 d2 d3; omega
theorem d_av (a0 a1 a2 a3 : Int) (h0 : 0 ≤ a0 ∧ a0 ≤ 4294967295) (h1 : 0 ≤ a1 ∧ a1 ≤ 4294967295) (h2 : 0 ≤ a2 ∧ a2 ≤ 4294967295) (h3 : 0 ≤ a3 ∧ a3 ≤ 4294967295) :
    d0 (av a0 a1 a2 a3) = a0 ∧ d1 (av a0 a1 a2 a3) = a1 ∧ d2 (av a0 a1 a2 a3) = a2 ∧ d3 (av a0 a1 a2 a3) = a3 := by unfold av d0 d1 d2 d3; omega
theorem av_bd (a0 a1 a2 a3 : Int) (h0 : 0 ≤ a0 ∧ a0 ≤ 4294967295) (h1 : 0 ≤ a1 ∧ a1 ≤ 4294967295) (h2 : 0 ≤ a2 ∧ a2 ≤ 4294967295) (h3 : 0 ≤ a3 ∧ a3 ≤ 4294967295) :
    0 ≤ av a0 a1 a2 a3 ∧ av a0 a1 a2 a3 ≤ 340282366920938463463374607431768211455 := by unfold av; omega
end Go.Proofs.Ytjpkkpflamkjkaa
