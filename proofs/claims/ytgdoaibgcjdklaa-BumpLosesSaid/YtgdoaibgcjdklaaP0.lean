/- Plain laws of rounded products: how far off they are. No Go in sight. -/
import Derived.Test.YtgdoaibgcjdklaaF0
set_option linter.unusedSimpArgs false
set_option linter.unusedVariables false
namespace Go.Proofs.Ytgdoaibgcjdklaa
theorem rsh_err (p : Int) : -2147483648 ≤ 4294967296 * rsh p - p ∧ 4294967296 * rsh p - p ≤ 2147483648 := by unfold rsh; split <;> omega
theorem mulb (a b A B : Int) (a0 : -A ≤ a) (a1 : a ≤ A) (b0 : -B ≤ b) (b1 : b ≤ B) : -(A * B) ≤ a * b ∧ a * b ≤ A * B := by
  have h1 : 0 ≤ (A - a) * (B - b) := Int.mul_nonneg (by omega) (by omega)
  have h2 : 0 ≤ (A + a) * (B + b) := Int.mul_nonneg (by omega) (by omega)
  have h3 : 0 ≤ (A - a) * (B + b) := Int.mul_nonneg (by omega) (by omega)
  have h4 : 0 ≤ (A + a) * (B - b) := Int.mul_nonneg (by omega) (by omega)
  simp only [Int.sub_mul, Int.mul_sub, Int.add_mul, Int.mul_add] at h1 h2 h3 h4
  generalize a * b = p at *
  generalize A * B = q at *
  generalize A * b = r at *
  generalize a * B = s at *
  omega
end Go.Proofs.Ytgdoaibgcjdklaa
