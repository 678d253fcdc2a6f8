/- The contract of root.Sqrt, and the walk of chapter 3's examples. -/
import Derived.Test.YtjpkkpflamkjkaaQ0
set_option linter.unusedSimpArgs false
set_option linter.unusedVariables false
namespace Go.Proofs.Ytjpkkpflamkjkaa
open Go.RowKit
set_option linter.unnecessarySimpa false
theorem rt_small (a : Int) (a1 : a ≤ 9223372036854775807) : rt (a * 4294967296) ≤ 9223372036854775807 := by
  rcases Int.lt_or_le 0 a with h | h
  · have h1 := rt_le (a * 4294967296) (by omega)
    have h0 := rt_nonneg (a * 4294967296)
    generalize rt (a * 4294967296) = r at *
    rcases Int.lt_or_le 9223372036854775807 r with h2 | h2
    · have h3 := Int.mul_le_mul (a := 9223372036854775808) (b := 9223372036854775808) (c := r) (d := r) (by omega) (by omega) (by decide) (by omega)
      omega
    · exact h2
  · rw [rt_neg _ (by omega)]; decide
end Go.Proofs.Ytjpkkpflamkjkaa
