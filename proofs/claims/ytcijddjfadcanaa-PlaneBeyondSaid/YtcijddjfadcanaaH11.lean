/- The plain law of PlaneBeyond: a search bit by bit. -/
import Derived.Test.YtcijddjfadcanaaH5
set_option linter.unusedSimpArgs false
set_option linter.unusedVariables false
namespace Go.Proofs.Ytcijddjfadcanaa
open Go.RowKit
/-- The search's state: below i bits all is open. -/
def Sr (A L n k : Int) : Prop := 0 ≤ n ∧ n * L < A ∧ A ≤ (n + k) * L
theorem sr_yes {A L n k : Int} (hk : 0 ≤ k) (h : Sr A L n (k + k)) (c : (n + k) * L < A) : Sr A L (n + k) k := by
  obtain ⟨h0, h1, h2⟩ := h
  refine ⟨by omega, c, ?_⟩
  rw [show n + k + k = n + (k + k) by omega]; exact h2
theorem sr_no {A L n k : Int} (h : Sr A L n (k + k)) (c : ¬ (n + k) * L < A) : Sr A L n k := ⟨h.1, h.2.1, by omega⟩
theorem sr_end {A L n : Int} (hL : 0 < L) (h : Sr A L n 1) : n + 1 = -((-A) / L) := by
  obtain ⟨h0, h1, h2⟩ := h
  have e : (-A) / L = -(n + 1) := by
    have g1 : -(n + 1) ≤ (-A) / L := (Int.le_ediv_iff_mul_le hL).2 (by rw [Int.neg_mul]; omega)
    have g2 : (-A) / L < -(n + 1) + 1 := (Int.ediv_lt_iff_lt_mul hL).2 (by rw [show -(n + 1) + 1 = -n by omega, Int.neg_mul]; omega)
    omega
  omega
theorem sr_start {A L q : Int} (hA : 0 < A) (hL : 0 < L) (hq : A ≤ q * L) (h : q ≤ 9223372036854775808) : Sr A L 0 9223372036854775808 := by
  refine ⟨by omega, by omega, ?_⟩
  have := Int.mul_le_mul_of_nonneg_right h (Int.le_of_lt hL)
  omega
end Go.Proofs.Ytcijddjfadcanaa
