/- Contracts of root's directions, and of the document's. -/
import Derived.Test.YtjpkkpflamkjkaaQ2
import Derived.Test.YtjpkkpflamkjkaaR4
import Derived.Test.YtjpkkpflamkjkaaM1
set_option linter.unusedSimpArgs false
set_option linter.unusedVariables false
namespace Go.Proofs.Ytjpkkpflamkjkaa
open Go.RowKit
/-- One part of a direction, and whether it fits. -/
def uq (x n : Int) : Int := if n = 0 then 0 else fq x n
def uok (x n : Int) : Bool := decide (n = 0) || fqok x n
theorem ln_lo (S : Int) : 0 ≤ ln S := by
  unfold ln; split
  · exact rt_nonneg S
  · decide
theorem ln_hi (S : Int) : ln S ≤ 9223372036854775807 := by
  unfold ln lnok; split
  · rename_i h; simp at h; exact h.2
  · decide
theorem fq_nil (n : Int) (h : n ≠ 0) : fq 0 n = 0 ∧ fqok 0 n = true := by
  have e : rdiv (0 * 4294967296) n = 0 := by
    unfold rdiv qn
    rw [show ((0 * 4294967296 : Int).natAbs : Int) = 0 by decide, Int.zero_emod, Int.zero_ediv]
    split <;> rw [if_neg (by omega)] <;> rfl
  unfold fq fqok
  rw [e, if_neg h]
  exact ⟨by decide, by simp [h]; decide⟩
end Go.Proofs.Ytjpkkpflamkjkaa
