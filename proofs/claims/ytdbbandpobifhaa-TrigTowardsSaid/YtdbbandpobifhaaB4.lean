/- The contracts of the document's numbers: Words, Sign, Cmp. -/
import Derived.Test.YtdbbandpobifhaaB3
set_option linter.unusedSimpArgs false
set_option linter.unusedVariables false
namespace Go.Proofs.Ytdbbandpobifhaa
open Go.RowKit
def sgv (g : Bool) (m : Int) : Int := if g = true then -m else m
theorem W_no (v rh rl : Int) (ro : Bool) (hv : ¬(-170141183460469231731687303715884105728 ≤ v ∧ v ≤ 170141183460469231731687303715884105727)) (h1 : rh = hw (cw v)) (h2 : rl = lw (cw v)) (h3 : ro = fw v) : rh = 0 ∧ rl = 0 ∧ ro = false := by
  have f : fw v = false := decide_eq_false hv
  have c : cw v = 0 := by unfold cw; rw [f]; rfl
  rw [c] at h1 h2
  exact ⟨h1, h2, by rw [h3, f]⟩
theorem W_yes (v rh rl : Int) (ro : Bool) (hv : -170141183460469231731687303715884105728 ≤ v ∧ v ≤ 170141183460469231731687303715884105727) (h1 : rh = hw (cw v)) (h2 : rl = lw (cw v)) (h3 : ro = fw v) : rh = v / 18446744073709551616 ∧ rl = v % 18446744073709551616 ∧ ro = true := by
  have f : fw v = true := decide_eq_true hv
  have c : cw v = v := by unfold cw; rw [f]; rfl
  rw [c] at h1 h2
  exact ⟨h1, h2, by rw [h3, f]⟩
end Go.Proofs.Ytdbbandpobifhaa
