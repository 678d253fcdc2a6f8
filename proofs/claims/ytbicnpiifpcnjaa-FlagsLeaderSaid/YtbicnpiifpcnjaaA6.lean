/- The contracts of package wide once more, of numbers that are handed over by their two words. -/
import Derived.Test.YtbicnpiifpcnjaaA5
set_option linter.unusedSimpArgs false
set_option linter.unusedVariables false
namespace Go.Proofs.Ytbicnpiifpcnjaa
open Go.RowKit
theorem nWAdd (m n : Int) (w : World) (m0 : -170141183460469231731687303715884105728 ≤ m) (m1 : m ≤ 170141183460469231731687303715884105727) (n0 : -170141183460469231731687303715884105728 ≤ n) (n1 : n ≤ 170141183460469231731687303715884105727) :
    Calls Try.prog 20 #[.agg #[.int .i64 (hw m), .int .u64 (lw m)], .agg #[.int .i64 (hw n), .int .u64 (lw n)]] w fun e w' =>
     e = .returned (.tuple #[.agg #[.int .i64 (hw (cw (m + n))), .int .u64 (lw (cw (m + n)))], .bool (fw (m + n))]) ∧ Below w.heap.size w w' := by
  have h := cWAdd (hw m) (lw m) (hw n) (lw n) w (hw_lo m m0) (hw_hi m m1) (lw_lo m) (lw_hi m) (hw_lo n n0) (hw_hi n n1) (lw_lo n) (lw_hi n)
  rw [wv_hl, wv_hl] at h
  exact h
theorem nWNeg (m : Int) (w : World) (m0 : -170141183460469231731687303715884105728 ≤ m) (m1 : m ≤ 170141183460469231731687303715884105727) :
    Calls Try.prog 18 #[.agg #[.int .i64 (hw m), .int .u64 (lw m)]] w fun e w' =>
     e = .returned (.tuple #[.agg #[.int .i64 (hw (cw (-m))), .int .u64 (lw (cw (-m)))], .bool (fw (-m))]) ∧ Below w.heap.size w w' := by
  have h := cWNeg (hw m) (lw m) w (hw_lo m m0) (hw_hi m m1) (lw_lo m) (lw_hi m)
  rw [wv_hl] at h
  exact h
theorem nWRoot (m : Int) (w : World) (m0 : -170141183460469231731687303715884105728 ≤ m) (m1 : m ≤ 170141183460469231731687303715884105727) :
    Calls Try.prog 25 #[.agg #[.int .i64 (hw m), .int .u64 (lw m)]] w fun e w' => e = .returned (.int .u64 (rt m)) ∧ Below w.heap.size w w' := by
  have h := cWRoot (hw m) (lw m) w (hw_lo m m0) (hw_hi m m1) (lw_lo m) (lw_hi m)
  rw [wv_hl] at h
  exact h
end Go.Proofs.Ytbicnpiifpcnjaa
