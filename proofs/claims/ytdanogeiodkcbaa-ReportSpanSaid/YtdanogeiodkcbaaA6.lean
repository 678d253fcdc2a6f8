/- The contracts of package wide once more, of numbers that are handed over by their two words. -/
import Derived.Test.YtdanogeiodkcbaaA5
set_option linter.unusedSimpArgs false
set_option linter.unusedVariables false
namespace Go.Proofs.Ytdanogeiodkcbaa
open Go.RowKit
theorem nWCmp (m n : Int) (w : World) :
    Calls Try.prog 21 #[.agg #[.int .i64 (hw m), .int .u64 (lw m)], .agg #[.int .i64 (hw n), .int .u64 (lw n)]] w fun e w' => e = .returned (.int .i64 (cmp3 m n)) ∧ Below w.heap.size w w' := by
  have h := cWCmp (hw m) (lw m) (hw n) (lw n) w (lw_lo m) (lw_hi m) (lw_lo n) (lw_hi n)
  rw [wv_hl, wv_hl] at h
  exact h
theorem nWDiv (m b : Int) (w : World) (m0 : -170141183460469231731687303715884105728 ≤ m) (m1 : m ≤ 170141183460469231731687303715884105727) (h4 : -9223372036854775808 ≤ b) (h5 : b ≤ 9223372036854775807) :
    Calls Try.prog 20 #[.agg #[.int .i64 (hw m), .int .u64 (lw m)], .int .i64 b] w fun e w' => e = .returned (.tuple #[.int .i64 (dq m b), .bool (dok m b)]) ∧ Below w.heap.size w w' := by
  have h := cWDiv (hw m) (lw m) b w (hw_lo m m0) (hw_hi m m1) (lw_lo m) (lw_hi m) h4 h5
  rw [wv_hl] at h
  exact h
end Go.Proofs.Ytdanogeiodkcbaa
