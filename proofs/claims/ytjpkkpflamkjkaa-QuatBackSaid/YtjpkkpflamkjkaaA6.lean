/- The contracts of package wide once more, of numbers that are handed over by their two words. -/
import Derived.Test.YtjpkkpflamkjkaaA5
set_option linter.unusedSimpArgs false
set_option linter.unusedVariables false
namespace Go.Proofs.Ytjpkkpflamkjkaa
open Go.RowKit
theorem nWAdd (m n : Int) (w : World) (m0 : -170141183460469231731687303715884105728 ≤ m) (m1 : m ≤ 170141183460469231731687303715884105727) (n0 : -170141183460469231731687303715884105728 ≤ n) (n1 : n ≤ 170141183460469231731687303715884105727) :
    Calls Try.prog 56 #[.agg #[.int .i64 (hw m), .int .u64 (lw m)], .agg #[.int .i64 (hw n), .int .u64 (lw n)]] w fun e w' =>
     e = .returned (.tuple #[.agg #[.int .i64 (hw (cw (m + n))), .int .u64 (lw (cw (m + n)))], .bool (fw (m + n))]) ∧ Below w.heap.size w w' := by
  have h := cWAdd (hw m) (lw m) (hw n) (lw n) w (hw_lo m m0) (hw_hi m m1) (lw_lo m) (lw_hi m) (hw_lo n n0) (hw_hi n n1) (lw_lo n) (lw_hi n)
  rw [wv_hl, wv_hl] at h
  exact h
theorem nWNeg (m : Int) (w : World) (m0 : -170141183460469231731687303715884105728 ≤ m) (m1 : m ≤ 170141183460469231731687303715884105727) :
    Calls Try.prog 54 #[.agg #[.int .i64 (hw m), .int .u64 (lw m)]] w fun e w' =>
     e = .returned (.tuple #[.agg #[.int .i64 (hw (cw (-m))), .int .u64 (lw (cw (-m)))], .bool (fw (-m))]) ∧ Below w.heap.size w w' := by
  have h := cWNeg (hw m) (lw m) w (hw_lo m m0) (hw_hi m m1) (lw_lo m) (lw_hi m)
  rw [wv_hl] at h
  exact h
theorem nWRoot (m : Int) (w : World) (m0 : -170141183460469231731687303715884105728 ≤ m) (m1 : m ≤ 170141183460469231731687303715884105727) :
    Calls Try.prog 84 #[.agg #[.int .i64 (hw m), .int .u64 (lw m)]] w fun e w' => e = .returned (.int .u64 (rt m)) ∧ Below w.heap.size w w' := by
  have h := cWRoot (hw m) (lw m) w (hw_lo m m0) (hw_hi m m1) (lw_lo m) (lw_hi m)
  rw [wv_hl] at h
  exact h
theorem nWDiv (m b : Int) (w : World) (m0 : -170141183460469231731687303715884105728 ≤ m) (m1 : m ≤ 170141183460469231731687303715884105727) (h4 : -9223372036854775808 ≤ b) (h5 : b ≤ 9223372036854775807) :
    Calls Try.prog 73 #[.agg #[.int .i64 (hw m), .int .u64 (lw m)], .int .i64 b] w fun e w' => e = .returned (.tuple #[.int .i64 (dq m b), .bool (dok m b)]) ∧ Below w.heap.size w w' := by
  have h := cWDiv (hw m) (lw m) b w (hw_lo m m0) (hw_hi m m1) (lw_lo m) (lw_hi m) h4 h5
  rw [wv_hl] at h
  exact h
end Go.Proofs.Ytjpkkpflamkjkaa
