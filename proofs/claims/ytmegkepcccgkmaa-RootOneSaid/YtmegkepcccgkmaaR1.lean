/- Contracts of package chicaneref02: products. -/
import Derived.Test.YtmegkepcccgkmaaR0
import Derived.LoopN
namespace Go.Proofs.Ytmegkepcccgkmaa
open Go.RowKit
theorem cRSize (n : Int) (w : World) (h0 : -9223372036854775808 ≤ n) (h1 : n ≤ 9223372036854775807) : Calls Try.prog 41 #[.int .i64 n] w fun e w' => e = .returned (.int .u64 n.natAbs) ∧ w = w' := by
  by_cases h : n < 0
  · have e1 : IntKind.u64.wrap (-(n + 1)) + 1 = (n.natAbs : Int) := by rw [IntKind.wrap_u64]; omega
    have e2 : -(n + 1) + 1 = (n.natAbs : Int) := by omega
    go_enter Try.func41, Try.ntmps41
    go_wp2
    simp [bodyPost, results, Try.results41, go_sem]
  · have e2 : n = (n.natAbs : Int) := by omega
    have E2 := Lib.hid e2
    clear e2
    go_enter Try.func41, Try.ntmps41
    go_wp2
    simp [bodyPost, results, Try.results41, go_sem]
    exact E2.out
end Go.Proofs.Ytmegkepcccgkmaa
