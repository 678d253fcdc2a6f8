/- The walk of RootSqrt. -/
import Derived.Test.YtmegkepcccgkmaaQ1
import Derived.Test.YtmegkepcccgkmaaB9
namespace Go.Proofs.Ytmegkepcccgkmaa
open Go.RowKit
theorem c3Sqrt (a : Int) (w : World) (a0 : -9223372036854775808 ≤ a) (a1 : a ≤ 9223372036854775807) :
    Calls Try.prog 10 #[.int .i64 a] w fun e w' => e = .returned (.int .i64 (rt (a * 4294967296))) ∧ Below w.heap.size w w' := by
  rcases Int.lt_or_le 0 a with h | h
  · have kr := fun w => cRRoot (a * 4294967296) w (by omega)
    have r0 := rt_nonneg (a * 4294967296)
    have r1 := rt_small a a1
    have km := fun w => cRMul a 4294967296 w a0 a1 (by decide) (by decide)
    generalize rt (a * 4294967296) = r at *
    have rw64 : wrap64 r = r := by unfold wrap64; omega
    go_enter Try.func10, Try.ntmps10
    go_wp2_with (first | (go_at_call 27; refine (km _).mono ?_; rintro e w1 ⟨rfl, hB⟩) | (go_at_call 26; refine (kr _).mono ?_; rintro e w1 ⟨rfl, hB⟩))
    go_ret
    exact ⟨rfl, by (repeat (first | with_reducible assumption | with_reducible exact Below.refl _ _ | ((with_reducible refine Below.setCell ?_ ?_ _); rotate_left; (first | exact Nat.le_refl _ | (dsimp only; omega) | (simp; done) | (simp; omega))) | with_reducible refine below_alloc ?_ _ | with_reducible apply below_drewN | with_reducible apply Below.drew | with_reducible refine below_step ?_ (by assumption)))⟩
  · rw [rt_neg _ (by omega)]
    go_enter Try.func10, Try.ntmps10
    go_wp2
    go_ret
    exact ⟨rfl, by (repeat (first | with_reducible assumption | with_reducible exact Below.refl _ _ | ((with_reducible refine Below.setCell ?_ ?_ _); rotate_left; (first | exact Nat.le_refl _ | (dsimp only; omega) | (simp; done) | (simp; omega))) | with_reducible refine below_alloc ?_ _ | with_reducible apply below_drewN | with_reducible apply Below.drew | with_reducible refine below_step ?_ (by assumption)))⟩
theorem walk_RootSqrt (a : Int) (w : World) (a0 : -9223372036854775808 ≤ a) (a1 : a ≤ 9223372036854775807) :
    Calls Try.prog 3 #[.int .i64 a] w fun e w' => e = .returned (.bool true) ∧ Below w.heap.size w w' := by
  go_enter Try.func3, Try.ntmps3
  go_wp2_with (first | (go_at_call 9; refine (cSqrt _ _ (by omega) (by omega)).mono ?_; rintro e w1 ⟨rfl, hB⟩) | (go_at_call 10; refine (c3Sqrt _ _ (by omega) (by omega)).mono ?_; rintro e w1 ⟨rfl, hB⟩) | (go_at_call 11; refine (cAwake3 _).mono ?_; rintro e w1 ⟨rfl, hB⟩))
  go_ret
  exact ⟨rfl, by (repeat (first | with_reducible assumption | with_reducible exact Below.refl _ _ | ((with_reducible refine Below.setCell ?_ ?_ _); rotate_left; (first | exact Nat.le_refl _ | (dsimp only; omega) | (simp; done) | (simp; omega))) | with_reducible refine below_alloc ?_ _ | with_reducible apply below_drewN | with_reducible apply Below.drew | with_reducible refine below_step ?_ (by assumption)))⟩
end Go.Proofs.Ytmegkepcccgkmaa
