/- The walk of PlaneCrosses. -/
import Derived.Test.YtcijddjfadcanaaH7
import Derived.Test.YtcijddjfadcanaaH13
set_option linter.unusedSimpArgs false
set_option linter.unusedVariables false
namespace Go.Proofs.Ytcijddjfadcanaa
open Go.RowKit
set_option maxHeartbeats 4000000 in
theorem walk_PlaneCrosses (x0 x1 x2 x3 x4 x5 x6 x7 : Int) (w : World) (x0_0 : -9223372036854775808 ≤ x0) (x0_1 : x0 ≤ 9223372036854775807) (x1_0 : -9223372036854775808 ≤ x1) (x1_1 : x1 ≤ 9223372036854775807) (x2_0 : -9223372036854775808 ≤ x2) (x2_1 : x2 ≤ 9223372036854775807) (x3_0 : -9223372036854775808 ≤ x3) (x3_1 : x3 ≤ 9223372036854775807) (x4_0 : -9223372036854775808 ≤ x4) (x4_1 : x4 ≤ 9223372036854775807) (x5_0 : -9223372036854775808 ≤ x5) (x5_1 : x5 ≤ 9223372036854775807) (x6_0 : -9223372036854775808 ≤ x6) (x6_1 : x6 ≤ 9223372036854775807) (x7_0 : -9223372036854775808 ≤ x7) (x7_1 : x7 ≤ 9223372036854775807) :
    Calls Try.prog 4 #[.agg #[.int .i64 x0, .int .i64 x1, .int .i64 x2, .int .i64 x3, .int .i64 x4, .int .i64 x5, .int .i64 x6, .int .i64 x7]] w fun e w' => e = .returned (.bool true) ∧ Below w.heap.size w w' := by
  have k1 := fun W => cCrosses x0 x1 x2 x3 x4 x5 x6 x7 W
  have k2 := fun W => c7Crosses x0 x1 x2 x3 x4 x5 x6 x7 W
  generalize cxv x0 x1 x2 x3 x4 x5 x6 x7 = v at *
  generalize cxb x0 x1 x2 x3 x4 x5 x6 x7 = b at *
  go_enter Try.func4, Try.ntmps4
  go_wp2_with (fail)
  (go_at_call 13; (with_reducible refine (k1 _).mono ?_); rintro e w1 ⟨rfl, hM⟩)
  have B0 : Bk (w.heap.size) 0 [.int .i64 x0, .int .i64 x1, .int .i64 x2, .int .i64 x3, .int .i64 x4, .int .i64 x5, .int .i64 x6, .int .i64 x7] w1 := Bk.later (by simp [Bk, go_sem]; done) hM
  have HB : Below w.heap.size w w1 := by (repeat (first | with_reducible assumption | with_reducible exact Below.refl _ _ | ((with_reducible refine Below.setCell ?_ ?_ _); rotate_left; (first | exact Nat.le_refl _ | (dsimp only; omega) | (simp; done) | (simp; omega))) | with_reducible refine below_alloc ?_ _ | with_reducible apply below_drewN | with_reducible apply Below.drew | with_reducible refine below_step ?_ (by assumption)))
  have C_B0 := B0; simp only [Bk] at C_B0
  clear hM k1
  go_wp2_with (first | (go_at_call 14; (with_reducible refine (k2 _).mono ?_); rintro e9 w1 ⟨rfl, hM⟩; (first | have HB : Below w.heap.size w _ := below_step HB hM | have HB : Below w.heap.size w _ := below_step (W := _) (by (repeat (first | with_reducible assumption | with_reducible exact Below.refl _ _ | ((with_reducible refine Below.setCell ?_ ?_ _); rotate_left; (first | exact Nat.le_refl _ | (dsimp only; omega) | (simp; done) | (simp; omega))) | with_reducible refine below_alloc ?_ _ | with_reducible apply below_drewN | with_reducible apply Below.drew | with_reducible refine below_step ?_ (by assumption)))) hM); (first | have B0 := Bk.later B0 hM | have B0 := Bk.later (Bk.alloc B0 _) hM | have B0 := Bk.later (Bk.alloc (Bk.alloc B0 _) _) hM); have C_B0 := B0; simp only [Bk] at C_B0) | (go_at_call 12; (with_reducible refine (cAwake7 _).mono ?_); rintro e9 w1 ⟨rfl, hM⟩; (first | have HB : Below w.heap.size w _ := below_step HB hM | have HB : Below w.heap.size w _ := below_step (W := _) (by (repeat (first | with_reducible assumption | with_reducible exact Below.refl _ _ | ((with_reducible refine Below.setCell ?_ ?_ _); rotate_left; (first | exact Nat.le_refl _ | (dsimp only; omega) | (simp; done) | (simp; omega))) | with_reducible refine below_alloc ?_ _ | with_reducible apply below_drewN | with_reducible apply Below.drew | with_reducible refine below_step ?_ (by assumption)))) hM); (first | have B0 := Bk.later B0 hM | have B0 := Bk.later (Bk.alloc B0 _) hM | have B0 := Bk.later (Bk.alloc (Bk.alloc B0 _) _) hM); have C_B0 := B0; simp only [Bk] at C_B0))
  go_ret
  exact ⟨rfl, by first | exact HB | (repeat (first | with_reducible assumption | with_reducible exact Below.refl _ _ | ((with_reducible refine Below.setCell ?_ ?_ _); rotate_left; (first | exact Nat.le_refl _ | (dsimp only; omega) | (simp; done) | (simp; omega))) | with_reducible refine below_alloc ?_ _ | with_reducible apply below_drewN | with_reducible apply Below.drew | with_reducible refine below_step ?_ (by assumption)))⟩
end Go.Proofs.Ytcijddjfadcanaa
