/- The walk of PlaneTurns. -/
import Derived.Test.YtcijddjfadcanaaH7
namespace Go.Proofs.Ytcijddjfadcanaa
open Go.RowKit
theorem sd_bd (ax ay bx bY px py : Int) : -1 ≤ sd ax ay bx bY px py ∧ sd ax ay bx bY px py ≤ 1 := by
  unfold sd
  split
  · exact ⟨cmp3_lo _ _, cmp3_hi _ _⟩
  · decide
set_option maxHeartbeats 4000000 in
theorem walk_PlaneTurns (x0 x1 x2 x3 x4 x5 : Int) (w : World) (x0_0 : -9223372036854775808 ≤ x0) (x0_1 : x0 ≤ 9223372036854775807) (x1_0 : -9223372036854775808 ≤ x1) (x1_1 : x1 ≤ 9223372036854775807) (x2_0 : -9223372036854775808 ≤ x2) (x2_1 : x2 ≤ 9223372036854775807) (x3_0 : -9223372036854775808 ≤ x3) (x3_1 : x3 ≤ 9223372036854775807) (x4_0 : -9223372036854775808 ≤ x4) (x4_1 : x4 ≤ 9223372036854775807) (x5_0 : -9223372036854775808 ≤ x5) (x5_1 : x5 ≤ 9223372036854775807) :
    Calls Try.prog 6 #[.agg #[.int .i64 x0, .int .i64 x1, .int .i64 x2, .int .i64 x3, .int .i64 x4, .int .i64 x5]] w fun e w' => e = .returned (.bool true) ∧ Below w.heap.size w w' := by
  have k1 := fun W => cSide x0 x1 x2 x3 x4 x5 W
  have k2 := fun W => cSide x2 x3 x0 x1 x4 x5 W
  have k3 := fun W => cSide x2 x3 x4 x5 x0 x1 W
  rw [sd_turn] at k2
  rw [sd_ring] at k3
  obtain ⟨z0, z1⟩ := sd_bd x0 x1 x2 x3 x4 x5
  generalize sd x0 x1 x2 x3 x4 x5 = z at *
  go_enter Try.func6, Try.ntmps6
  go_wp2_with (fail)
  (go_at_call 10; (with_reducible refine (k1 _).mono ?_); rintro e w1 ⟨rfl, hM⟩)
  have B0 : Bk (w.heap.size) 0 [.int .i64 x0, .int .i64 x1, .int .i64 x2, .int .i64 x3, .int .i64 x4, .int .i64 x5] w1 := Bk.later (by simp [Bk, go_sem]; done) hM
  have HB : Below w.heap.size w w1 := by (repeat (first | with_reducible assumption | with_reducible exact Below.refl _ _ | ((with_reducible refine Below.setCell ?_ ?_ _); rotate_left; (first | exact Nat.le_refl _ | (dsimp only; omega) | (simp; done) | (simp; omega))) | with_reducible refine below_alloc ?_ _ | with_reducible apply below_drewN | with_reducible apply Below.drew | with_reducible refine below_step ?_ (by assumption)))
  have C0 := B0; simp only [Bk] at C0
  clear hM k1
  go_wp2_with (fail)
  (go_at_call 10; (with_reducible refine (k2 _).mono ?_); rintro e w1 ⟨rfl, hM⟩)
  have B0 := B0.later hM
  have HB := below_step HB hM
  have C0 := B0; simp only [Bk] at C0
  clear hM k2
  go_wp2_with (first | (go_at_call 10; (with_reducible refine (k3 _).mono ?_); rintro e w1 ⟨rfl, hM⟩) | (go_at_call 12; (with_reducible refine (cAwake7 _).mono ?_); rintro e w1 ⟨rfl, hM⟩))
  go_ret
  exact ⟨rfl, by (repeat (first | with_reducible assumption | with_reducible exact Below.refl _ _ | ((with_reducible refine Below.setCell ?_ ?_ _); rotate_left; (first | exact Nat.le_refl _ | (dsimp only; omega) | (simp; done) | (simp; omega))) | with_reducible refine below_alloc ?_ _ | with_reducible apply below_drewN | with_reducible apply Below.drew | with_reducible refine below_step ?_ (by assumption)))⟩
end Go.Proofs.Ytcijddjfadcanaa
