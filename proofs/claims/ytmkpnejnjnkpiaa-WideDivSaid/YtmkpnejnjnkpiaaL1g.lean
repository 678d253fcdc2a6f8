/- The walk of WideDiv. -/
import Derived.Test.YtmkpnejnjnkpiaaL1c
import Derived.Test.YtmkpnejnjnkpiaaB12
namespace Go.Proofs.Ytmkpnejnjnkpiaa
open Go.RowKit
set_option maxHeartbeats 2000000 in
theorem walkN_WideDiv (A b : Int) (w : World) (hA0 : -170141183460469231731687303715884105728 ≤ A) (hA1 : A ≤ 170141183460469231731687303715884105727) (b0 : -9223372036854775808 ≤ b) (b1 : b ≤ 9223372036854775807) :
    Calls Try.prog 4 #[.agg #[.int .i64 (hw A), .int .u64 (lw A)], .int .i64 b] w fun e w' => e = .returned (.bool true) ∧ Below w.heap.size w w' := by
  have k1 := fun W => nWDiv A b W hA0 hA1 b0 b1
  have k2 := fun W => cROfW A W hA0 hA1
  have k3 := fun W => cRDiv A b W (by omega) b0 b1
  generalize dq A b = X at *
  generalize dok A b = Y at *
  go_enter Try.func4, Try.ntmps4
  go_wp2_with (fail)
  (go_at_call 17; (with_reducible refine (k1 _).mono ?_); rintro e w1 ⟨rfl, hM⟩)
  have c0 := cell_later (a := ⟨w.heap.size, 0, none⟩) (v := .int .i64 (hw A)) hM (by simp [go_sem])
  have c1 := cell_later (a := ⟨w.heap.size, 1, none⟩) (v := .int .u64 (lw A)) hM (by simp [go_sem])
  have HB : Below w.heap.size w w1 := by (repeat (first | with_reducible assumption | with_reducible exact Below.refl _ _ | ((with_reducible refine Below.setCell ?_ ?_ _); rotate_left; (first | exact Nat.le_refl _ | (dsimp only; omega) | (simp; done) | (simp; omega))) | with_reducible refine below_alloc ?_ _ | with_reducible apply below_drewN | with_reducible apply Below.drew | with_reducible refine below_step ?_ (by assumption)))
  go_wp2_with (first | (go_at_call 19; (with_reducible refine (k2 _).mono ?_); rintro e w1 ⟨rfl, hM⟩) | (go_at_call 18; (with_reducible refine (k3 _).mono ?_); rintro e w1 ⟨rfl, hM⟩) | (go_at_call 16; (with_reducible refine (cAwake1 _).mono ?_); rintro e w1 ⟨rfl, hM⟩))
  go_ret
  exact ⟨rfl, by (repeat (first | with_reducible assumption | with_reducible exact Below.refl _ _ | ((with_reducible refine Below.setCell ?_ ?_ _); rotate_left; (first | exact Nat.le_refl _ | (dsimp only; omega) | (simp; done) | (simp; omega))) | with_reducible refine below_alloc ?_ _ | with_reducible apply below_drewN | with_reducible apply Below.drew | with_reducible refine below_step ?_ (by assumption)))⟩
theorem walk_WideDiv (x0 x1 x2 : Int) (w : World) (h0 : -9223372036854775808 ≤ x0) (h1 : x0 ≤ 9223372036854775807) (h2 : 0 ≤ x1) (h3 : x1 ≤ 18446744073709551615) (g0 : -9223372036854775808 ≤ x2) (g1 : x2 ≤ 9223372036854775807) :
    Calls Try.prog 4 #[.agg #[.int .i64 x0, .int .u64 x1], .int .i64 x2] w fun e w' => e = .returned (.bool true) ∧ Below w.heap.size w w' := by
  have h := walkN_WideDiv (wv x0 x1) x2 w (wv_lo x0 x1 h0 h2) (wv_hi x0 x1 h1 h3) g0 g1
  rw [hw_wv x0 x1 h2 h3, lw_wv x0 x1 h2 h3] at h
  exact h
end Go.Proofs.Ytmkpnejnjnkpiaa
