/- The walk of chapter 7's example, and of PlaneTurns. -/
import Derived.Test.YtcijddjfadcanaaH6
set_option linter.unusedSimpArgs false
set_option linter.unusedVariables false
namespace Go.Proofs.Ytcijddjfadcanaa
open Go.RowKit
theorem cAt (x y X Y : Int) (w : World) (hX : x * 4294967296 = X) (hY : y * 4294967296 = Y) (x0 : -100 ≤ x) (x1 : x ≤ 100) (y0 : -100 ≤ y) (y1 : y ≤ 100) :
    Calls Try.prog 25 #[.int .i64 x, .int .i64 y] w fun e w' => e = .returned (.agg #[.int .i64 X, .int .i64 Y]) ∧ Below w.heap.size w w' := by
  subst hX; subst hY
  go_enter Try.func25, Try.ntmps25
  go_wp2
  simp [bodyPost, results, Try.results25, go_sem]
  (repeat (first | with_reducible assumption | with_reducible exact Below.refl _ _ | ((with_reducible refine Below.setCell ?_ ?_ _); rotate_left; (first | exact Nat.le_refl _ | (dsimp only; omega) | (simp; done) | (simp; omega))) | with_reducible refine below_alloc ?_ _ | with_reducible apply below_drewN | with_reducible apply Below.drew | with_reducible refine below_step ?_ (by assumption)))
set_option maxHeartbeats 4000000 in
theorem cAwake7 (w : World) : Calls Try.prog 12 #[] w fun e w' => e = .returned (.bool true) ∧ Below w.heap.size w w' := by
  have p0 := fun W => cAt (-1) 0 (-4294967296) 0 W (by decide) (by decide) (by decide) (by decide) (by decide) (by decide)
  have p1 := fun W => cAt 1 0 4294967296 0 W (by decide) (by decide) (by decide) (by decide) (by decide) (by decide)
  have p2 := fun W => cAt 0 (-1) 0 (-4294967296) W (by decide) (by decide) (by decide) (by decide) (by decide) (by decide)
  have p3 := fun W => cAt 0 3 0 12884901888 W (by decide) (by decide) (by decide) (by decide) (by decide) (by decide)
  have p4 := fun W => cAt 0 0 0 0 W (by decide) (by decide) (by decide) (by decide) (by decide) (by decide)
  have p5 := fun W => cAt 0 1 0 4294967296 W (by decide) (by decide) (by decide) (by decide) (by decide) (by decide)
  have p6 := fun W => cAt 0 (-2) 0 (-8589934592) W (by decide) (by decide) (by decide) (by decide) (by decide) (by decide)
  have k1 := fun W => cCrosses (-4294967296) 0 4294967296 0 0 (-4294967296) 0 12884901888 W
  have e1 : cxb (-4294967296) 0 4294967296 0 0 (-4294967296) 0 12884901888 = true := by decide
  have e2 : cxv (-4294967296) 0 4294967296 0 0 (-4294967296) 0 12884901888 = 1073741824 := by unfold cxv; rw [e1]; decide
  rw [e1, e2] at k1
  have k2 := fun W => cCrosses (-4294967296) 0 4294967296 0 0 12884901888 0 (-4294967296) W
  have e3 : cxb (-4294967296) 0 4294967296 0 0 12884901888 0 (-4294967296) = false := by decide
  have e4 : cxv (-4294967296) 0 4294967296 0 0 12884901888 0 (-4294967296) = 0 := by unfold cxv; rw [e3]; rfl
  rw [e3, e4] at k2
  have k3 := fun W => cSide 0 0 4294967296 0 0 4294967296 W
  have e5 : sd 0 0 4294967296 0 0 4294967296 = 1 := by decide
  rw [e5] at k3
  have k4 := fun W => cBeyond (-4294967296) 0 4294967296 0 0 (-8589934592) W
  have e6 : bh (-4294967296) 0 4294967296 0 0 (-8589934592) = 8589934592 := by
    unfold bh lg
    rw [show dp (-4294967296) 0 4294967296 0 4294967296 0 = 73786976294838206464 by decide, rt_unique 73786976294838206464 8589934592 (by decide) (by decide) (by decide)]
    decide
  rw [e6] at k4
  clear e1 e2 e3 e4 e5 e6
  go_enter Try.func12, Try.ntmps12
  go_wp2_with (first | (go_at_call 25; (with_reducible refine (p0 _).mono ?_); rintro e w1 ⟨rfl, hM⟩) | (go_at_call 25; (with_reducible refine (p1 _).mono ?_); rintro e w1 ⟨rfl, hM⟩) | (go_at_call 25; (with_reducible refine (p2 _).mono ?_); rintro e w1 ⟨rfl, hM⟩) | (go_at_call 25; (with_reducible refine (p3 _).mono ?_); rintro e w1 ⟨rfl, hM⟩) | (go_at_call 25; (with_reducible refine (p4 _).mono ?_); rintro e w1 ⟨rfl, hM⟩) | (go_at_call 25; (with_reducible refine (p5 _).mono ?_); rintro e w1 ⟨rfl, hM⟩) | (go_at_call 25; (with_reducible refine (p6 _).mono ?_); rintro e w1 ⟨rfl, hM⟩) | (go_at_call 13; (with_reducible refine (k1 _).mono ?_); rintro e w1 ⟨rfl, hM⟩) | (go_at_call 13; (with_reducible refine (k2 _).mono ?_); rintro e w1 ⟨rfl, hM⟩) | (go_at_call 10; (with_reducible refine (k3 _).mono ?_); rintro e w1 ⟨rfl, hM⟩) | (go_at_call 15; (with_reducible refine (k4 _).mono ?_); rintro e w1 ⟨rfl, hM⟩))
  go_ret
  exact ⟨rfl, by (repeat (first | with_reducible assumption | with_reducible exact Below.refl _ _ | ((with_reducible refine Below.setCell ?_ ?_ _); rotate_left; (first | exact Nat.le_refl _ | (dsimp only; omega) | (simp; done) | (simp; omega))) | with_reducible refine below_alloc ?_ _ | with_reducible apply below_drewN | with_reducible apply Below.drew | with_reducible refine below_step ?_ (by assumption)))⟩
end Go.Proofs.Ytcijddjfadcanaa
