/- The contract of root.Sqrt, and the walk of chapter 3's examples. -/
import Derived.Test.YtmegkepcccgkmaaQ0
namespace Go.Proofs.Ytmegkepcccgkmaa
open Go.RowKit
set_option linter.unnecessarySimpa false
theorem rt_small (a : Int) (a1 : a ≤ 9223372036854775807) : rt (a * 4294967296) ≤ 9223372036854775807 := by
  rcases Int.lt_or_le 0 a with h | h
  · have h1 := rt_le (a * 4294967296) (by omega)
    have h0 := rt_nonneg (a * 4294967296)
    generalize rt (a * 4294967296) = r at *
    rcases Int.lt_or_le 9223372036854775807 r with h2 | h2
    · have h3 := Int.mul_le_mul (a := 9223372036854775808) (b := 9223372036854775808) (c := r) (d := r) (by omega) (by omega) (by decide) (by omega)
      omega
    · exact h2
  · rw [rt_neg _ (by omega)]; decide
theorem cSqrt (a : Int) (w : World) (a0 : -9223372036854775808 ≤ a) (a1 : a ≤ 9223372036854775807) :
    Calls Try.prog 9 #[.int .i64 a] w fun e w' => e = .returned (.int .i64 (rt (a * 4294967296))) ∧ Below w.heap.size w w' := by
  have kr := fun w => nWRoot (a * 4294967296) w (by omega) (by omega)
  have r0 := rt_nonneg (a * 4294967296)
  have r1 := rt_small a a1
  have m0 : -170141183460469231731687303715884105728 ≤ a * 4294967296 := by omega
  have m1 : a * 4294967296 ≤ 170141183460469231731687303715884105727 := by omega
  generalize rt (a * 4294967296) = r at *
  have rw64 : wrap64 r = r := by unfold wrap64; omega
  go_enter Try.func9, Try.ntmps9
  go_wp2_with (first | (go_at_call 18; refine (cWMul _ _ _ (by omega) (by omega) (by omega) (by omega)).mono ?_; rintro e w1 ⟨rfl, hB⟩) | (go_at_call 25; refine (kr _).mono ?_; rintro e w1 ⟨rfl, hB⟩))
  go_ret
  exact ⟨rfl, by (repeat (first | with_reducible assumption | with_reducible exact Below.refl _ _ | ((with_reducible refine Below.setCell ?_ ?_ _); rotate_left; (first | exact Nat.le_refl _ | (dsimp only; omega) | (simp; done) | (simp; omega))) | with_reducible refine below_alloc ?_ _ | with_reducible apply below_drewN | with_reducible apply Below.drew | with_reducible refine below_step ?_ (by assumption)))⟩
theorem cAwake3 (w : World) : Calls Try.prog 11 #[] w fun e w' => e = .returned (.bool true) ∧ Below w.heap.size w w' := by
  have e1 : rt (8589934592 * 4294967296) = 6074000999 := rt_unique _ _ (by decide) (by decide) (by decide)
  have e2 : rt (12884901888 * 12884901888 + 17179869184 * 17179869184) = 21474836480 := rt_unique _ _ (by decide) (by decide) (by decide)
  have e3 : lnok (12884901888 * 12884901888 + 17179869184 * 17179869184) = true := by unfold lnok; rw [e2]; decide
  have e4 : ln (12884901888 * 12884901888 + 17179869184 * 17179869184) = 21474836480 := by unfold ln; rw [e3, e2]; rfl
  have k1 := fun w => cSqrt 8589934592 w (by decide) (by decide)
  rw [e1] at k1
  have k2 := fun b w => cLen2 12884901888 17179869184 b false w (by decide) (by decide) (by decide) (by decide)
  rw [e3, e4] at k2
  clear e1 e2 e3 e4
  go_enter Try.func11, Try.ntmps11
  go_wp2_with (fail)
  go_at_call 9
  refine (k1 _).mono ?_
  rintro e w1 ⟨rfl, hB⟩
  have hc1 := cell_later (a := ⟨w.heap.size, 0, none⟩) (v := .bool false) hB (by simp [go_sem])
  have hf1 := frz_later (a := ⟨w.heap.size, 0, none⟩) (v := .bool false) hB (by simp [go_sem]) (by simp [go_sem])
  have hz := hB.size
  have B1 : Below w.heap.size w w1 := by (repeat (first | with_reducible assumption | with_reducible exact Below.refl _ _ | ((with_reducible refine Below.setCell ?_ ?_ _); rotate_left; (first | exact Nat.le_refl _ | (dsimp only; omega) | (simp; done) | (simp; omega))) | with_reducible refine below_alloc ?_ _ | with_reducible apply below_drewN | with_reducible apply Below.drew | with_reducible refine below_step ?_ (by assumption)))
  simp at hz
  go_wp2_with (fail)
  go_at_call 12
  refine (k2 _ _ hc1 hf1).mono ?_
  rintro e w2 ⟨rfl, hM⟩
  have hc2 := hM.cell
  have B2 := below_mv (W := _) B1 hM (by omega)
  clear k1 k2
  simp at hc2
  go_wp2
  go_ret
  exact ⟨rfl, by (repeat (first | with_reducible assumption | with_reducible exact Below.refl _ _ | ((with_reducible refine Below.setCell ?_ ?_ _); rotate_left; (first | exact Nat.le_refl _ | (dsimp only; omega) | (simp; done) | (simp; omega))) | with_reducible refine below_alloc ?_ _ | with_reducible apply below_drewN | with_reducible apply Below.drew | with_reducible refine below_step ?_ (by assumption)))⟩
end Go.Proofs.Ytmegkepcccgkmaa
