/- The walk of RootOne. -/
import Derived.Test.YtmegkepcccgkmaaU0
import Derived.Test.YtmegkepcccgkmaaP1
namespace Go.Proofs.Ytmegkepcccgkmaa
open Go.RowKit
theorem rt_at_least (c T : Int) (h0 : 0 ≤ c) (h : c * c ≤ T) : c ≤ rt T := by
  have hT : 0 ≤ T := by have := Int.mul_nonneg h0 h0; omega
  have h1 := rt_gt T hT
  have h2 := rt_nonneg T
  have := sq_lt (a := c) (b := rt T + 1) h0 (by omega) (by omega)
  omega
theorem rt_at_most (c T : Int) (h0 : 0 ≤ c) (hT : 0 ≤ T) (h : T < (c + 1) * (c + 1)) : rt T ≤ c := by
  have h1 := rt_le T hT
  have h2 := rt_nonneg T
  have := sq_lt (a := rt T) (b := c + 1) h2 (by omega) (by omega)
  omega
theorem ln_fits (S : Int) (h0 : 0 ≤ S) (h1 : S ≤ 85070591730234615847396907784232501249) : lnok S = true ∧ ln S = rt S := by
  have h2 : rt S ≤ 9223372036854775807 := rt_at_most _ S (by decide) h0 (by omega)
  have h3 : lnok S = true := by unfold lnok fw; simp; omega
  exact ⟨h3, by unfold ln; rw [h3]; rfl⟩
theorem one_all (x y z : Int) (h0 : x ≤ 1152921504606846976) (h1 : -1152921504606846976 ≤ x) (h2 : y ≤ 1152921504606846976) (h3 : -1152921504606846976 ≤ y) (h4 : z ≤ 1152921504606846976) (h5 : -1152921504606846976 ≤ z) :
    lnok (x * x + y * y + z * z) = true ∧ (4294967296 ≤ ln (x * x + y * y + z * z) → ∃ n X Y Z, ln (x * x + y * y + z * z) = n ∧ n ≠ 0 ∧ uq x n = X ∧ uq y n = Y ∧ uq z n = Z ∧ uok x n = true ∧ uok y n = true ∧ uok z n = true ∧
      (-4294967297 ≤ X ∧ X ≤ 4294967297) ∧ (-4294967297 ≤ Y ∧ Y ≤ 4294967297) ∧ (-4294967297 ≤ Z ∧ Z ≤ 4294967297) ∧ lnok (X * X + Y * Y + Z * Z) = true ∧ 4294967288 ≤ ln (X * X + Y * Y + Z * Z) ∧ ln (X * X + Y * Y + Z * Z) ≤ 4294967304) := by
  have mx := mulb x x 1152921504606846976 1152921504606846976 h1 h0 h1 h0
  have my := mulb y y 1152921504606846976 1152921504606846976 h3 h2 h3 h2
  have mz := mulb z z 1152921504606846976 1152921504606846976 h5 h4 h5 h4
  have nx := sq_nn x; have ny := sq_nn y; have nz := sq_nn z
  obtain ⟨f1, f2⟩ := ln_fits (x * x + y * y + z * z) (by omega) (by omega)
  refine ⟨f1, fun hn => ?_⟩
  have r1 := rt_le (x * x + y * y + z * z) (by omega)
  have r2 := rt_gt (x * x + y * y + z * z) (by omega)
  rw [f2] at hn ⊢
  generalize rt (x * x + y * y + z * z) = n at *
  rw [Int.add_mul, Int.mul_add] at r2
  obtain ⟨a0, a1⟩ := abs_le_of_sq x n (by omega) (by omega)
  obtain ⟨a2, a3⟩ := abs_le_of_sq y n (by omega) (by omega)
  obtain ⟨a4, a5⟩ := abs_le_of_sq z n (by omega) (by omega)
  obtain ⟨o0, e0, g0, b0, b1, c0, c1⟩ := one_part x n hn a0 a1
  obtain ⟨o1, e1, g1, b2, b3, c2, c3⟩ := one_part y n hn a2 a3
  obtain ⟨o2, e2, g2, b4, b5, c4, c5⟩ := one_part z n hn a4 a5
  obtain ⟨t0, t1⟩ := one_len x y z _ _ _ e0 e1 e2 n hn a0 a1 a2 a3 a4 a5 g0 g1 g2 b0 b1 b2 b3 b4 b5 r1 (by omega)
  have u : ∀ v, uq v n = fq v n ∧ uok v n = fqok v n := fun v => ⟨by unfold uq; rw [if_neg (by omega)], by unfold uok; rw [decide_eq_false (show ¬ n = 0 by omega), Bool.false_or]⟩
  obtain ⟨l1, l2⟩ := ln_fits (fq x n * fq x n + fq y n * fq y n + fq z n * fq z n) (by omega) (by omega)
  refine ⟨n, _, _, _, rfl, by omega, rfl, rfl, rfl, by rw [(u x).2]; exact o0, by rw [(u y).2]; exact o1, by rw [(u z).2]; exact o2, ?_⟩
  rw [(u x).1, (u y).1, (u z).1]
  refine ⟨⟨c0, c1⟩, ⟨c2, c3⟩, ⟨c4, c5⟩, l1, ?_, ?_⟩
  · rw [l2]; exact rt_at_least _ _ (by decide) t0
  · rw [l2]; exact rt_at_most _ _ (by decide) (by omega) t1
set_option maxHeartbeats 8000000 in
theorem walk_RootOne (x y z : Int) (w : World) (x_0 : -9223372036854775808 ≤ x) (x_1 : x ≤ 9223372036854775807) (y_0 : -9223372036854775808 ≤ y) (y_1 : y ≤ 9223372036854775807) (z_0 : -9223372036854775808 ≤ z) (z_1 : z ≤ 9223372036854775807) :
    Calls Try.prog 7 #[.agg #[.int .i64 x, .int .i64 y, .int .i64 z]] w fun e w' => e = .returned (.bool true) ∧ Below w.heap.size w w' := by
  rcases (show (1152921504606846976 < x) ∨ (x ≤ 1152921504606846976 ∧ x < -1152921504606846976) ∨ (x ≤ 1152921504606846976 ∧ -1152921504606846976 ≤ x ∧ 1152921504606846976 < y) ∨ (x ≤ 1152921504606846976 ∧ -1152921504606846976 ≤ x ∧ y ≤ 1152921504606846976 ∧ y < -1152921504606846976) ∨ (x ≤ 1152921504606846976 ∧ -1152921504606846976 ≤ x ∧ y ≤ 1152921504606846976 ∧ -1152921504606846976 ≤ y ∧ 1152921504606846976 < z) ∨ (x ≤ 1152921504606846976 ∧ -1152921504606846976 ≤ x ∧ y ≤ 1152921504606846976 ∧ -1152921504606846976 ≤ y ∧ z ≤ 1152921504606846976 ∧ z < -1152921504606846976) ∨ (x ≤ 1152921504606846976 ∧ -1152921504606846976 ≤ x ∧ y ≤ 1152921504606846976 ∧ -1152921504606846976 ≤ y ∧ z ≤ 1152921504606846976 ∧ -1152921504606846976 ≤ z) from by omega) with h0 | ⟨h0, h1⟩ | ⟨h0, h1, h2⟩ | ⟨h0, h1, h2, h3⟩ | ⟨h0, h1, h2, h3, h4⟩ | ⟨h0, h1, h2, h3, h4, h5⟩ | ⟨h0, h1, h2, h3, h4, h5⟩
  · go_enter Try.func7, Try.ntmps7
    go_wp2
    go_ret
    exact ⟨rfl, by (repeat (first | with_reducible assumption | with_reducible exact Below.refl _ _ | ((with_reducible refine Below.setCell ?_ ?_ _); rotate_left; (first | exact Nat.le_refl _ | (dsimp only; omega) | (simp; done) | (simp; omega))) | with_reducible refine below_alloc ?_ _ | with_reducible apply below_drewN | with_reducible apply Below.drew | with_reducible refine below_step ?_ (by assumption)))⟩
  · go_enter Try.func7, Try.ntmps7
    go_wp2
    go_ret
    exact ⟨rfl, by (repeat (first | with_reducible assumption | with_reducible exact Below.refl _ _ | ((with_reducible refine Below.setCell ?_ ?_ _); rotate_left; (first | exact Nat.le_refl _ | (dsimp only; omega) | (simp; done) | (simp; omega))) | with_reducible refine below_alloc ?_ _ | with_reducible apply below_drewN | with_reducible apply Below.drew | with_reducible refine below_step ?_ (by assumption)))⟩
  · go_enter Try.func7, Try.ntmps7
    go_wp2
    go_ret
    exact ⟨rfl, by (repeat (first | with_reducible assumption | with_reducible exact Below.refl _ _ | ((with_reducible refine Below.setCell ?_ ?_ _); rotate_left; (first | exact Nat.le_refl _ | (dsimp only; omega) | (simp; done) | (simp; omega))) | with_reducible refine below_alloc ?_ _ | with_reducible apply below_drewN | with_reducible apply Below.drew | with_reducible refine below_step ?_ (by assumption)))⟩
  · go_enter Try.func7, Try.ntmps7
    go_wp2
    go_ret
    exact ⟨rfl, by (repeat (first | with_reducible assumption | with_reducible exact Below.refl _ _ | ((with_reducible refine Below.setCell ?_ ?_ _); rotate_left; (first | exact Nat.le_refl _ | (dsimp only; omega) | (simp; done) | (simp; omega))) | with_reducible refine below_alloc ?_ _ | with_reducible apply below_drewN | with_reducible apply Below.drew | with_reducible refine below_step ?_ (by assumption)))⟩
  · go_enter Try.func7, Try.ntmps7
    go_wp2
    go_ret
    exact ⟨rfl, by (repeat (first | with_reducible assumption | with_reducible exact Below.refl _ _ | ((with_reducible refine Below.setCell ?_ ?_ _); rotate_left; (first | exact Nat.le_refl _ | (dsimp only; omega) | (simp; done) | (simp; omega))) | with_reducible refine below_alloc ?_ _ | with_reducible apply below_drewN | with_reducible apply Below.drew | with_reducible refine below_step ?_ (by assumption)))⟩
  · go_enter Try.func7, Try.ntmps7
    go_wp2
    go_ret
    exact ⟨rfl, by (repeat (first | with_reducible assumption | with_reducible exact Below.refl _ _ | ((with_reducible refine Below.setCell ?_ ?_ _); rotate_left; (first | exact Nat.le_refl _ | (dsimp only; omega) | (simp; done) | (simp; omega))) | with_reducible refine below_alloc ?_ _ | with_reducible apply below_drewN | with_reducible apply Below.drew | with_reducible refine below_step ?_ (by assumption)))⟩
  · obtain ⟨f1, f2⟩ := one_all x y z h0 h1 h2 h3 h4 h5
    have k1 := fun W => cLen3 x y z (w.heap.size + 1) false W x_0 x_1 y_0 y_1 z_0 z_1
    have k2 := fun W => cUnit3 x y z (w.heap.size + 1) false W x_0 x_1 y_0 y_1 z_0 z_1
    rw [f1] at k1 k2
    have g0 := ln_lo (x * x + y * y + z * z)
    have g1 := ln_hi (x * x + y * y + z * z)
    by_cases hn : 4294967296 ≤ ln (x * x + y * y + z * z)
    · obtain ⟨n, X, Y, Z, e0, e1, e2, e3, e4, e5, e6, e7, ⟨X0, X1⟩, ⟨Y0, Y1⟩, ⟨Z0, Z1⟩, e8, e9, e10⟩ := f2 hn
      rw [e0] at k1 k2 hn g0 g1
      rw [e2, e3, e4, e5, e6, e7, decide_eq_false e1] at k2
      have k3 := fun W => cLen3 X Y Z (w.heap.size + 1) false W (by omega) (by omega) (by omega) (by omega) (by omega) (by omega)
      rw [e8] at k3
      simp only [Bool.not_true, Bool.or_false, Bool.not_false] at k1 k2 k3
      generalize ln (X * X + Y * Y + Z * Z) = l at *
      have hn2 : ¬ n < 4294967296 := by omega
      have d1 : decide (4294967288 ≤ l) = true := decide_eq_true e9
      have d2 : decide (l ≤ 4294967304) = true := decide_eq_true e10
      clear f1 f2 e0 e1 e2 e3 e4 e5 e6 e7 e8
      go_enter Try.func7, Try.ntmps7
      go_wp2_with (fail)
      (go_at_call 14; (with_reducible refine (k1 _ (by simp [go_sem]) (by simp [go_sem])).mono ?_); rintro e w1 ⟨rfl, hM⟩)
      have HT : On (w.heap.size + 1) false w w1 := On.start (w := w) (by (repeat (first | with_reducible assumption | with_reducible exact Below.refl _ _ | ((with_reducible refine Below.setCell ?_ ?_ _); rotate_left; (first | exact Nat.le_refl _ | (dsimp only; omega) | (simp; done) | (simp; omega))) | with_reducible refine below_alloc ?_ _ | with_reducible apply below_drewN | with_reducible apply Below.drew | with_reducible refine below_step ?_ (by assumption)))) hM (by omega)
      have v0 := mv_cell (a := ⟨w.heap.size, 0, none⟩) (v := .int .i64 x) hM (by simp) (by simp [go_sem])
      have v1 := mv_cell (a := ⟨w.heap.size, 1, none⟩) (v := .int .i64 y) hM (by simp) (by simp [go_sem])
      have v2 := mv_cell (a := ⟨w.heap.size, 2, none⟩) (v := .int .i64 z) hM (by simp) (by simp [go_sem])
      clear hM
      go_wp2_with (fail)
      (go_at_call 21; (with_reducible refine (On.call (by (repeat (first | with_reducible assumption | with_reducible apply On.alloc | with_reducible apply On.drew | ((with_reducible apply On.after); rotate_left; (with_reducible assumption)) | ((with_reducible apply On.setCell); rotate_left; (first | (dsimp only; omega) | omega | (simp; omega)); (first | (dsimp only; omega) | omega | (simp; omega)); (first | (dsimp only; omega) | omega | (simp; omega)))))) (k2 _)).mono ?_); rintro e w1 ⟨rfl, hM, HT⟩)
      go_wp2_with (fail)
      (go_at_call 14; (with_reducible refine (On.call (by (repeat (first | with_reducible assumption | with_reducible apply On.alloc | with_reducible apply On.drew | ((with_reducible apply On.after); rotate_left; (with_reducible assumption)) | ((with_reducible apply On.setCell); rotate_left; (first | (dsimp only; omega) | omega | (simp; omega)); (first | (dsimp only; omega) | omega | (simp; omega)); (first | (dsimp only; omega) | omega | (simp; omega)))))) (k3 _)).mono ?_); rintro e w1 ⟨rfl, hM, HT⟩)
      have hcb := HT.cb
      have HB := HT.below
      go_wp2_with (fail)
      (go_at_call 11; (with_reducible refine (cAwake3 _).mono ?_); rintro e w1 ⟨rfl, hM⟩)
      go_wp2
      go_ret
      exact ⟨rfl, by first | exact below_step HB hM | (repeat (first | with_reducible assumption | with_reducible exact Below.refl _ _ | ((with_reducible refine Below.setCell ?_ ?_ _); rotate_left; (first | exact Nat.le_refl _ | (dsimp only; omega) | (simp; done) | (simp; omega))) | with_reducible refine below_alloc ?_ _ | with_reducible apply below_drewN | with_reducible apply Below.drew | with_reducible refine below_step ?_ (by assumption)))⟩
    · simp only [Bool.not_true, Bool.or_false] at k1
      generalize ln (x * x + y * y + z * z) = n at *
      have hn2 : n < 4294967296 := by omega
      clear f1 f2 k2 hn
      go_enter Try.func7, Try.ntmps7
      go_wp2_with (fail)
      (go_at_call 14; (with_reducible refine (k1 _ (by simp [go_sem]) (by simp [go_sem])).mono ?_); rintro e w1 ⟨rfl, hM⟩)
      have HT : On (w.heap.size + 1) false w w1 := On.start (w := w) (by (repeat (first | with_reducible assumption | with_reducible exact Below.refl _ _ | ((with_reducible refine Below.setCell ?_ ?_ _); rotate_left; (first | exact Nat.le_refl _ | (dsimp only; omega) | (simp; done) | (simp; omega))) | with_reducible refine below_alloc ?_ _ | with_reducible apply below_drewN | with_reducible apply Below.drew | with_reducible refine below_step ?_ (by assumption)))) hM (by omega)
      have HB := HT.below
      go_wp2_with (fail)
      (go_at_call 11; (with_reducible refine (cAwake3 _).mono ?_); rintro e w1 ⟨rfl, hM⟩)
      go_wp2
      go_ret
      exact ⟨rfl, by first | exact below_step HB hM | (repeat (first | with_reducible assumption | with_reducible exact Below.refl _ _ | ((with_reducible refine Below.setCell ?_ ?_ _); rotate_left; (first | exact Nat.le_refl _ | (dsimp only; omega) | (simp; done) | (simp; omega))) | with_reducible refine below_alloc ?_ _ | with_reducible apply below_drewN | with_reducible apply Below.drew | with_reducible refine below_step ?_ (by assumption)))⟩
end Go.Proofs.Ytmegkepcccgkmaa
