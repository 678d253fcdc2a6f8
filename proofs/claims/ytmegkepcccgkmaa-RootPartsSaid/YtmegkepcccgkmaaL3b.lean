/- The walk of RootParts. -/
import Derived.Test.YtmegkepcccgkmaaQ1
namespace Go.Proofs.Ytmegkepcccgkmaa
open Go.RowKit
theorem sqr_le (a b : Int) (hb : 0 ≤ b) (h : a * a ≤ b * b) : a ≤ b := by
  rcases Int.lt_or_le b a with h1 | h1
  · have h2 := Int.mul_le_mul (a := b + 1) (b := b + 1) (c := a) (d := a) (by omega) (by omega) (by omega) (by omega)
    rw [Int.add_mul, Int.mul_add] at h2
    omega
  · exact h1
theorem rt_ge (a S : Int) (h0 : 0 ≤ S) (ha : 0 ≤ a) (h : a * a ≤ S) : a ≤ rt S := by
  have h1 := rt_gt S h0
  have h2 := rt_nonneg S
  generalize rt S = r at *
  rcases Int.lt_or_le r a with h3 | h3
  · have h4 := Int.mul_le_mul (a := r + 1) (b := r + 1) (c := a) (d := a) (by omega) (by omega) (by omega) (by omega)
    omega
  · exact h3
theorem rt_lub (a S : Int) (h0 : 0 ≤ S) (ha : 0 ≤ a) (h : S ≤ a * a) : rt S ≤ a := sqr_le _ _ ha (Int.le_trans (rt_le S h0) h)
theorem abs_sq (x : Int) : (x.natAbs : Int) * (x.natAbs : Int) = x * x := by
  rcases (show (x.natAbs : Int) = x ∨ (x.natAbs : Int) = -x by omega) with h | h
  · rw [h]
  · rw [h]; exact Int.neg_mul_neg x x
set_option maxHeartbeats 4000000 in
theorem walk_RootParts (x y z : Int) (w : World) (x0 : -9223372036854775808 ≤ x) (x1 : x ≤ 9223372036854775807) (y0 : -9223372036854775808 ≤ y) (y1 : y ≤ 9223372036854775807) (z0 : -9223372036854775808 ≤ z) (z1 : z ≤ 9223372036854775807) :
    Calls Try.prog 6 #[.agg #[.int .i64 x, .int .i64 y, .int .i64 z]] w fun e w' => e = .returned (.bool true) ∧ Below w.heap.size w w' := by
  by_cases hx : x ≤ 1152921504606846976 ∧ -1152921504606846976 ≤ x ∧ y ≤ 1152921504606846976 ∧ -1152921504606846976 ≤ y ∧ z ≤ 1152921504606846976 ∧ -1152921504606846976 ≤ z
  · obtain ⟨h1, h2, h3, h4, h5, h6⟩ := hx
    obtain ⟨ax, hax⟩ : ∃ t, (x.natAbs : Int) = t := ⟨_, rfl⟩
    obtain ⟨ay, hay⟩ : ∃ t, (y.natAbs : Int) = t := ⟨_, rfl⟩
    obtain ⟨az, haz⟩ : ∃ t, (z.natAbs : Int) = t := ⟨_, rfl⟩
    have qx := abs_sq x; have qy := abs_sq y; have qz := abs_sq z
    rw [hax] at qx; rw [hay] at qy; rw [haz] at qz
    have ax0 : 0 ≤ ax := by omega
    have ay0 : 0 ≤ ay := by omega
    have az0 : 0 ≤ az := by omega
    have ax1 : ax ≤ 1152921504606846976 := by omega
    have ay1 : ay ≤ 1152921504606846976 := by omega
    have az1 : az ≤ 1152921504606846976 := by omega
    have k3 := fun b w => cLen3 x y z b false w x0 x1 y0 y1 z0 z1
    have k2 := fun b w => cLen2 x y b false w x0 x1 y0 y1
    rw [← qx, ← qy, ← qz] at k3
    rw [← qx, ← qy] at k2
    have sx := Int.mul_le_mul ax1 ax1 ax0 (by decide); have sy := Int.mul_le_mul ay1 ay1 ay0 (by decide); have sz := Int.mul_le_mul az1 az1 az0 (by decide)
    have px := Int.mul_nonneg ax0 ax0; have py := Int.mul_nonneg ay0 ay0; have pz := Int.mul_nonneg az0 az0
    have pxy := Int.mul_nonneg ax0 ay0; have pxz := Int.mul_nonneg ax0 az0; have pyz := Int.mul_nonneg ay0 az0
    have e : (ax + ay + az) * (ax + ay + az) = ax * ax + ay * ay + az * az + 2 * (ax * ay) + 2 * (ax * az) + 2 * (ay * az) := by
      simp only [Int.add_mul, Int.mul_add, Int.mul_comm ay ax, Int.mul_comm az ax, Int.mul_comm az ay]; omega
    have gx := rt_ge ax (ax * ax + ay * ay + az * az) (by omega) ax0 (by omega)
    have gy := rt_ge ay (ax * ax + ay * ay + az * az) (by omega) ay0 (by omega)
    have gz := rt_ge az (ax * ax + ay * ay + az * az) (by omega) az0 (by omega)
    have gs := rt_lub (ax + ay + az) (ax * ax + ay * ay + az * az) (by omega) (by omega) (by omega)
    have g2 := rt_ge (rt (ax * ax + ay * ay)) (ax * ax + ay * ay + az * az) (by omega) (rt_nonneg _) (by have := rt_le (ax * ax + ay * ay) (by omega); omega)
    have n2 := rt_nonneg (ax * ax + ay * ay)
    have l3 : lnok (ax * ax + ay * ay + az * az) = true := by unfold lnok; rw [fw_yes' _ (by omega) (by omega), decide_eq_true (by omega)]; rfl
    have l2 : lnok (ax * ax + ay * ay) = true := by unfold lnok; rw [fw_yes' _ (by omega) (by omega), decide_eq_true (by omega)]; rfl
    have v3 : ln (ax * ax + ay * ay + az * az) = rt (ax * ax + ay * ay + az * az) := by unfold ln; rw [l3]; rfl
    have v2 : ln (ax * ax + ay * ay) = rt (ax * ax + ay * ay) := by unfold ln; rw [l2]; rfl
    rw [l3, v3] at k3
    rw [l2, v2] at k2
    generalize rt (ax * ax + ay * ay + az * az) = r at *
    generalize rt (ax * ax + ay * ay) = r2 at *
    have kx := fun b w => cFAbs x b false w x0 x1
    have ky := fun b w => cFAbs y b false w y0 y1
    have kz := fun b w => cFAbs z b false w z0 z1
    rw [hax, sat_id ax (by omega) (by omega), show fx ax = true from decide_eq_true (by omega)] at kx
    rw [hay, sat_id ay (by omega) (by omega), show fx ay = true from decide_eq_true (by omega)] at ky
    rw [haz, sat_id az (by omega) (by omega), show fx az = true from decide_eq_true (by omega)] at kz
    simp only [Bool.not_true, Bool.or_false] at k3 k2 kx ky kz
    clear sx sy sz px py pz pxy pxz pyz e l3 l2 v3 v2 qx qy qz hax hay haz
    go_enter Try.func6, Try.ntmps6
    go_wp2_with (fail)
    go_at_call 14
    refine (k3 _ _ (by simp [go_sem]) (by simp [go_sem])).mono ?_
    rintro e w1 ⟨rfl, hM⟩
    have hc := hM.cell; have hf := hM.free
    have a0 : w1.cell? ⟨w.heap.size, 0, none⟩ = some (.int .i64 x) := mv_cell hM (by simp) (by simp [go_sem])
    have a1 : w1.cell? ⟨w.heap.size, 1, none⟩ = some (.int .i64 y) := mv_cell hM (by simp) (by simp [go_sem])
    have a2 : w1.cell? ⟨w.heap.size, 2, none⟩ = some (.int .i64 z) := mv_cell hM (by simp) (by simp [go_sem])
    have B1 : Below w.heap.size w w1 := below_mv (W := _) (by (repeat (first | with_reducible assumption | with_reducible exact Below.refl _ _ | ((with_reducible refine Below.setCell ?_ ?_ _); rotate_left; (first | exact Nat.le_refl _ | (dsimp only; omega) | (simp; done) | (simp; omega))) | with_reducible refine below_alloc ?_ _ | with_reducible apply below_drewN | with_reducible apply Below.drew | with_reducible refine below_step ?_ (by assumption)))) hM (by omega)
    clear hM
    go_wp2_with (fail)
    go_at_call 20
    refine (kx _ _ hc hf).mono ?_
    rintro e w2 ⟨rfl, hM⟩
    have hc2 := hM.cell; have hf2 := hM.free
    have b1 := mv_cell hM (by simp) a1; have b2 := mv_cell hM (by simp) a2; have b0 := mv_cell hM (by simp) a0
    have B2 : Below w.heap.size w w2 := below_mv (W := _) B1 hM (by omega)
    clear hM hc hf a0 a1 a2
    go_wp2_with (fail)
    go_at_call 20
    refine (ky _ _ hc2 hf2).mono ?_
    rintro e w3 ⟨rfl, hM⟩
    have hc3 := hM.cell; have hf3 := hM.free
    have c0 := mv_cell hM (by simp) b0; have c1 := mv_cell hM (by simp) b1; have c2 := mv_cell hM (by simp) b2
    have B3 : Below w.heap.size w w3 := below_mv (W := _) B2 hM (by omega)
    clear hM hc2 hf2 b0 b1 b2
    go_wp2_with (fail)
    go_at_call 20
    refine (kz _ _ hc3 hf3).mono ?_
    rintro e w4 ⟨rfl, hM⟩
    have hc4 := hM.cell; have hf4 := hM.free
    have d0 := mv_cell hM (by simp) c0; have d1 := mv_cell hM (by simp) c1; have d2 := mv_cell hM (by simp) c2
    have B4 : Below w.heap.size w w4 := below_mv (W := _) B3 hM (by omega)
    clear hM hc3 hf3 c0 c1 c2 kx ky kz k3
    go_wp2_with (fail)
    go_at_call 12
    refine (k2 _ _ hc4 hf4).mono ?_
    rintro e w5 ⟨rfl, hM⟩
    have B5 : Below w.heap.size w w5 := below_mv (W := _) B4 hM (by omega)
    clear hM hc4 hf4 d0 d1 d2 k2
    go_wp2_with (first | (go_at_call 11; refine (cAwake3 _).mono ?_; rintro e w1 ⟨rfl, hB⟩))
    all_goals go_ret
    all_goals exact ⟨rfl, by (repeat (first | exact Below.refl _ _ | assumption | apply Below.drew | apply below_drewN | refine below_alloc ?_ _ | refine below_step ?_ (by assumption) | refine Below.alloc ?_ (by first | exact Nat.le_refl _ | omega | (simp; omega) | simp) _ | refine Below.setCell ?_ (by first | exact Nat.le_refl _ | omega | (simp; omega) | simp) _))⟩
  · go_enter Try.func6, Try.ntmps6
    go_wp2_with (fail)
    all_goals go_ret
    all_goals exact ⟨rfl, by (repeat (first | with_reducible assumption | with_reducible exact Below.refl _ _ | ((with_reducible refine Below.setCell ?_ ?_ _); rotate_left; (first | exact Nat.le_refl _ | (dsimp only; omega) | (simp; done) | (simp; omega))) | with_reducible refine below_alloc ?_ _ | with_reducible apply below_drewN | with_reducible apply Below.drew | with_reducible refine below_step ?_ (by assumption)))⟩
end Go.Proofs.Ytmegkepcccgkmaa
