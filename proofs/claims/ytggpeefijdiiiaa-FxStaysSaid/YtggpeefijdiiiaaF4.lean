/- The contract of fx.M.Mul at a nil receiver. -/
import Derived.Test.YtggpeefijdiiiaaF3
namespace Go.Proofs.Ytggpeefijdiiiaa
open Go.RowKit
set_option maxHeartbeats 4000000 in
theorem cFMulNil (x y : Int) (w : World) (x0 : -9223372036854775808 ≤ x) (x1 : x ≤ 9223372036854775807) (y0 : -9223372036854775808 ≤ y) (y1 : y ≤ 9223372036854775807) :
    Calls Try.prog 11 #[.pointer none, .int .i64 x, .int .i64 y] w fun e w' => e = .returned (.int .i64 (sat (rsh (x * y)))) ∧ Below w.heap.size w w' := by
  obtain ⟨m0, m1⟩ := mul_bd x y x0 x1 y0 y1
  obtain ⟨p, hp⟩ : ∃ p, x * y = p := ⟨_, rfl⟩
  rw [hp] at m0 m1 ⊢
  obtain ⟨q, hq⟩ : ∃ q, p / 4294967296 = q := ⟨_, rfl⟩
  obtain ⟨R, hR⟩ : ∃ R, p % 4294967296 = R := ⟨_, rfl⟩
  have e1 := dn_hi p
  have e2 := dn_lo p
  have e3 := dn_rest p
  rw [hq] at e1 e2
  rw [hR] at e3
  have e4 := and1w (lw q) (lw_lo q) (lw_hi q)
  have e5 : lw q % 2 = q % 2 := by unfold lw; omega
  rw [e5] at e4
  have b0 : -170141183460469231731687303715884105728 ≤ q := by omega
  have b1 : q ≤ 85070591730234615865843651857942052864 := by omega
  have e6 : cw (q + 1) = q + 1 := cw_yes _ (by omega) (by omega)
  have e7 : fw (q + 1) = true := fw_yes _ (by omega) (by omega)
  have hs : rsh p = if 2147483648 < R ∨ (R = 2147483648 ∧ q % 2 = 1) then q + 1 else q := by unfold rsh; rw [hq, hR]
  rcases (show 2147483648 < R ∨ (R = 2147483648 ∧ q % 2 = 1) ∨ (R = 2147483648 ∧ q % 2 = 0) ∨ R < 2147483648 from by omega) with u | ⟨u, v⟩ | ⟨u, v⟩ | u
  · rw [if_pos (Or.inl u)] at hs
    rw [hs]
    have HQ := Lib.hid hq
    have HRR := Lib.hid hR
    clear hq hR hs e5
    go_enter Try.func11, Try.ntmps11
    go_wp2_with fail; refine (cWMul _ _ _ (by omega) (by omega) (by omega) (by omega)).mono ?_; rintro e w9 ⟨rfl, hB9⟩
    have hsz := hB9.size
    go_upto_region 5 with (fail)
    go_region_with (first
        | (go_at_call 38; refine (cWOf _ _ (by decide) (by decide)).mono ?_; rintro e w1 ⟨rfl, hR⟩; have hcR := bsome hR; have hfR := bfrozen hR)
        | (go_at_call 36; refine (nWAdd _ _ _ (by omega) (by omega) (by decide) (by decide)).mono ?_; rintro e w1 ⟨rfl, hR⟩; have hcR := bsome hR; have hfR := bfrozen hR))
    all_goals have k0 : w1.cell? ⟨w9.heap.size + 1, 0, none⟩ = some (.int .i64 (hw q)) := by simp (maxDischargeDepth := 8) [go_sem, *]
    all_goals have k1 : w1.cell? ⟨w9.heap.size + 1, 1, none⟩ = some (.int .u64 (lw q)) := by simp (maxDischargeDepth := 8) [go_sem, *]
    all_goals have k2 : w1.frozen? ⟨w9.heap.size + 1, 0, none⟩ = false := by simp (maxDischargeDepth := 8) [go_sem, *]
    all_goals have k3 : w1.frozen? ⟨w9.heap.size + 1, 1, none⟩ = false := by simp (maxDischargeDepth := 8) [go_sem, *]
    all_goals have HM2 : Below w.heap.size w w1 := by (repeat (first | with_reducible assumption | with_reducible exact Below.refl _ _ | ((with_reducible refine Below.setCell ?_ ?_ _); rotate_left; (first | exact Nat.le_refl _ | (dsimp only; omega) | (simp; done) | (simp; omega))) | with_reducible refine below_alloc ?_ _ | with_reducible apply below_drewN | with_reducible apply Below.drew | with_reducible refine below_step ?_ (by assumption)))
    all_goals clear hcR hfR
    all_goals go_wp2_with (fail)
    all_goals refine (cFitNil _ _ (by omega) (by omega)).mono ?_
    all_goals rintro e w4 ⟨rfl, hM⟩
    all_goals go_wp2_with fail
    all_goals go_ret
    all_goals exact ⟨rfl, by (repeat (first | with_reducible assumption | with_reducible exact Below.refl _ _ | ((with_reducible refine Below.setCell ?_ ?_ _); rotate_left; (first | exact Nat.le_refl _ | (dsimp only; omega) | (simp; done) | (simp; omega))) | with_reducible refine below_alloc ?_ _ | with_reducible apply below_drewN | with_reducible apply Below.drew | with_reducible refine below_step ?_ (by assumption)))⟩
  · rw [if_pos (Or.inr ⟨u, v⟩)] at hs
    have u1 : ¬ 2147483648 < R := by omega
    rw [hs]
    have HQ := Lib.hid hq
    have HRR := Lib.hid hR
    clear hq hR hs e5
    go_enter Try.func11, Try.ntmps11
    go_wp2_with fail; refine (cWMul _ _ _ (by omega) (by omega) (by omega) (by omega)).mono ?_; rintro e w9 ⟨rfl, hB9⟩
    have hsz := hB9.size
    go_upto_region 5 with (fail)
    go_region_with (first
        | (go_at_call 38; refine (cWOf _ _ (by decide) (by decide)).mono ?_; rintro e w1 ⟨rfl, hR⟩; have hcR := bsome hR; have hfR := bfrozen hR)
        | (go_at_call 36; refine (nWAdd _ _ _ (by omega) (by omega) (by decide) (by decide)).mono ?_; rintro e w1 ⟨rfl, hR⟩; have hcR := bsome hR; have hfR := bfrozen hR))
    all_goals have k0 : w1.cell? ⟨w9.heap.size + 1, 0, none⟩ = some (.int .i64 (hw q)) := by simp (maxDischargeDepth := 8) [go_sem, *]
    all_goals have k1 : w1.cell? ⟨w9.heap.size + 1, 1, none⟩ = some (.int .u64 (lw q)) := by simp (maxDischargeDepth := 8) [go_sem, *]
    all_goals have k2 : w1.frozen? ⟨w9.heap.size + 1, 0, none⟩ = false := by simp (maxDischargeDepth := 8) [go_sem, *]
    all_goals have k3 : w1.frozen? ⟨w9.heap.size + 1, 1, none⟩ = false := by simp (maxDischargeDepth := 8) [go_sem, *]
    all_goals have HM2 : Below w.heap.size w w1 := by (repeat (first | with_reducible assumption | with_reducible exact Below.refl _ _ | ((with_reducible refine Below.setCell ?_ ?_ _); rotate_left; (first | exact Nat.le_refl _ | (dsimp only; omega) | (simp; done) | (simp; omega))) | with_reducible refine below_alloc ?_ _ | with_reducible apply below_drewN | with_reducible apply Below.drew | with_reducible refine below_step ?_ (by assumption)))
    all_goals clear hcR hfR
    all_goals go_wp2_with (fail)
    all_goals refine (cFitNil _ _ (by omega) (by omega)).mono ?_
    all_goals rintro e w4 ⟨rfl, hM⟩
    all_goals go_wp2_with fail
    all_goals go_ret
    all_goals exact ⟨rfl, by (repeat (first | with_reducible assumption | with_reducible exact Below.refl _ _ | ((with_reducible refine Below.setCell ?_ ?_ _); rotate_left; (first | exact Nat.le_refl _ | (dsimp only; omega) | (simp; done) | (simp; omega))) | with_reducible refine below_alloc ?_ _ | with_reducible apply below_drewN | with_reducible apply Below.drew | with_reducible refine below_step ?_ (by assumption)))⟩
  · have u1 : ¬ 2147483648 < R := by omega
    rw [if_neg (by omega)] at hs
    rw [hs]
    have HQ := Lib.hid hq
    have HRR := Lib.hid hR
    clear hq hR hs e5
    go_enter Try.func11, Try.ntmps11
    go_wp2_with fail; refine (cWMul _ _ _ (by omega) (by omega) (by omega) (by omega)).mono ?_; rintro e w9 ⟨rfl, hB9⟩
    have hsz := hB9.size
    go_wp2_with (fail)
    refine (cFitNil _ _ (by omega) (by omega)).mono ?_
    rintro e w4 ⟨rfl, hM⟩
    go_wp2_with fail
    go_ret
    exact ⟨rfl, by (repeat (first | with_reducible assumption | with_reducible exact Below.refl _ _ | ((with_reducible refine Below.setCell ?_ ?_ _); rotate_left; (first | exact Nat.le_refl _ | (dsimp only; omega) | (simp; done) | (simp; omega))) | with_reducible refine below_alloc ?_ _ | with_reducible apply below_drewN | with_reducible apply Below.drew | with_reducible refine below_step ?_ (by assumption)))⟩
  · have u1 : ¬ 2147483648 < R := by omega
    have u2 : R ≠ 2147483648 := by omega
    rw [if_neg (by omega)] at hs
    rw [hs]
    have HQ := Lib.hid hq
    have HRR := Lib.hid hR
    clear hq hR hs e5
    go_enter Try.func11, Try.ntmps11
    go_wp2_with fail; refine (cWMul _ _ _ (by omega) (by omega) (by omega) (by omega)).mono ?_; rintro e w9 ⟨rfl, hB9⟩
    have hsz := hB9.size
    go_wp2_with (fail)
    refine (cFitNil _ _ (by omega) (by omega)).mono ?_
    rintro e w4 ⟨rfl, hM⟩
    go_wp2_with fail
    go_ret
    exact ⟨rfl, by (repeat (first | with_reducible assumption | with_reducible exact Below.refl _ _ | ((with_reducible refine Below.setCell ?_ ?_ _); rotate_left; (first | exact Nat.le_refl _ | (dsimp only; omega) | (simp; done) | (simp; omega))) | with_reducible refine below_alloc ?_ _ | with_reducible apply below_drewN | with_reducible apply Below.drew | with_reducible refine below_step ?_ (by assumption)))⟩
end Go.Proofs.Ytggpeefijdiiiaa
