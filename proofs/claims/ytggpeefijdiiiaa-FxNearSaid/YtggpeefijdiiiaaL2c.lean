/- The walk of FxNear. -/
import Derived.Test.YtggpeefijdiiiaaL2a
namespace Go.Proofs.Ytggpeefijdiiiaa
open Go.RowKit
theorem rsh_near (p : Int) : -2147483648 ≤ p - rsh p * 4294967296 ∧ p - rsh p * 4294967296 ≤ 2147483648 := by unfold rsh; split <;> omega
set_option maxHeartbeats 1000000 in
theorem walk_FxNear (a b : Int) (w : World) (a0 : -9223372036854775808 ≤ a) (a1 : a ≤ 9223372036854775807) (b0 : -9223372036854775808 ≤ b) (b1 : b ≤ 9223372036854775807) :
    Calls Try.prog 10 #[.int .i64 a, .int .i64 b] w fun e w' => e = .returned (.bool true) ∧ Below w.heap.size w w' := by
  have n := rsh_near (a * b)
  obtain ⟨m0, m1⟩ := mul_bd a b a0 a1 b0 b1
  cases hx : fx (rsh (a * b)) with
  | false =>
    go_enter Try.func10, Try.ntmps10
    go_wp2_with (fail)
    refine (cFMulV a b _ w.heap.size false true _ rfl (by rw [hx]; rfl) (by omega) (by omega) (by omega) (by omega) (by simp [go_sem]) (by simp [go_sem])).mono ?_
    rintro e w1 ⟨rfl, hM1⟩
    have hc1 := hM1.cell
    have hB : Below w.heap.size w w1 := below_mv (W := _) (by (repeat (first | exact Below.refl _ _ | assumption | apply Below.drew | apply below_drewN | refine below_alloc ?_ _ | refine below_step ?_ (by assumption) | refine Below.alloc ?_ (by first | exact Nat.le_refl _ | omega | (simp; omega) | simp) _ | refine Below.setCell ?_ (by first | exact Nat.le_refl _ | omega | (simp; omega) | simp) _))) hM1 (Nat.le_refl _)
    have hz := hB.size
    clear n hx
    go_wp2_with (first | (go_at_call 13; refine (cAwake2 _).mono ?_; rintro e w1 ⟨rfl, hB⟩))
    go_ret
    exact ⟨rfl, by (repeat (first | exact Below.refl _ _ | assumption | apply Below.drew | apply below_drewN | refine below_alloc ?_ _ | refine below_step ?_ (by assumption) | refine Below.alloc ?_ (by first | exact Nat.le_refl _ | omega | (simp; omega) | simp) _ | refine Below.setCell ?_ (by first | exact Nat.le_refl _ | omega | (simp; omega) | simp) _))⟩
  | true =>
    obtain ⟨r, hr⟩ : ∃ r, rsh (a * b) = r := ⟨_, rfl⟩
    obtain ⟨P, hP⟩ : ∃ P, a * b = P := ⟨_, rfl⟩
    have hv : sat (rsh (a * b)) = r := by rw [hr]; rw [hr] at hx; exact sat_id _ ((fx_iff _).1 hx).1 ((fx_iff _).1 hx).2
    have hr0 : -9223372036854775808 ≤ r ∧ r ≤ 9223372036854775807 := by rw [hr] at hx; exact (fx_iff _).1 hx
    have ho : (false || !fx (rsh (a * b))) = false := by rw [hx]; rfl
    have hD : -2147483648 ≤ P + -(r * 4294967296) ∧ P + -(r * 4294967296) ≤ 2147483648 := by rw [hr, hP] at n; omega
    rw [hP] at m0 m1
    clear n hx
    obtain ⟨D, hD'⟩ : ∃ D, P + -(r * 4294967296) = D := ⟨_, rfl⟩
    rw [hD'] at hD
    obtain ⟨r0, r1⟩ := hr0
    obtain ⟨d0, d1⟩ := hD
    have e1 : cw (-(r * 4294967296)) = -(r * 4294967296) := cw_yes _ (by omega) (by omega)
    have e2 : fw (-(r * 4294967296)) = true := fw_yes _ (by omega) (by omega)
    have e3 : cw D = D := cw_yes _ (by omega) (by omega)
    have e4 : fw D = true := fw_yes _ (by omega) (by omega)
    have e5 : cmp3 D 2147483648 ≤ 0 := by unfold cmp3; split <;> (try split) <;> omega
    have e6 : 0 ≤ cmp3 D (-2147483648) := by unfold cmp3; split <;> (try split) <;> omega
    clear hr
    go_enter Try.func10, Try.ntmps10
    go_wp2_with (fail)
    refine (cFMulV a b r w.heap.size false false _ hv (by assumption) (by omega) (by omega) (by omega) (by omega) (by simp [go_sem]) (by simp [go_sem])).mono ?_
    rintro e w1 ⟨rfl, hM1⟩
    have hc1 := hM1.cell
    have hB : Below w.heap.size w w1 := below_mv (W := _) (by (repeat (first | exact Below.refl _ _ | assumption | apply Below.drew | apply below_drewN | refine below_alloc ?_ _ | refine below_step ?_ (by assumption) | refine Below.alloc ?_ (by first | exact Nat.le_refl _ | omega | (simp; omega) | simp) _ | refine Below.setCell ?_ (by first | exact Nat.le_refl _ | omega | (simp; omega) | simp) _))) hM1 (Nat.le_refl _)
    have hz := hB.size
    clear hv
    clear ho hM1
    go_wp2_with fail; refine (cWMul _ _ _ (by omega) (by omega) (by omega) (by omega)).mono ?_; rintro e w2 ⟨rfl, hB2⟩
    go_wp2_with fail; refine (nWNeg _ _ (by omega) (by omega)).mono ?_; rintro e w3 ⟨rfl, hB3⟩
    have hz3 : w.heap.size < w3.heap.size := by have := lt_of_cell hc1; have := hB2.size; have := hB3.size; omega
    go_upto_region 4 with (fail)
    go_outline
    go_cut [9, 10] (fun p o wx => ∃ g : Nat, p = .pointer (some ⟨g, 0, none⟩) ∧ o = .bool true ∧ wx.cell? ⟨g, 0, none⟩ = some (.int .i64 (hw D)) ∧ wx.cell? ⟨g, 1, none⟩ = some (.int .u64 (lw D)) ∧ Below w.heap.size w wx)
    case first =>
      go_region_held3 (fun w' => w'.cell? ⟨w3.heap.size, 0, none⟩ = some (.int .i64 (hw (-(r * 4294967296)))) ∧ w'.cell? ⟨w3.heap.size, 1, none⟩ = some (.int .u64 (lw (-(r * 4294967296))))) (first | (refine ⟨cell_later hR ?_, cell_later hR ?_⟩ <;> (simp (maxDischargeDepth := 6) [go_sem, *]; done)) | (simp (maxDischargeDepth := 6) [go_sem, *]; done) | (exact ⟨alloc_swap (‹_ ∧ _›).1 (by first | exact hz | omega), alloc_swap (‹_ ∧ _›).2 (by first | exact hz | omega)⟩))
        (first
          | (go_at_call 35; refine (cWMul _ _ _ (by omega) (by omega) (by omega) (by omega)).mono ?_; rintro e w1 ⟨rfl, hR⟩; have hcR := bsome hR; have hfR := bfrozen hR; have hz : w3.heap.size < w1.heap.size := by have hz0 := hR.size; (try simp at hz0); omega)
          | (go_at_call 36; refine (nWAdd _ _ _ (by omega) (by omega) (by omega) (by omega)).mono ?_; rintro e w1 ⟨rfl, hR⟩; have hcR := bsome hR; have hfR := bfrozen hR; have hz : w3.heap.size < w1.heap.size := by have hz0 := hR.size; (try simp at hz0); omega))
      all_goals go_wp2_with fail
      all_goals go_meet
      all_goals refine ⟨_, rfl, rfl, by simp (maxDischargeDepth := 8) [go_sem, *], by simp (maxDischargeDepth := 8) [go_sem, *], ?_⟩
      all_goals (repeat (first | exact Below.refl _ _ | assumption | apply Below.drew | apply below_drewN | refine below_alloc ?_ _ | refine below_step ?_ (by assumption) | refine Below.alloc ?_ (by first | exact Nat.le_refl _ | omega | (simp; omega) | simp) _ | refine Below.setCell ?_ (by first | exact Nat.le_refl _ | omega | (simp; omega) | simp) _))
    case rest =>
      obtain ⟨g, rfl, rfl, q0, q1, HB⟩ := hcut
      have hz := World.block_lt_of_cell? _ _ q0
      go_upto_region 7 with (fail)
      go_region_held3 (fun w' => w'.cell? ⟨g, 0, none⟩ = some (.int .i64 (hw D)) ∧ w'.cell? ⟨g, 1, none⟩ = some (.int .u64 (lw D))) (first | (refine ⟨cell_later hR ?_, cell_later hR ?_⟩ <;> (simp (maxDischargeDepth := 6) [go_sem, *]; done)) | (simp (maxDischargeDepth := 6) [go_sem, *]; done) | (exact ⟨alloc_swap (‹_ ∧ _›).1 (by first | exact hz | omega), alloc_swap (‹_ ∧ _›).2 (by first | exact hz | omega)⟩))
        (first
          | (go_at_call 38; refine (cWOf _ _ (by decide) (by decide)).mono ?_; rintro e w1 ⟨rfl, hR⟩; have hcR := bsome hR; have hfR := bfrozen hR)
          | (go_at_call 37; refine (nWCmp _ _ _).mono ?_; rintro e w1 ⟨rfl, hR⟩; have hcR := bsome hR; have hfR := bfrozen hR)
          | (go_at_call 13; refine (cAwake2 _).mono ?_; rintro e w1 ⟨rfl, hR⟩; have hcR := bsome hR; have hfR := bfrozen hR))
      all_goals go_wp2
      all_goals go_ret
      all_goals refine ⟨rfl, ?_⟩
      all_goals (repeat (first | exact Below.refl _ _ | assumption | apply Below.drew | apply below_drewN | refine below_alloc ?_ _ | refine below_step ?_ (by assumption) | refine Below.alloc ?_ (by first | exact Nat.le_refl _ | omega | (simp; omega) | simp) _ | refine Below.setCell ?_ (by first | exact Nat.le_refl _ | omega | (simp; omega) | simp) _))
end Go.Proofs.Ytggpeefijdiiiaa
