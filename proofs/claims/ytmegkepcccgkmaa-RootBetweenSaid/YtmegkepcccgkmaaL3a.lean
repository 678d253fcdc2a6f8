/- The walk of RootBetween. -/
import Derived.Test.YtmegkepcccgkmaaQ1
namespace Go.Proofs.Ytmegkepcccgkmaa
open Go.RowKit
set_option maxHeartbeats 2000000 in
theorem walk_RootBetween (a : Int) (w : World) (a0 : -9223372036854775808 ≤ a) (a1 : a ≤ 9223372036854775807) :
    Calls Try.prog 5 #[.int .i64 a] w fun e w' => e = .returned (.bool true) ∧ Below w.heap.size w w' := by
  have kr := fun w => cSqrt a w a0 a1
  have r0 := rt_nonneg (a * 4294967296)
  have r1 := rt_small a a1
  by_cases h : a ≤ 0
  · rw [rt_neg _ (by omega)] at kr
    clear r0 r1
    go_enter Try.func5, Try.ntmps5
    go_wp2_with (first | (go_at_call 9; refine (kr _).mono ?_; rintro e w1 ⟨rfl, hB⟩) | (go_at_call 11; refine (cAwake3 _).mono ?_; rintro e w1 ⟨rfl, hB⟩))
    go_ret
    exact ⟨rfl, by (repeat (first | (with_reducible refine Below.setCell ?_ ?_ _; rotate_left; (first | exact Nat.le_refl _ | omega | (simp; omega) | (simp; done))) | with_reducible refine below_alloc ?_ _ | with_reducible apply below_drewN | with_reducible apply Below.drew | with_reducible refine below_step ?_ (by assumption) | with_reducible exact Below.refl _ _ | with_reducible assumption))⟩
  · have h1 := rt_le (a * 4294967296) (by omega)
    have h2 := rt_gt (a * 4294967296) (by omega)
    have m0 : 0 < a * 4294967296 := by omega
    have m1 : a * 4294967296 ≤ 39614081257132168796771975168 := by omega
    have r2 : rt (a * 4294967296) ≤ 9223372036854775806 := by
      generalize rt (a * 4294967296) = r at *
      rcases Int.lt_or_le 9223372036854775806 r with h3 | h3
      · have h4 := Int.mul_le_mul (a := 9223372036854775807) (b := 9223372036854775807) (c := r) (d := r) (by omega) (by omega) (by decide) (by omega)
        omega
      · exact h3
    generalize rt (a * 4294967296) = r at *
    obtain ⟨s, hs⟩ : ∃ t, r + 1 = t := ⟨_, rfl⟩
    rw [hs] at h2
    have ws2 : IntKind.i64.wrap s = s := by rw [IntKind.wrap_i64]; omega
    obtain ⟨P, hP⟩ : ∃ t, r * r = t := ⟨_, rfl⟩
    obtain ⟨Q, hQ⟩ : ∃ t, s * s = t := ⟨_, rfl⟩
    rw [hP] at h1; rw [hQ] at h2
    have c1 : decide (cmp3 P (a * 4294967296) ≤ 0) = true := decide_eq_true (by unfold cmp3; split <;> (try split) <;> omega)
    have c2 : decide (0 < cmp3 Q (a * 4294967296)) = true := decide_eq_true (by unfold cmp3; split <;> (try split) <;> omega)
    have s0 : 0 ≤ s := by omega
    have s1 : s ≤ 9223372036854775807 := by omega
    go_enter Try.func5, Try.ntmps5
    go_wp2_with (fail)
    go_at_call 9
    refine (kr _).mono ?_
    rintro e w1 ⟨rfl, hB⟩
    have B1 : Below w.heap.size w w1 := by (repeat (first | (with_reducible refine Below.setCell ?_ ?_ _; rotate_left; (first | exact Nat.le_refl _ | omega | (simp; omega) | (simp; done))) | with_reducible refine below_alloc ?_ _ | with_reducible apply below_drewN | with_reducible apply Below.drew | with_reducible refine below_step ?_ (by assumption) | with_reducible exact Below.refl _ _ | with_reducible assumption))
    clear kr hB
    go_wp2_with (fail)
    go_at_call 18
    refine (cWMul _ _ _ (by omega) (by omega) (by omega) (by omega)).mono ?_
    rintro e w2 ⟨rfl, hB2⟩
    have B2 := below_step B1 hB2
    have hz2 := B2.size
    go_upto_region 5 with (fail)
    go_region_held3 (fun w' => w'.cell? ⟨w2.heap.size, 0, none⟩ = some (.int .i64 (hw (a * 4294967296))) ∧ w'.cell? ⟨w2.heap.size, 1, none⟩ = some (.int .u64 (lw (a * 4294967296)))) (first | (refine ⟨cell_later hR ?_, cell_later hR ?_⟩ <;> (simp (maxDischargeDepth := 6) [go_sem, *]; done)) | (simp (maxDischargeDepth := 6) [go_sem, *]; done) | (exact ⟨alloc_swap (‹_ ∧ _›).1 (by first | exact hz | omega), alloc_swap (‹_ ∧ _›).2 (by first | exact hz | omega)⟩)) (first
      | (go_at_call 18; refine (cWMul _ _ _ (by omega) (by omega) (by omega) (by omega)).mono ?_; rintro e w1 ⟨rfl, hR⟩; have hcR := bsome hR; have hfR := bfrozen hR)
      | (go_at_call 19; refine (nWCmp _ _ _).mono ?_; rintro e w1 ⟨rfl, hR⟩; have hcR := bsome hR; have hfR := bfrozen hR)
      | (go_at_call 11; refine (cAwake3 _).mono ?_; rintro e w1 ⟨rfl, hR⟩; have hcR := bsome hR; have hfR := bfrozen hR))
    all_goals go_wp2
    all_goals go_ret
    all_goals exact ⟨rfl, by (repeat (first | exact Below.refl _ _ | assumption | apply Below.drew | apply below_drewN | refine below_alloc ?_ _ | refine below_step ?_ (by assumption) | refine Below.alloc ?_ (by first | exact Nat.le_refl _ | omega | (simp; omega) | simp) _ | refine Below.setCell ?_ (by first | exact Nat.le_refl _ | omega | (simp; omega) | simp) _))⟩
end Go.Proofs.Ytmegkepcccgkmaa
