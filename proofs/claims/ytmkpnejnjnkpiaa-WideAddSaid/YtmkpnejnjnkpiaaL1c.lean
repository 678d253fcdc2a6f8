/- The walk of WideCmp. -/
import Derived.Test.YtmkpnejnjnkpiaaL1b
import Derived.Test.YtmkpnejnjnkpiaaB5
namespace Go.Proofs.Ytmkpnejnjnkpiaa
open Go.RowKit
theorem cROfW (A : Int) (w : World) (h0 : -170141183460469231731687303715884105728 ≤ A) (h1 : A ≤ 170141183460469231731687303715884105727) :
    Calls Try.prog 19 #[.agg #[.int .i64 (hw A), .int .u64 (lw A)]] w fun e w' => e = .returned (.agg #[.bool (decide (A < 0)), .int .u64 (d0 (A.natAbs)), .int .u64 (d1 (A.natAbs)), .int .u64 (d2 (A.natAbs)), .int .u64 (d3 (A.natAbs))]) ∧ Below w.heap.size w w' := by
  have k := cRFrom (hw A) (lw A)
  rw [show hw A * 18446744073709551616 + lw A = A by unfold hw lw; omega, show decide (hw A < 0) = decide (A < 0) by rw [decide_eq_decide]; unfold hw; omega] at k
  go_enter Try.func19, Try.ntmps19
  go_wp2_with (fail)
  go_at_call 42
  refine (k _ (hw_lo A h0) (hw_hi A h1) (lw_lo A) (lw_hi A)).mono ?_
  rintro e w1 ⟨rfl, hB⟩
  have hz := hB.size
  simp at hz
  have c0 := cell_later (a := ⟨w.heap.size + 1, 0, none⟩) (v := .bool false) hB (by simp [go_sem])
  have f0 := frozen_later (a := ⟨w.heap.size + 1, 0, none⟩) (v := .bool false) hB (by simp [go_sem]) (by simp [go_sem])
  have c1 := cell_later (a := ⟨w.heap.size + 1, 1, none⟩) (v := .int .u64 0) hB (by simp [go_sem])
  have f1 := frozen_later (a := ⟨w.heap.size + 1, 1, none⟩) (v := .int .u64 0) hB (by simp [go_sem]) (by simp [go_sem])
  have c2 := cell_later (a := ⟨w.heap.size + 1, 2, none⟩) (v := .int .u64 0) hB (by simp [go_sem])
  have f2 := frozen_later (a := ⟨w.heap.size + 1, 2, none⟩) (v := .int .u64 0) hB (by simp [go_sem]) (by simp [go_sem])
  have c3 := cell_later (a := ⟨w.heap.size + 1, 3, none⟩) (v := .int .u64 0) hB (by simp [go_sem])
  have f3 := frozen_later (a := ⟨w.heap.size + 1, 3, none⟩) (v := .int .u64 0) hB (by simp [go_sem]) (by simp [go_sem])
  have c4 := cell_later (a := ⟨w.heap.size + 1, 4, none⟩) (v := .int .u64 0) hB (by simp [go_sem])
  have f4 := frozen_later (a := ⟨w.heap.size + 1, 4, none⟩) (v := .int .u64 0) hB (by simp [go_sem]) (by simp [go_sem])
  go_wp2
  clear k
  simp (maxDischargeDepth := 8) [bodyPost, results, Try.results19, go_sem, *]
  refine Below.setCell ?_ (by simp) _
  refine Below.setCell ?_ (by simp) _
  refine Below.setCell ?_ (by simp) _
  refine Below.setCell ?_ (by simp) _
  refine Below.setCell ?_ (by simp) _
  refine below_step ?_ hB
  (repeat (first | with_reducible assumption | with_reducible exact Below.refl _ _ | ((with_reducible refine Below.setCell ?_ ?_ _); rotate_left; (first | exact Nat.le_refl _ | (dsimp only; omega) | (simp; done) | (simp; omega))) | with_reducible refine below_alloc ?_ _ | with_reducible apply below_drewN | with_reducible apply Below.drew | with_reducible refine below_step ?_ (by assumption)))
theorem walkN_WideCmp (A B : Int) (w : World) (hA0 : -170141183460469231731687303715884105728 ≤ A) (hA1 : A ≤ 170141183460469231731687303715884105727) (hB0 : -170141183460469231731687303715884105728 ≤ B) (hB1 : B ≤ 170141183460469231731687303715884105727) :
    Calls Try.prog 5 #[.agg #[.int .i64 (hw A), .int .u64 (lw A)], .agg #[.int .i64 (hw B), .int .u64 (lw B)]] w fun e w' => e = .returned (.bool true) ∧ Below w.heap.size w w' := by
  go_enter Try.func5, Try.ntmps5
  go_upto_region 1 with (fail)
  go_region_held3 (fun w' => w'.cell? ⟨w.heap.size, 0, none⟩ = some (.int .i64 (hw A)) ∧ w'.cell? ⟨w.heap.size, 1, none⟩ = some (.int .u64 (lw A)) ∧ w'.cell? ⟨w.heap.size + 1, 0, none⟩ = some (.int .i64 (hw B)) ∧ w'.cell? ⟨w.heap.size + 1, 1, none⟩ = some (.int .u64 (lw B))) (first | (refine ⟨cell_later hR ?_, cell_later hR ?_, cell_later hR ?_, cell_later hR ?_⟩ <;> (simp (maxDischargeDepth := 6) [go_sem, *]; done)) | (simp (maxDischargeDepth := 6) [go_sem, *]; done) | (exact ⟨alloc_swap (‹_ ∧ _›).1 (by first | exact hz | omega), alloc_swap (‹_ ∧ _›).2.1 (by first | exact hz | omega), alloc_swap (‹_ ∧ _›).2.2.1 (by first | exact hz | omega), alloc_swap (‹_ ∧ _›).2.2.2 (by first | exact hz | omega)⟩)) (first
    | (go_at_call 19; refine (cROfW _ _ (by omega) (by omega)).mono ?_; rintro e w1 ⟨rfl, hR⟩; have hcR := bsome hR; have hfR := bfrozen hR)
    | (go_at_call 20; refine (nWCmp _ _ _).mono ?_; rintro e w1 ⟨rfl, hR⟩; have hcR := bsome hR; have hfR := bfrozen hR)
    | (go_at_call 21; refine (cRCmp _ _ _ (by omega) (by omega)).mono ?_; rintro e w1 ⟨rfl, hR⟩; have hcR := bsome hR; have hfR := bfrozen hR)
    | (go_at_call 22; refine (nWSign _ _ (by omega) (by omega)).mono ?_; rintro e w1 ⟨rfl, hR⟩; have hcR := bsome hR; have hfR := bfrozen hR)
    | (go_at_call 23; refine (cRSign _ _ (by omega)).mono ?_; rintro e w1 ⟨rfl, hR⟩; have hcR := bsome hR; have hfR := bfrozen hR)
    | (go_at_call 16; refine (cAwake1 _).mono ?_; rintro e w1 ⟨rfl, hR⟩; have hcR := bsome hR; have hfR := bfrozen hR))
  all_goals go_wp2
  all_goals go_ret
  all_goals exact ⟨rfl, by (repeat (first | with_reducible assumption | with_reducible exact Below.refl _ _ | ((with_reducible refine Below.setCell ?_ ?_ _); rotate_left; (first | exact Nat.le_refl _ | (dsimp only; omega) | (simp; done) | (simp; omega))) | with_reducible refine below_alloc ?_ _ | with_reducible apply below_drewN | with_reducible apply Below.drew | with_reducible refine below_step ?_ (by assumption)))⟩
theorem walk_WideCmp (x0 x1 x2 x3 : Int) (w : World) (h0 : -9223372036854775808 ≤ x0) (h1 : x0 ≤ 9223372036854775807) (h2 : 0 ≤ x1) (h3 : x1 ≤ 18446744073709551615) (g0 : -9223372036854775808 ≤ x2) (g1 : x2 ≤ 9223372036854775807) (g2 : 0 ≤ x3) (g3 : x3 ≤ 18446744073709551615) :
    Calls Try.prog 5 #[.agg #[.int .i64 x0, .int .u64 x1], .agg #[.int .i64 x2, .int .u64 x3]] w fun e w' => e = .returned (.bool true) ∧ Below w.heap.size w w' := by
  have h := walkN_WideCmp (wv x0 x1) (wv x2 x3) w (wv_lo x0 x1 h0 h2) (wv_hi x0 x1 h1 h3) (wv_lo x2 x3 g0 g2) (wv_hi x2 x3 g1 g3)
  rw [hw_wv x0 x1 h2 h3, lw_wv x0 x1 h2 h3, hw_wv x2 x3 g2 g3, lw_wv x2 x3 g2 g3] at h
  exact h
end Go.Proofs.Ytmkpnejnjnkpiaa
