/- The walk of FxMix. -/
import Derived.Test.YtggpeefijdiiiaaL2a
import Derived.Test.YtggpeefijdiiiaaR2
namespace Go.Proofs.Ytggpeefijdiiiaa
open Go.RowKit
set_option maxHeartbeats 8000000 in
theorem walk_FxMix (a b t : Int) (w : World) (a0 : -9223372036854775808 ≤ a) (a1 : a ≤ 9223372036854775807) (b0 : -9223372036854775808 ≤ b) (b1 : b ≤ 9223372036854775807) (t0 : -9223372036854775808 ≤ t) (t1 : t ≤ 9223372036854775807) :
    Calls Try.prog 8 #[.int .i64 a, .int .i64 b, .int .i64 t] w fun e w' => e = .returned (.bool true) ∧ Below w.heap.size w w' := by
  go_enter Try.func8, Try.ntmps8
  go_upto_region 3 with (fail)
  go_region_with (first
    | (go_at_call 24; refine (cFMix a b t w.heap.size false _ a0 a1 b0 b1 t0 t1 (by simp [go_sem]) (by simp [go_sem])).mono ?_; rintro e w1 ⟨rfl, hM1⟩; have hc1 := hM1.cell; have hd1 : w1.cell? ⟨w.heap.size + 1, 0, none⟩ = some (.bool false) := mv_cell hM1 (by simp) (by simp [go_sem]); have hg1 : w1.frozen? ⟨w.heap.size + 1, 0, none⟩ = false := mv_frozen hM1 (by simp) (v := .bool false) (by simp [go_sem]) (by simp [go_sem]))
    | (go_at_call 25; refine (rFMix a b t (w.heap.size + 1) false _ a0 a1 b0 b1 t0 t1 hd1 hg1).mono ?_; rintro e w2 ⟨rfl, hM2⟩; have hc2 := mv_cell hM2 (by simp) hc1; have hd2 := hM2.cell; have HB : Below w.heap.size w w2 := below_mv (W := _) (below_mv (W := _) (by (repeat (first | exact Below.refl _ _ | assumption | apply Below.drew | apply below_drewN | refine below_alloc ?_ _ | refine below_step ?_ (by assumption) | refine Below.alloc ?_ (by first | exact Nat.le_refl _ | omega | (simp; omega) | simp) _ | refine Below.setCell ?_ (by first | exact Nat.le_refl _ | omega | (simp; omega) | simp) _))) hM1 (Nat.le_refl _)) hM2 (by omega); have hz := HB.size)
    | (go_at_call 13; refine (cAwake2 _).mono ?_; rintro e w1 ⟨rfl, hR⟩; have hcR := bsome hR; have hfR := bfrozen hR))
  all_goals go_wp2
  all_goals go_ret
  all_goals exact ⟨rfl, by (repeat (first | exact Below.refl _ _ | assumption | apply Below.drew | apply below_drewN | refine below_alloc ?_ _ | refine below_step ?_ (by assumption) | refine Below.alloc ?_ (by first | exact Nat.le_refl _ | omega | (simp; omega) | simp) _ | refine Below.setCell ?_ (by first | exact Nat.le_refl _ | omega | (simp; omega) | simp) _))⟩
end Go.Proofs.Ytggpeefijdiiiaa
