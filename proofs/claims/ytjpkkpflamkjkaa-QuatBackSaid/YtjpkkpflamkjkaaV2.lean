/- Contracts of vec's products, and of the document's. -/
import Derived.Test.YtjpkkpflamkjkaaV1
set_option linter.unusedSimpArgs false
set_option linter.unusedVariables false
namespace Go.Proofs.Ytjpkkpflamkjkaa
open Go.RowKit
/-- A scalar product, and whether all fits. -/
def dt (x0 x1 x2 y0 y1 y2 : Int) : Int := sat (sat (sat (rsh (x0 * y0)) + sat (rsh (x1 * y1))) + sat (rsh (x2 * y2)))
def dtok (x0 x1 x2 y0 y1 y2 : Int) : Bool := fx (rsh (x0 * y0)) && fx (rsh (x1 * y1)) && fx (rsh (x2 * y2)) && fx (sat (rsh (x0 * y0)) + sat (rsh (x1 * y1))) && fx (sat (sat (rsh (x0 * y0)) + sat (rsh (x1 * y1))) + sat (rsh (x2 * y2)))
/-- One part of a vector product, and whether it fits. -/
def cr (a b c d : Int) : Int := sat (sat (rsh (a * b)) - sat (rsh (c * d)))
def crok (a b c d : Int) : Bool := fx (rsh (a * b)) && fx (rsh (c * d)) && fx (sat (rsh (a * b)) - sat (rsh (c * d)))
def xok (x0 x1 x2 y0 y1 y2 : Int) : Bool := crok x1 y2 x2 y1 && crok x2 y0 x0 y2 && crok x0 y1 x1 y0
set_option maxHeartbeats 2000000 in
theorem cVDot (x0 x1 x2 y0 y1 y2 : Int) (b : Nat) (o : Bool) (w : World) (x0_0 : -9223372036854775808 ≤ x0) (x0_1 : x0 ≤ 9223372036854775807) (x1_0 : -9223372036854775808 ≤ x1) (x1_1 : x1 ≤ 9223372036854775807) (x2_0 : -9223372036854775808 ≤ x2) (x2_1 : x2 ≤ 9223372036854775807) (y0_0 : -9223372036854775808 ≤ y0) (y0_1 : y0 ≤ 9223372036854775807) (y1_0 : -9223372036854775808 ≤ y1) (y1_1 : y1 ≤ 9223372036854775807) (y2_0 : -9223372036854775808 ≤ y2) (y2_1 : y2 ≤ 9223372036854775807) (hc : w.cell? ⟨b, 0, none⟩ = some (.bool o)) (hf : w.frozen? ⟨b, 0, none⟩ = false) :
    Calls Try.prog 39 #[.pointer (some ⟨b, 0, none⟩), .agg #[.int .i64 x0, .int .i64 x1, .int .i64 x2], .agg #[.int .i64 y0, .int .i64 y1, .int .i64 y2]] w fun e w' =>
      e = .returned (.int .i64 (dt x0 x1 x2 y0 y1 y2)) ∧ Mv b (o || !dtok x0 x1 x2 y0 y1 y2) w w' := by
  have hb := lt_of_cell hc
  have HM := Mv.refl hc hf
  clear hc hf
  have k1 := fun W => cEachMul x0 x1 x2 y0 y1 y2 b o W x0_0 x0_1 x1_0 x1_1 x2_0 x2_1 y0_0 y0_1 y1_0 y1_1 y2_0 y2_1
  unfold dt dtok
  obtain ⟨p0, h0⟩ : ∃ t, rsh (x0 * y0) = t := ⟨_, rfl⟩
  obtain ⟨p1, h1⟩ : ∃ t, rsh (x1 * y1) = t := ⟨_, rfl⟩
  obtain ⟨p2, h2⟩ : ∃ t, rsh (x2 * y2) = t := ⟨_, rfl⟩
  rw [h0, h1, h2] at k1 ⊢
  clear h0 h1 h2
  have s0 := sat_lo p0; have s0' := sat_hi p0; have s1 := sat_lo p1; have s1' := sat_hi p1; have s2 := sat_lo p2; have s2' := sat_hi p2
  have s3 := sat_lo (sat p0 + sat p1); have s3' := sat_hi (sat p0 + sat p1)
  go_enter Try.func39, Try.ntmps39
  go_upto_region 2 with ((go_at_call 51; (with_reducible refine (mvCall (b := b) (w0 := w) (by (repeat (first | with_reducible assumption | with_reducible exact Mv.refl (by assumption) (by assumption) | with_reducible apply Mv.alloc | with_reducible apply Mv.drew | with_reducible apply Mv.drewN | ((with_reducible apply Mv.setCell); rotate_left; (first | (dsimp only; omega) | omega | (simp; omega)); (first | (dsimp only; omega) | omega | (simp; omega))) | ((with_reducible apply Mv.below); rotate_left; (with_reducible assumption)) | ((with_reducible apply Mv.trans); rotate_left; (with_reducible assumption))))) (k1 _)).mono ?_); rintro e w1 ⟨rfl, hM, HM⟩))
  have hz := hM.size
  simp at hz
  go_region_held3 (fun w' => w'.cell? ⟨w1.heap.size, 0, none⟩ = some (.int .i64 (sat p0)) ∧ w'.cell? ⟨w1.heap.size, 1, none⟩ = some (.int .i64 (sat p1)) ∧ w'.cell? ⟨w1.heap.size, 2, none⟩ = some (.int .i64 (sat p2))) (exact ⟨(by first | exact mv_cell hM (by first | (dsimp only; omega) | (simp; omega)) (by first | assumption | (simp (maxDischargeDepth := 6) [go_sem, *]; done)) | exact cell_later hM (by first | assumption | (simp (maxDischargeDepth := 6) [go_sem, *]; done)) | (simp (maxDischargeDepth := 6) [go_sem, *]; done)), (by first | exact mv_cell hM (by first | (dsimp only; omega) | (simp; omega)) (by first | assumption | (simp (maxDischargeDepth := 6) [go_sem, *]; done)) | exact cell_later hM (by first | assumption | (simp (maxDischargeDepth := 6) [go_sem, *]; done)) | (simp (maxDischargeDepth := 6) [go_sem, *]; done)), (by first | exact mv_cell hM (by first | (dsimp only; omega) | (simp; omega)) (by first | assumption | (simp (maxDischargeDepth := 6) [go_sem, *]; done)) | exact cell_later hM (by first | assumption | (simp (maxDischargeDepth := 6) [go_sem, *]; done)) | (simp (maxDischargeDepth := 6) [go_sem, *]; done))⟩) ((go_at_call 31; (with_reducible refine (mvCall (b := b) (w0 := w) (by (repeat (first | with_reducible assumption | with_reducible exact Mv.refl (by assumption) (by assumption) | with_reducible apply Mv.alloc | with_reducible apply Mv.drew | with_reducible apply Mv.drewN | ((with_reducible apply Mv.setCell); rotate_left; (first | (dsimp only; omega) | omega | (simp; omega)); (first | (dsimp only; omega) | omega | (simp; omega))) | ((with_reducible apply Mv.below); rotate_left; (with_reducible assumption)) | ((with_reducible apply Mv.trans); rotate_left; (with_reducible assumption))))) (cFAdd _ _ b _ _ (by omega) (by omega) (by omega) (by omega))).mono ?_); rintro e w1 ⟨rfl, hM, HM⟩))
  all_goals go_wp2
  all_goals go_ret
  all_goals exact ⟨rfl, Mv.cast (by (repeat (first | with_reducible assumption | with_reducible exact Mv.refl (by assumption) (by assumption) | with_reducible apply Mv.alloc | with_reducible apply Mv.drew | with_reducible apply Mv.drewN | ((with_reducible apply Mv.setCell); rotate_left; (first | (dsimp only; omega) | omega | (simp; omega)); (first | (dsimp only; omega) | omega | (simp; omega))) | ((with_reducible apply Mv.below); rotate_left; (with_reducible assumption)) | ((with_reducible apply Mv.trans); rotate_left; (with_reducible assumption))))) (by simp only [Bool.not_and, Bool.or_assoc])⟩
set_option maxHeartbeats 2000000 in
theorem rVDot (x0 x1 x2 y0 y1 y2 : Int) (b : Nat) (o : Bool) (w : World) (x0_0 : -9223372036854775808 ≤ x0) (x0_1 : x0 ≤ 9223372036854775807) (x1_0 : -9223372036854775808 ≤ x1) (x1_1 : x1 ≤ 9223372036854775807) (x2_0 : -9223372036854775808 ≤ x2) (x2_1 : x2 ≤ 9223372036854775807) (y0_0 : -9223372036854775808 ≤ y0) (y0_1 : y0 ≤ 9223372036854775807) (y1_0 : -9223372036854775808 ≤ y1) (y1_1 : y1 ≤ 9223372036854775807) (y2_0 : -9223372036854775808 ≤ y2) (y2_1 : y2 ≤ 9223372036854775807) (hc : w.cell? ⟨b, 0, none⟩ = some (.bool o)) (hf : w.frozen? ⟨b, 0, none⟩ = false) :
    Calls Try.prog 40 #[.pointer (some ⟨b, 0, none⟩), .agg #[.int .i64 x0, .int .i64 x1, .int .i64 x2], .agg #[.int .i64 y0, .int .i64 y1, .int .i64 y2]] w fun e w' =>
      e = .returned (.int .i64 (dt x0 x1 x2 y0 y1 y2)) ∧ Mv b (o || !dtok x0 x1 x2 y0 y1 y2) w w' := by
  have hb := lt_of_cell hc
  have HM := Mv.refl hc hf
  clear hc hf
  have k0 := fun O W => rFMul x0 y0 b O W x0_0 x0_1 y0_0 y0_1
  have k1 := fun O W => rFMul x1 y1 b O W x1_0 x1_1 y1_0 y1_1
  have k2 := fun O W => rFMul x2 y2 b O W x2_0 x2_1 y2_0 y2_1
  unfold dt dtok
  obtain ⟨p0, h0⟩ : ∃ t, rsh (x0 * y0) = t := ⟨_, rfl⟩
  obtain ⟨p1, h1⟩ : ∃ t, rsh (x1 * y1) = t := ⟨_, rfl⟩
  obtain ⟨p2, h2⟩ : ∃ t, rsh (x2 * y2) = t := ⟨_, rfl⟩
  rw [h0] at k0; rw [h1] at k1; rw [h2] at k2
  rw [h0, h1, h2]
  clear h0 h1 h2
  have s0 := sat_lo p0; have s0' := sat_hi p0; have s1 := sat_lo p1; have s1' := sat_hi p1; have s2 := sat_lo p2; have s2' := sat_hi p2
  have s3 := sat_lo (sat p0 + sat p1); have s3' := sat_hi (sat p0 + sat p1)
  go_enter Try.func40, Try.ntmps40
  go_upto_region 1 with (fail)
  go_region_held3 (fun w' => w'.cell? ⟨w.heap.size, 0, none⟩ = some (.int .i64 x0) ∧ w'.cell? ⟨w.heap.size, 1, none⟩ = some (.int .i64 x1) ∧ w'.cell? ⟨w.heap.size, 2, none⟩ = some (.int .i64 x2) ∧ w'.cell? ⟨w.heap.size + 1, 0, none⟩ = some (.int .i64 y0) ∧ w'.cell? ⟨w.heap.size + 1, 1, none⟩ = some (.int .i64 y1) ∧ w'.cell? ⟨w.heap.size + 1, 2, none⟩ = some (.int .i64 y2)) (exact ⟨(by first | exact mv_cell hM (by first | (dsimp only; omega) | (simp; omega)) (by first | assumption | (simp (maxDischargeDepth := 6) [go_sem, *]; done)) | exact cell_later hM (by first | assumption | (simp (maxDischargeDepth := 6) [go_sem, *]; done)) | (simp (maxDischargeDepth := 6) [go_sem, *]; done)), (by first | exact mv_cell hM (by first | (dsimp only; omega) | (simp; omega)) (by first | assumption | (simp (maxDischargeDepth := 6) [go_sem, *]; done)) | exact cell_later hM (by first | assumption | (simp (maxDischargeDepth := 6) [go_sem, *]; done)) | (simp (maxDischargeDepth := 6) [go_sem, *]; done)), (by first | exact mv_cell hM (by first | (dsimp only; omega) | (simp; omega)) (by first | assumption | (simp (maxDischargeDepth := 6) [go_sem, *]; done)) | exact cell_later hM (by first | assumption | (simp (maxDischargeDepth := 6) [go_sem, *]; done)) | (simp (maxDischargeDepth := 6) [go_sem, *]; done)), (by first | exact mv_cell hM (by first | (dsimp only; omega) | (simp; omega)) (by first | assumption | (simp (maxDischargeDepth := 6) [go_sem, *]; done)) | exact cell_later hM (by first | assumption | (simp (maxDischargeDepth := 6) [go_sem, *]; done)) | (simp (maxDischargeDepth := 6) [go_sem, *]; done)), (by first | exact mv_cell hM (by first | (dsimp only; omega) | (simp; omega)) (by first | assumption | (simp (maxDischargeDepth := 6) [go_sem, *]; done)) | exact cell_later hM (by first | assumption | (simp (maxDischargeDepth := 6) [go_sem, *]; done)) | (simp (maxDischargeDepth := 6) [go_sem, *]; done)), (by first | exact mv_cell hM (by first | (dsimp only; omega) | (simp; omega)) (by first | assumption | (simp (maxDischargeDepth := 6) [go_sem, *]; done)) | exact cell_later hM (by first | assumption | (simp (maxDischargeDepth := 6) [go_sem, *]; done)) | (simp (maxDischargeDepth := 6) [go_sem, *]; done))⟩) (first
    | (go_at_call 36; (with_reducible refine (mvCall (b := b) (w0 := w) (by (repeat (first | with_reducible assumption | with_reducible exact Mv.refl (by assumption) (by assumption) | with_reducible apply Mv.alloc | with_reducible apply Mv.drew | with_reducible apply Mv.drewN | ((with_reducible apply Mv.setCell); rotate_left; (first | (dsimp only; omega) | omega | (simp; omega)); (first | (dsimp only; omega) | omega | (simp; omega))) | ((with_reducible apply Mv.below); rotate_left; (with_reducible assumption)) | ((with_reducible apply Mv.trans); rotate_left; (with_reducible assumption))))) (k0 _ _)).mono ?_); rintro e w1 ⟨rfl, hM, HM⟩)
    | (go_at_call 36; (with_reducible refine (mvCall (b := b) (w0 := w) (by (repeat (first | with_reducible assumption | with_reducible exact Mv.refl (by assumption) (by assumption) | with_reducible apply Mv.alloc | with_reducible apply Mv.drew | with_reducible apply Mv.drewN | ((with_reducible apply Mv.setCell); rotate_left; (first | (dsimp only; omega) | omega | (simp; omega)); (first | (dsimp only; omega) | omega | (simp; omega))) | ((with_reducible apply Mv.below); rotate_left; (with_reducible assumption)) | ((with_reducible apply Mv.trans); rotate_left; (with_reducible assumption))))) (k1 _ _)).mono ?_); rintro e w1 ⟨rfl, hM, HM⟩)
    | (go_at_call 36; (with_reducible refine (mvCall (b := b) (w0 := w) (by (repeat (first | with_reducible assumption | with_reducible exact Mv.refl (by assumption) (by assumption) | with_reducible apply Mv.alloc | with_reducible apply Mv.drew | with_reducible apply Mv.drewN | ((with_reducible apply Mv.setCell); rotate_left; (first | (dsimp only; omega) | omega | (simp; omega)); (first | (dsimp only; omega) | omega | (simp; omega))) | ((with_reducible apply Mv.below); rotate_left; (with_reducible assumption)) | ((with_reducible apply Mv.trans); rotate_left; (with_reducible assumption))))) (k2 _ _)).mono ?_); rintro e w1 ⟨rfl, hM, HM⟩)
    | (go_at_call 37; (with_reducible refine (mvCall (b := b) (w0 := w) (by (repeat (first | with_reducible assumption | with_reducible exact Mv.refl (by assumption) (by assumption) | with_reducible apply Mv.alloc | with_reducible apply Mv.drew | with_reducible apply Mv.drewN | ((with_reducible apply Mv.setCell); rotate_left; (first | (dsimp only; omega) | omega | (simp; omega)); (first | (dsimp only; omega) | omega | (simp; omega))) | ((with_reducible apply Mv.below); rotate_left; (with_reducible assumption)) | ((with_reducible apply Mv.trans); rotate_left; (with_reducible assumption))))) (rFAdd _ _ b _ _ (by omega) (by omega) (by omega) (by omega))).mono ?_); rintro e w1 ⟨rfl, hM, HM⟩))
  all_goals go_wp2
  all_goals go_ret
  all_goals exact ⟨rfl, Mv.cast (by (repeat (first | with_reducible assumption | with_reducible exact Mv.refl (by assumption) (by assumption) | with_reducible apply Mv.alloc | with_reducible apply Mv.drew | with_reducible apply Mv.drewN | ((with_reducible apply Mv.setCell); rotate_left; (first | (dsimp only; omega) | omega | (simp; omega)); (first | (dsimp only; omega) | omega | (simp; omega))) | ((with_reducible apply Mv.below); rotate_left; (with_reducible assumption)) | ((with_reducible apply Mv.trans); rotate_left; (with_reducible assumption))))) (by simp only [Bool.not_and, Bool.or_assoc, Bool.or_left_comm, Bool.or_comm])⟩
end Go.Proofs.Ytjpkkpflamkjkaa
