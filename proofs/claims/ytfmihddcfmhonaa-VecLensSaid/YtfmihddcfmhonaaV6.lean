/- Contracts of vec's lengths and directions, and of the document's. -/
import Derived.Test.YtfmihddcfmhonaaU0
import Derived.Test.YtfmihddcfmhonaaV5
namespace Go.Proofs.Ytfmihddcfmhonaa
open Go.RowKit
/-- What lies across a direction. -/
def al (a n d : Int) : Int := sat (a - sat (rsh (n * d)))
def alok (a n d : Int) : Bool := fx (rsh (n * d)) && fx (a - sat (rsh (n * d)))
set_option maxHeartbeats 2000000 in
theorem cVLen (x0 x1 x2 : Int) (b : Nat) (o : Bool) (w : World) (x0_0 : -9223372036854775808 ≤ x0) (x0_1 : x0 ≤ 9223372036854775807) (x1_0 : -9223372036854775808 ≤ x1) (x1_1 : x1 ≤ 9223372036854775807) (x2_0 : -9223372036854775808 ≤ x2) (x2_1 : x2 ≤ 9223372036854775807) (hc : w.cell? ⟨b, 0, none⟩ = some (.bool o)) (hf : w.frozen? ⟨b, 0, none⟩ = false) :
    Calls Try.prog 30 #[.pointer (some ⟨b, 0, none⟩), .agg #[.int .i64 x0, .int .i64 x1, .int .i64 x2]] w fun e w' =>
      e = .returned (.int .i64 (ln (x0 * x0 + x1 * x1 + x2 * x2))) ∧ Mv b (o || !lnok (x0 * x0 + x1 * x1 + x2 * x2)) w w' := by
  have k1 := fun O W => cLen3 x0 x1 x2 b O W x0_0 x0_1 x1_0 x1_1 x2_0 x2_1
  generalize ln (x0 * x0 + x1 * x1 + x2 * x2) = n at *
  generalize lnok (x0 * x0 + x1 * x1 + x2 * x2) = p at *
  have hb := lt_of_cell hc
  have HM := Mv.refl hc hf
  clear hc hf
  go_enter Try.func30, Try.ntmps30
  go_wp2_with ((go_at_call 52; (with_reducible refine (mvCall (b := b) (w0 := w) (by (repeat (first | with_reducible assumption | with_reducible exact Mv.refl (by assumption) (by assumption) | with_reducible apply Mv.alloc | with_reducible apply Mv.drew | with_reducible apply Mv.drewN | ((with_reducible apply Mv.setCell); rotate_left; (first | (dsimp only; omega) | omega | (simp; omega)); (first | (dsimp only; omega) | omega | (simp; omega))) | ((with_reducible apply Mv.below); rotate_left; (with_reducible assumption)) | ((with_reducible apply Mv.trans); rotate_left; (with_reducible assumption))))) (k1 _ _)).mono ?_); rintro e w1 ⟨rfl, hM, HM⟩))
  go_ret
  exact ⟨rfl, by (repeat (first | with_reducible assumption | with_reducible exact Mv.refl (by assumption) (by assumption) | with_reducible apply Mv.alloc | with_reducible apply Mv.drew | with_reducible apply Mv.drewN | ((with_reducible apply Mv.setCell); rotate_left; (first | (dsimp only; omega) | omega | (simp; omega)); (first | (dsimp only; omega) | omega | (simp; omega))) | ((with_reducible apply Mv.below); rotate_left; (with_reducible assumption)) | ((with_reducible apply Mv.trans); rotate_left; (with_reducible assumption))))⟩
set_option maxHeartbeats 2000000 in
theorem cVUnit (x0 x1 x2 : Int) (b : Nat) (o : Bool) (w : World) (x0_0 : -9223372036854775808 ≤ x0) (x0_1 : x0 ≤ 9223372036854775807) (x1_0 : -9223372036854775808 ≤ x1) (x1_1 : x1 ≤ 9223372036854775807) (x2_0 : -9223372036854775808 ≤ x2) (x2_1 : x2 ≤ 9223372036854775807) (hc : w.cell? ⟨b, 0, none⟩ = some (.bool o)) (hf : w.frozen? ⟨b, 0, none⟩ = false) :
    Calls Try.prog 28 #[.pointer (some ⟨b, 0, none⟩), .agg #[.int .i64 x0, .int .i64 x1, .int .i64 x2]] w fun e w' =>
      e = .returned (.tuple #[.agg #[.int .i64 (uq x0 (ln (x0 * x0 + x1 * x1 + x2 * x2))), .int .i64 (uq x1 (ln (x0 * x0 + x1 * x1 + x2 * x2))), .int .i64 (uq x2 (ln (x0 * x0 + x1 * x1 + x2 * x2)))], .bool (!decide (ln (x0 * x0 + x1 * x1 + x2 * x2) = 0))]) ∧
        Mv b (o || !lnok (x0 * x0 + x1 * x1 + x2 * x2) || !uok x0 (ln (x0 * x0 + x1 * x1 + x2 * x2)) || !uok x1 (ln (x0 * x0 + x1 * x1 + x2 * x2)) || !uok x2 (ln (x0 * x0 + x1 * x1 + x2 * x2))) w w' := by
  have k1 := fun O W => cUnit3 x0 x1 x2 b O W x0_0 x0_1 x1_0 x1_1 x2_0 x2_1
  generalize ln (x0 * x0 + x1 * x1 + x2 * x2) = n at *
  generalize lnok (x0 * x0 + x1 * x1 + x2 * x2) = p at *
  generalize uq x0 n = p1 at *
  generalize uq x1 n = p2 at *
  generalize uq x2 n = p3 at *
  generalize uok x0 n = p4 at *
  generalize uok x1 n = p5 at *
  generalize uok x2 n = p6 at *
  generalize (!decide (n = 0)) = t1 at *
  have hb := lt_of_cell hc
  have HM := Mv.refl hc hf
  clear hc hf
  go_enter Try.func28, Try.ntmps28
  go_wp2_with ((go_at_call 50; (with_reducible refine (mvCall (b := b) (w0 := w) (by (repeat (first | with_reducible assumption | with_reducible exact Mv.refl (by assumption) (by assumption) | with_reducible apply Mv.alloc | with_reducible apply Mv.drew | with_reducible apply Mv.drewN | ((with_reducible apply Mv.setCell); rotate_left; (first | (dsimp only; omega) | omega | (simp; omega)); (first | (dsimp only; omega) | omega | (simp; omega))) | ((with_reducible apply Mv.below); rotate_left; (with_reducible assumption)) | ((with_reducible apply Mv.trans); rotate_left; (with_reducible assumption))))) (k1 _ _)).mono ?_); rintro e w1 ⟨rfl, hM, HM⟩; have hr := mv_cell (a := ⟨w.heap.size + 1, 0, none⟩) (v := .int .i64 0) hM (by first | (dsimp only; omega) | (simp; omega)) (by first | assumption | (simp (maxDischargeDepth := 6) [go_sem, *]; done)); have hg := mv_frozen (a := ⟨w.heap.size + 1, 0, none⟩) (v := .int .i64 0) hM (by first | (dsimp only; omega) | (simp; omega)) (by first | assumption | (simp (maxDischargeDepth := 6) [go_sem, *]; done)) (by first | assumption | (simp (maxDischargeDepth := 6) [go_sem, *]; done)); have hr := mv_cell (a := ⟨w.heap.size + 1, 1, none⟩) (v := .int .i64 0) hM (by first | (dsimp only; omega) | (simp; omega)) (by first | assumption | (simp (maxDischargeDepth := 6) [go_sem, *]; done)); have hg := mv_frozen (a := ⟨w.heap.size + 1, 1, none⟩) (v := .int .i64 0) hM (by first | (dsimp only; omega) | (simp; omega)) (by first | assumption | (simp (maxDischargeDepth := 6) [go_sem, *]; done)) (by first | assumption | (simp (maxDischargeDepth := 6) [go_sem, *]; done)); have hr := mv_cell (a := ⟨w.heap.size + 1, 2, none⟩) (v := .int .i64 0) hM (by first | (dsimp only; omega) | (simp; omega)) (by first | assumption | (simp (maxDischargeDepth := 6) [go_sem, *]; done)); have hg := mv_frozen (a := ⟨w.heap.size + 1, 2, none⟩) (v := .int .i64 0) hM (by first | (dsimp only; omega) | (simp; omega)) (by first | assumption | (simp (maxDischargeDepth := 6) [go_sem, *]; done)) (by first | assumption | (simp (maxDischargeDepth := 6) [go_sem, *]; done))))
  all_goals go_wp2
  all_goals (simp (maxDischargeDepth := 8) [bodyPost, results, Try.results28, go_sem, *])
  all_goals (repeat (first | with_reducible assumption | with_reducible exact Mv.refl (by assumption) (by assumption) | with_reducible apply Mv.alloc | with_reducible apply Mv.drew | with_reducible apply Mv.drewN | ((with_reducible apply Mv.setCell); rotate_left; (first | (dsimp only; omega) | omega | (simp; omega)); (first | (dsimp only; omega) | omega | (simp; omega))) | ((with_reducible apply Mv.below); rotate_left; (with_reducible assumption)) | ((with_reducible apply Mv.trans); rotate_left; (with_reducible assumption))))
set_option maxHeartbeats 4000000 in
theorem cVAlong (x0 x1 x2 y0 y1 y2 : Int) (b : Nat) (o : Bool) (w : World) (x0_0 : -9223372036854775808 ≤ x0) (x0_1 : x0 ≤ 9223372036854775807) (x1_0 : -9223372036854775808 ≤ x1) (x1_1 : x1 ≤ 9223372036854775807) (x2_0 : -9223372036854775808 ≤ x2) (x2_1 : x2 ≤ 9223372036854775807) (y0_0 : -9223372036854775808 ≤ y0) (y0_1 : y0 ≤ 9223372036854775807) (y1_0 : -9223372036854775808 ≤ y1) (y1_1 : y1 ≤ 9223372036854775807) (y2_0 : -9223372036854775808 ≤ y2) (y2_1 : y2 ≤ 9223372036854775807) (hc : w.cell? ⟨b, 0, none⟩ = some (.bool o)) (hf : w.frozen? ⟨b, 0, none⟩ = false) :
    Calls Try.prog 32 #[.pointer (some ⟨b, 0, none⟩), .agg #[.int .i64 x0, .int .i64 x1, .int .i64 x2], .agg #[.int .i64 y0, .int .i64 y1, .int .i64 y2]] w fun e w' =>
      e = .returned (.agg #[.int .i64 (al x0 y0 (dt x0 x1 x2 y0 y1 y2)), .int .i64 (al x1 y1 (dt x0 x1 x2 y0 y1 y2)), .int .i64 (al x2 y2 (dt x0 x1 x2 y0 y1 y2))]) ∧
        Mv b (o || !dtok x0 x1 x2 y0 y1 y2 || !(alok x0 y0 (dt x0 x1 x2 y0 y1 y2) && alok x1 y1 (dt x0 x1 x2 y0 y1 y2) && alok x2 y2 (dt x0 x1 x2 y0 y1 y2))) w w' := by
  have k1 := fun O W => cVDot x0 x1 x2 y0 y1 y2 b O W x0_0 x0_1 x1_0 x1_1 x2_0 x2_1 y0_0 y0_1 y1_0 y1_1 y2_0 y2_1
  have d0 : -9223372036854775808 ≤ dt x0 x1 x2 y0 y1 y2 := by unfold dt; exact sat_lo _
  have d1 : dt x0 x1 x2 y0 y1 y2 ≤ 9223372036854775807 := by unfold dt; exact sat_hi _
  generalize dt x0 x1 x2 y0 y1 y2 = d at *
  generalize dtok x0 x1 x2 y0 y1 y2 = p at *
  have k2 := fun O W => cVScale y0 y1 y2 d b O W y0_0 y0_1 y1_0 y1_1 y2_0 y2_1 d0 d1
  unfold al alok
  generalize rsh (y0 * d) = r0 at *
  generalize rsh (y1 * d) = r1 at *
  generalize rsh (y2 * d) = r2 at *
  have s0 := sat_lo r0; have s0' := sat_hi r0; have s1 := sat_lo r1; have s1' := sat_hi r1; have s2 := sat_lo r2; have s2' := sat_hi r2
  have k3 := fun O W => cVSub x0 x1 x2 (sat r0) (sat r1) (sat r2) b O W x0_0 x0_1 x1_0 x1_1 x2_0 x2_1 s0 s0' s1 s1' s2 s2'
  have hb := lt_of_cell hc
  have HM := Mv.refl hc hf
  clear hc hf
  go_enter Try.func32, Try.ntmps32
  go_upto_region 1 with (fail)
  (try refine wp_region_noPanic ?_)
  refine wp_region_held_drew (S := (fun (w' : World) => w'.cell? ⟨w.heap.size, 0, none⟩ = some (.int .i64 x0) ∧ w'.cell? ⟨w.heap.size, 1, none⟩ = some (.int .i64 x1) ∧ w'.cell? ⟨w.heap.size, 2, none⟩ = some (.int .i64 x2) ∧ w'.cell? ⟨w.heap.size + 1, 0, none⟩ = some (.int .i64 y0) ∧ w'.cell? ⟨w.heap.size + 1, 1, none⟩ = some (.int .i64 y1) ∧ w'.cell? ⟨w.heap.size + 1, 2, none⟩ = some (.int .i64 y2))) (by kernel_rfl) ⟨(by first | (simp (maxDischargeDepth := 6) [go_sem, *]; done)), (by first | (simp (maxDischargeDepth := 6) [go_sem, *]; done)), (by first | (simp (maxDischargeDepth := 6) [go_sem, *]; done)), (by first | (simp (maxDischargeDepth := 6) [go_sem, *]; done)), (by first | (simp (maxDischargeDepth := 6) [go_sem, *]; done)), (by first | (simp (maxDischargeDepth := 6) [go_sem, *]; done))⟩ (fun hHeld => ?_)
  refine wpAnyH_take (i := 0) (v := ?_) (by simp only [List.getElem?_toArray, List.getElem?_cons_succ, List.getElem?_cons_zero]; rfl) (by kernel_rfl) (by kernel_rfl) (by kernel_rfl) (fun _ _ _ h => h) (Or.inl ⟨by rfl, ?_⟩) (by assumption) ?_
  rotate_left
  · intro w hSw; (try dsimp only at hSw); go_simp; try with_reducible rfl
  try simp only [Act.put, List.setIfInBounds_toArray, List.set_cons_zero, List.set_cons_succ]
  refine wpAnyH_take (i := 2) (v := ?_) (by simp only [List.getElem?_toArray, List.getElem?_cons_succ, List.getElem?_cons_zero]; rfl) (by kernel_rfl) (by kernel_rfl) (by kernel_rfl) (fun _ _ _ h => h) (Or.inl ⟨by rfl, ?_⟩) (by assumption) ?_
  rotate_left
  · intro w hSw; (try dsimp only at hSw); go_simp; try with_reducible rfl
  try simp only [Act.put, List.setIfInBounds_toArray, List.set_cons_zero, List.set_cons_succ]
  refine wpAnyH_take (i := 4) (v := ?_) (by simp only [List.getElem?_toArray, List.getElem?_cons_succ, List.getElem?_cons_zero]; rfl) (by kernel_rfl) (by kernel_rfl) (by kernel_rfl) (fun _ _ _ h => h) (Or.inl ⟨by rfl, ?_⟩) (by assumption) ?_
  rotate_left
  · intro w hSw; (try dsimp only at hSw); go_simp; try with_reducible rfl
  try simp only [Act.put, List.setIfInBounds_toArray, List.set_cons_zero, List.set_cons_succ]
  refine wpAnyH_take (i := 1) (v := ?_) (by simp only [List.getElem?_toArray, List.getElem?_cons_succ, List.getElem?_cons_zero]; rfl) (by kernel_rfl) (by kernel_rfl) (by kernel_rfl) (fun _ _ _ h => h) (Or.inl ⟨by rfl, ?_⟩) (by assumption) ?_
  rotate_left
  · intro w hSw; (try dsimp only at hSw); go_simp; try with_reducible rfl
  try simp only [Act.put, List.setIfInBounds_toArray, List.set_cons_zero, List.set_cons_succ]
  refine wpAnyH_take (i := 3) (v := ?_) (by simp only [List.getElem?_toArray, List.getElem?_cons_succ, List.getElem?_cons_zero]; rfl) (by kernel_rfl) (by kernel_rfl) (by kernel_rfl) (fun _ _ _ h => h) (Or.inl ⟨by rfl, ?_⟩) (by assumption) ?_
  rotate_left
  · intro w hSw; (try dsimp only at hSw); go_simp; try with_reducible rfl
  try simp only [Act.put, List.setIfInBounds_toArray, List.set_cons_zero, List.set_cons_succ]
  refine wpAnyH_take (i := 5) (v := ?_) (by simp only [List.getElem?_toArray, List.getElem?_cons_succ, List.getElem?_cons_zero]; rfl) (by kernel_rfl) (by kernel_rfl) (by kernel_rfl) (fun _ _ _ h => h) (Or.inl ⟨by rfl, ?_⟩) (by assumption) ?_
  rotate_left
  · intro w hSw; (try dsimp only at hSw); go_simp; try with_reducible rfl
  try simp only [Act.put, List.setIfInBounds_toArray, List.set_cons_zero, List.set_cons_succ]
  refine wpAnyH_take (i := 6) (v := ?_) (by simp only [List.getElem?_toArray, List.getElem?_cons_succ, List.getElem?_cons_zero]; rfl) (by kernel_rfl) (by kernel_rfl) (by kernel_rfl) (fun _ _ _ h => h) (Or.inl ⟨by rfl, ?_⟩) (by assumption) ?_
  rotate_left
  · intro w hSw; (try dsimp only at hSw); go_simp; try with_reducible rfl
  try simp only [Act.put, List.setIfInBounds_toArray, List.set_cons_zero, List.set_cons_succ]
  have hOld := hHeld; clear hHeld
  refine wpAnyH_ready (rs := [7]) (by kernel_rfl) (by simp) (AllReadyH.cons rfl (fun K hK => ?_) AllReadyH.nil)
  go_simp
  (go_at_call 8; (with_reducible refine (mvCall (b := b) (w0 := w) (by (repeat (first | with_reducible assumption | with_reducible exact Mv.refl (by assumption) (by assumption) | with_reducible apply Mv.alloc | with_reducible apply Mv.drew | with_reducible apply Mv.drewN | ((with_reducible apply Mv.setCell); rotate_left; (first | (dsimp only; omega) | omega | (simp; omega)); (first | (dsimp only; omega) | omega | (simp; omega))) | ((with_reducible apply Mv.below); rotate_left; (with_reducible assumption)) | ((with_reducible apply Mv.trans); rotate_left; (with_reducible assumption))))) (k1 _ _)).mono ?_); rintro e w1 ⟨rfl, hM, HM⟩; have hr := mv_cell (a := ⟨w.heap.size + 1 + 1, 0, none⟩) (v := .int .i64 0) hM (by first | (dsimp only; omega) | (simp; omega)) (by first | assumption | (simp (maxDischargeDepth := 6) [go_sem, *]; done)); have hg := mv_frozen (a := ⟨w.heap.size + 1 + 1, 0, none⟩) (v := .int .i64 0) hM (by first | (dsimp only; omega) | (simp; omega)) (by first | assumption | (simp (maxDischargeDepth := 6) [go_sem, *]; done)) (by first | assumption | (simp (maxDischargeDepth := 6) [go_sem, *]; done)); have hr := mv_cell (a := ⟨w.heap.size + 1 + 1, 1, none⟩) (v := .int .i64 0) hM (by first | (dsimp only; omega) | (simp; omega)) (by first | assumption | (simp (maxDischargeDepth := 6) [go_sem, *]; done)); have hg := mv_frozen (a := ⟨w.heap.size + 1 + 1, 1, none⟩) (v := .int .i64 0) hM (by first | (dsimp only; omega) | (simp; omega)) (by first | assumption | (simp (maxDischargeDepth := 6) [go_sem, *]; done)) (by first | assumption | (simp (maxDischargeDepth := 6) [go_sem, *]; done)); have hr := mv_cell (a := ⟨w.heap.size + 1 + 1, 2, none⟩) (v := .int .i64 0) hM (by first | (dsimp only; omega) | (simp; omega)) (by first | assumption | (simp (maxDischargeDepth := 6) [go_sem, *]; done)); have hg := mv_frozen (a := ⟨w.heap.size + 1 + 1, 2, none⟩) (v := .int .i64 0) hM (by first | (dsimp only; omega) | (simp; omega)) (by first | assumption | (simp (maxDischargeDepth := 6) [go_sem, *]; done)) (by first | assumption | (simp (maxDischargeDepth := 6) [go_sem, *]; done)))
  (try go_wp2_with (fail))
  refine hK.out _ _ ⟨(by first | exact mv_cell hM (by first | (dsimp only; omega) | (simp; omega)) hOld.1 | exact cell_later hM hOld.1 | exact HT.cb | exact HT.cc | (simp (maxDischargeDepth := 6) [go_sem, *]; done)), (by first | exact mv_cell hM (by first | (dsimp only; omega) | (simp; omega)) hOld.2.1 | exact cell_later hM hOld.2.1 | exact HT.cb | exact HT.cc | (simp (maxDischargeDepth := 6) [go_sem, *]; done)), (by first | exact mv_cell hM (by first | (dsimp only; omega) | (simp; omega)) hOld.2.2.1 | exact cell_later hM hOld.2.2.1 | exact HT.cb | exact HT.cc | (simp (maxDischargeDepth := 6) [go_sem, *]; done)), (by first | exact mv_cell hM (by first | (dsimp only; omega) | (simp; omega)) hOld.2.2.2.1 | exact cell_later hM hOld.2.2.2.1 | exact HT.cb | exact HT.cc | (simp (maxDischargeDepth := 6) [go_sem, *]; done)), (by first | exact mv_cell hM (by first | (dsimp only; omega) | (simp; omega)) hOld.2.2.2.2.1 | exact cell_later hM hOld.2.2.2.2.1 | exact HT.cb | exact HT.cc | (simp (maxDischargeDepth := 6) [go_sem, *]; done)), (by first | exact mv_cell hM (by first | (dsimp only; omega) | (simp; omega)) hOld.2.2.2.2.2 | exact cell_later hM hOld.2.2.2.2.2 | exact HT.cb | exact HT.cc | (simp (maxDischargeDepth := 6) [go_sem, *]; done))⟩ (fun hHeld => ?_)
  clear hK K hOld
  try simp only [Act.put, List.setIfInBounds_toArray, List.set_cons_zero, List.set_cons_succ]
  have hOld := hHeld; clear hHeld
  refine wpAnyH_ready (rs := [8]) (by kernel_rfl) (by simp) (AllReadyH.cons rfl (fun K hK => ?_) AllReadyH.nil)
  go_simp
  (go_at_call 21; (with_reducible refine (mvCall (b := b) (w0 := w) (by (repeat (first | with_reducible assumption | with_reducible exact Mv.refl (by assumption) (by assumption) | with_reducible apply Mv.alloc | with_reducible apply Mv.drew | with_reducible apply Mv.drewN | ((with_reducible apply Mv.setCell); rotate_left; (first | (dsimp only; omega) | omega | (simp; omega)); (first | (dsimp only; omega) | omega | (simp; omega))) | ((with_reducible apply Mv.below); rotate_left; (with_reducible assumption)) | ((with_reducible apply Mv.trans); rotate_left; (with_reducible assumption))))) (k2 _ _)).mono ?_); rintro e w1 ⟨rfl, hM, HM⟩; have hr := mv_cell (a := ⟨w.heap.size + 1 + 1, 0, none⟩) (v := .int .i64 0) hM (by first | (dsimp only; omega) | (simp; omega)) (by first | assumption | (simp (maxDischargeDepth := 6) [go_sem, *]; done)); have hg := mv_frozen (a := ⟨w.heap.size + 1 + 1, 0, none⟩) (v := .int .i64 0) hM (by first | (dsimp only; omega) | (simp; omega)) (by first | assumption | (simp (maxDischargeDepth := 6) [go_sem, *]; done)) (by first | assumption | (simp (maxDischargeDepth := 6) [go_sem, *]; done)); have hr := mv_cell (a := ⟨w.heap.size + 1 + 1, 1, none⟩) (v := .int .i64 0) hM (by first | (dsimp only; omega) | (simp; omega)) (by first | assumption | (simp (maxDischargeDepth := 6) [go_sem, *]; done)); have hg := mv_frozen (a := ⟨w.heap.size + 1 + 1, 1, none⟩) (v := .int .i64 0) hM (by first | (dsimp only; omega) | (simp; omega)) (by first | assumption | (simp (maxDischargeDepth := 6) [go_sem, *]; done)) (by first | assumption | (simp (maxDischargeDepth := 6) [go_sem, *]; done)); have hr := mv_cell (a := ⟨w.heap.size + 1 + 1, 2, none⟩) (v := .int .i64 0) hM (by first | (dsimp only; omega) | (simp; omega)) (by first | assumption | (simp (maxDischargeDepth := 6) [go_sem, *]; done)); have hg := mv_frozen (a := ⟨w.heap.size + 1 + 1, 2, none⟩) (v := .int .i64 0) hM (by first | (dsimp only; omega) | (simp; omega)) (by first | assumption | (simp (maxDischargeDepth := 6) [go_sem, *]; done)) (by first | assumption | (simp (maxDischargeDepth := 6) [go_sem, *]; done)))
  (try go_wp2_with (fail))
  refine hK.out _ _ ⟨(by first | exact mv_cell hM (by first | (dsimp only; omega) | (simp; omega)) hOld.1 | exact cell_later hM hOld.1 | exact HT.cb | exact HT.cc | (simp (maxDischargeDepth := 6) [go_sem, *]; done)), (by first | exact mv_cell hM (by first | (dsimp only; omega) | (simp; omega)) hOld.2.1 | exact cell_later hM hOld.2.1 | exact HT.cb | exact HT.cc | (simp (maxDischargeDepth := 6) [go_sem, *]; done)), (by first | exact mv_cell hM (by first | (dsimp only; omega) | (simp; omega)) hOld.2.2.1 | exact cell_later hM hOld.2.2.1 | exact HT.cb | exact HT.cc | (simp (maxDischargeDepth := 6) [go_sem, *]; done)), (by first | exact mv_cell hM (by first | (dsimp only; omega) | (simp; omega)) hOld.2.2.2.1 | exact cell_later hM hOld.2.2.2.1 | exact HT.cb | exact HT.cc | (simp (maxDischargeDepth := 6) [go_sem, *]; done)), (by first | exact mv_cell hM (by first | (dsimp only; omega) | (simp; omega)) hOld.2.2.2.2.1 | exact cell_later hM hOld.2.2.2.2.1 | exact HT.cb | exact HT.cc | (simp (maxDischargeDepth := 6) [go_sem, *]; done)), (by first | exact mv_cell hM (by first | (dsimp only; omega) | (simp; omega)) hOld.2.2.2.2.2 | exact cell_later hM hOld.2.2.2.2.2 | exact HT.cb | exact HT.cc | (simp (maxDischargeDepth := 6) [go_sem, *]; done))⟩ (fun hHeld => ?_)
  clear hK K hOld
  try simp only [Act.put, List.setIfInBounds_toArray, List.set_cons_zero, List.set_cons_succ]
  have hOld := hHeld; clear hHeld
  refine wpAnyH_ready (rs := [9]) (by kernel_rfl) (by simp) (AllReadyH.cons rfl (fun K hK => ?_) AllReadyH.nil)
  go_simp
  (go_at_call 15; (with_reducible refine (mvCall (b := b) (w0 := w) (by (repeat (first | with_reducible assumption | with_reducible exact Mv.refl (by assumption) (by assumption) | with_reducible apply Mv.alloc | with_reducible apply Mv.drew | with_reducible apply Mv.drewN | ((with_reducible apply Mv.setCell); rotate_left; (first | (dsimp only; omega) | omega | (simp; omega)); (first | (dsimp only; omega) | omega | (simp; omega))) | ((with_reducible apply Mv.below); rotate_left; (with_reducible assumption)) | ((with_reducible apply Mv.trans); rotate_left; (with_reducible assumption))))) (k3 _ _)).mono ?_); rintro e w1 ⟨rfl, hM, HM⟩; have hr := mv_cell (a := ⟨w.heap.size + 1 + 1, 0, none⟩) (v := .int .i64 0) hM (by first | (dsimp only; omega) | (simp; omega)) (by first | assumption | (simp (maxDischargeDepth := 6) [go_sem, *]; done)); have hg := mv_frozen (a := ⟨w.heap.size + 1 + 1, 0, none⟩) (v := .int .i64 0) hM (by first | (dsimp only; omega) | (simp; omega)) (by first | assumption | (simp (maxDischargeDepth := 6) [go_sem, *]; done)) (by first | assumption | (simp (maxDischargeDepth := 6) [go_sem, *]; done)); have hr := mv_cell (a := ⟨w.heap.size + 1 + 1, 1, none⟩) (v := .int .i64 0) hM (by first | (dsimp only; omega) | (simp; omega)) (by first | assumption | (simp (maxDischargeDepth := 6) [go_sem, *]; done)); have hg := mv_frozen (a := ⟨w.heap.size + 1 + 1, 1, none⟩) (v := .int .i64 0) hM (by first | (dsimp only; omega) | (simp; omega)) (by first | assumption | (simp (maxDischargeDepth := 6) [go_sem, *]; done)) (by first | assumption | (simp (maxDischargeDepth := 6) [go_sem, *]; done)); have hr := mv_cell (a := ⟨w.heap.size + 1 + 1, 2, none⟩) (v := .int .i64 0) hM (by first | (dsimp only; omega) | (simp; omega)) (by first | assumption | (simp (maxDischargeDepth := 6) [go_sem, *]; done)); have hg := mv_frozen (a := ⟨w.heap.size + 1 + 1, 2, none⟩) (v := .int .i64 0) hM (by first | (dsimp only; omega) | (simp; omega)) (by first | assumption | (simp (maxDischargeDepth := 6) [go_sem, *]; done)) (by first | assumption | (simp (maxDischargeDepth := 6) [go_sem, *]; done)))
  (try go_wp2_with (fail))
  refine hK.out _ _ ⟨(by first | exact mv_cell hM (by first | (dsimp only; omega) | (simp; omega)) hOld.1 | exact cell_later hM hOld.1 | exact HT.cb | exact HT.cc | (simp (maxDischargeDepth := 6) [go_sem, *]; done)), (by first | exact mv_cell hM (by first | (dsimp only; omega) | (simp; omega)) hOld.2.1 | exact cell_later hM hOld.2.1 | exact HT.cb | exact HT.cc | (simp (maxDischargeDepth := 6) [go_sem, *]; done)), (by first | exact mv_cell hM (by first | (dsimp only; omega) | (simp; omega)) hOld.2.2.1 | exact cell_later hM hOld.2.2.1 | exact HT.cb | exact HT.cc | (simp (maxDischargeDepth := 6) [go_sem, *]; done)), (by first | exact mv_cell hM (by first | (dsimp only; omega) | (simp; omega)) hOld.2.2.2.1 | exact cell_later hM hOld.2.2.2.1 | exact HT.cb | exact HT.cc | (simp (maxDischargeDepth := 6) [go_sem, *]; done)), (by first | exact mv_cell hM (by first | (dsimp only; omega) | (simp; omega)) hOld.2.2.2.2.1 | exact cell_later hM hOld.2.2.2.2.1 | exact HT.cb | exact HT.cc | (simp (maxDischargeDepth := 6) [go_sem, *]; done)), (by first | exact mv_cell hM (by first | (dsimp only; omega) | (simp; omega)) hOld.2.2.2.2.2 | exact cell_later hM hOld.2.2.2.2.2 | exact HT.cb | exact HT.cc | (simp (maxDischargeDepth := 6) [go_sem, *]; done))⟩ (fun hHeld => ?_)
  clear hK K hOld
  try simp only [Act.put, List.setIfInBounds_toArray, List.set_cons_zero, List.set_cons_succ]
  have hOld := hHeld; clear hHeld
  refine wpAnyH_ready (rs := [10]) (by kernel_rfl) (by simp) (AllReadyH.cons rfl (fun K hK => ?_) AllReadyH.nil)
  go_simp
  (try go_wp2_with (fail))
  refine hK.out _ _ ⟨(by first | exact mv_cell hM (by first | (dsimp only; omega) | (simp; omega)) hOld.1 | exact cell_later hM hOld.1 | exact HT.cb | exact HT.cc | (simp (maxDischargeDepth := 6) [go_sem, *]; done)), (by first | exact mv_cell hM (by first | (dsimp only; omega) | (simp; omega)) hOld.2.1 | exact cell_later hM hOld.2.1 | exact HT.cb | exact HT.cc | (simp (maxDischargeDepth := 6) [go_sem, *]; done)), (by first | exact mv_cell hM (by first | (dsimp only; omega) | (simp; omega)) hOld.2.2.1 | exact cell_later hM hOld.2.2.1 | exact HT.cb | exact HT.cc | (simp (maxDischargeDepth := 6) [go_sem, *]; done)), (by first | exact mv_cell hM (by first | (dsimp only; omega) | (simp; omega)) hOld.2.2.2.1 | exact cell_later hM hOld.2.2.2.1 | exact HT.cb | exact HT.cc | (simp (maxDischargeDepth := 6) [go_sem, *]; done)), (by first | exact mv_cell hM (by first | (dsimp only; omega) | (simp; omega)) hOld.2.2.2.2.1 | exact cell_later hM hOld.2.2.2.2.1 | exact HT.cb | exact HT.cc | (simp (maxDischargeDepth := 6) [go_sem, *]; done)), (by first | exact mv_cell hM (by first | (dsimp only; omega) | (simp; omega)) hOld.2.2.2.2.2 | exact cell_later hM hOld.2.2.2.2.2 | exact HT.cb | exact HT.cc | (simp (maxDischargeDepth := 6) [go_sem, *]; done))⟩ (fun hHeld => ?_)
  clear hK K hOld
  try simp only [Act.put, List.setIfInBounds_toArray, List.set_cons_zero, List.set_cons_succ]
  refine wpAnyH_done (by kernel_rfl) ?_ _
  (try refine NoPanic.normal ?_)
  (try clear q0); (try clear q1); (try clear q2); (try clear q3); (try clear q4); (try clear q5); obtain ⟨q0, q1, q2, q3, q4, q5⟩ := hHeld
  all_goals go_wp2
  all_goals (simp (maxDischargeDepth := 8) [bodyPost, results, Try.results32, go_sem, *])
  all_goals exact Mv.cast (by (repeat (first | with_reducible assumption | with_reducible exact Mv.refl (by assumption) (by assumption) | with_reducible apply Mv.alloc | with_reducible apply Mv.drew | with_reducible apply Mv.drewN | ((with_reducible apply Mv.setCell); rotate_left; (first | (dsimp only; omega) | omega | (simp; omega)); (first | (dsimp only; omega) | omega | (simp; omega))) | ((with_reducible apply Mv.below); rotate_left; (with_reducible assumption)) | ((with_reducible apply Mv.trans); rotate_left; (with_reducible assumption))))) (by simp only [Bool.not_and, Bool.or_assoc, Bool.or_left_comm, Bool.or_comm])
set_option maxHeartbeats 2000000 in
theorem rVLen (x0 x1 x2 : Int) (b : Nat) (o : Bool) (w : World) (x0_0 : -9223372036854775808 ≤ x0) (x0_1 : x0 ≤ 9223372036854775807) (x1_0 : -9223372036854775808 ≤ x1) (x1_1 : x1 ≤ 9223372036854775807) (x2_0 : -9223372036854775808 ≤ x2) (x2_1 : x2 ≤ 9223372036854775807) (hc : w.cell? ⟨b, 0, none⟩ = some (.bool o)) (hf : w.frozen? ⟨b, 0, none⟩ = false) :
    Calls Try.prog 31 #[.pointer (some ⟨b, 0, none⟩), .agg #[.int .i64 x0, .int .i64 x1, .int .i64 x2]] w fun e w' =>
      e = .returned (.int .i64 (ln (x0 * x0 + x1 * x1 + x2 * x2))) ∧ Mv b (o || !lnok (x0 * x0 + x1 * x1 + x2 * x2)) w w' := by
  have k1 := fun O W => c3Len3 x0 x1 x2 b O W x0_0 x0_1 x1_0 x1_1 x2_0 x2_1
  generalize ln (x0 * x0 + x1 * x1 + x2 * x2) = n at *
  generalize lnok (x0 * x0 + x1 * x1 + x2 * x2) = p at *
  have hb := lt_of_cell hc
  have HM := Mv.refl hc hf
  clear hc hf
  go_enter Try.func31, Try.ntmps31
  go_wp2_with ((go_at_call 53; (with_reducible refine (mvCall (b := b) (w0 := w) (by (repeat (first | with_reducible assumption | with_reducible exact Mv.refl (by assumption) (by assumption) | with_reducible apply Mv.alloc | with_reducible apply Mv.drew | with_reducible apply Mv.drewN | ((with_reducible apply Mv.setCell); rotate_left; (first | (dsimp only; omega) | omega | (simp; omega)); (first | (dsimp only; omega) | omega | (simp; omega))) | ((with_reducible apply Mv.below); rotate_left; (with_reducible assumption)) | ((with_reducible apply Mv.trans); rotate_left; (with_reducible assumption))))) (k1 _ _)).mono ?_); rintro e w1 ⟨rfl, hM, HM⟩))
  go_ret
  exact ⟨rfl, by (repeat (first | with_reducible assumption | with_reducible exact Mv.refl (by assumption) (by assumption) | with_reducible apply Mv.alloc | with_reducible apply Mv.drew | with_reducible apply Mv.drewN | ((with_reducible apply Mv.setCell); rotate_left; (first | (dsimp only; omega) | omega | (simp; omega)); (first | (dsimp only; omega) | omega | (simp; omega))) | ((with_reducible apply Mv.below); rotate_left; (with_reducible assumption)) | ((with_reducible apply Mv.trans); rotate_left; (with_reducible assumption))))⟩
set_option maxHeartbeats 2000000 in
theorem rVUnit (x0 x1 x2 : Int) (b : Nat) (o : Bool) (w : World) (x0_0 : -9223372036854775808 ≤ x0) (x0_1 : x0 ≤ 9223372036854775807) (x1_0 : -9223372036854775808 ≤ x1) (x1_1 : x1 ≤ 9223372036854775807) (x2_0 : -9223372036854775808 ≤ x2) (x2_1 : x2 ≤ 9223372036854775807) (hc : w.cell? ⟨b, 0, none⟩ = some (.bool o)) (hf : w.frozen? ⟨b, 0, none⟩ = false) :
    Calls Try.prog 29 #[.pointer (some ⟨b, 0, none⟩), .agg #[.int .i64 x0, .int .i64 x1, .int .i64 x2]] w fun e w' =>
      e = .returned (.tuple #[.agg #[.int .i64 (uq x0 (ln (x0 * x0 + x1 * x1 + x2 * x2))), .int .i64 (uq x1 (ln (x0 * x0 + x1 * x1 + x2 * x2))), .int .i64 (uq x2 (ln (x0 * x0 + x1 * x1 + x2 * x2)))], .bool (!decide (ln (x0 * x0 + x1 * x1 + x2 * x2) = 0))]) ∧
        Mv b (o || !lnok (x0 * x0 + x1 * x1 + x2 * x2) || !uok x0 (ln (x0 * x0 + x1 * x1 + x2 * x2)) || !uok x1 (ln (x0 * x0 + x1 * x1 + x2 * x2)) || !uok x2 (ln (x0 * x0 + x1 * x1 + x2 * x2))) w w' := by
  have k1 := fun O W => rUnit3 x0 x1 x2 b O W x0_0 x0_1 x1_0 x1_1 x2_0 x2_1
  generalize ln (x0 * x0 + x1 * x1 + x2 * x2) = n at *
  generalize lnok (x0 * x0 + x1 * x1 + x2 * x2) = p at *
  generalize uq x0 n = p1 at *
  generalize uq x1 n = p2 at *
  generalize uq x2 n = p3 at *
  generalize uok x0 n = p4 at *
  generalize uok x1 n = p5 at *
  generalize uok x2 n = p6 at *
  generalize (!decide (n = 0)) = t1 at *
  have hb := lt_of_cell hc
  have HM := Mv.refl hc hf
  clear hc hf
  go_enter Try.func29, Try.ntmps29
  go_wp2_with ((go_at_call 51; (with_reducible refine (mvCall (b := b) (w0 := w) (by (repeat (first | with_reducible assumption | with_reducible exact Mv.refl (by assumption) (by assumption) | with_reducible apply Mv.alloc | with_reducible apply Mv.drew | with_reducible apply Mv.drewN | ((with_reducible apply Mv.setCell); rotate_left; (first | (dsimp only; omega) | omega | (simp; omega)); (first | (dsimp only; omega) | omega | (simp; omega))) | ((with_reducible apply Mv.below); rotate_left; (with_reducible assumption)) | ((with_reducible apply Mv.trans); rotate_left; (with_reducible assumption))))) (k1 _ _)).mono ?_); rintro e w1 ⟨rfl, hM, HM⟩; have hr := mv_cell (a := ⟨w.heap.size + 1, 0, none⟩) (v := .int .i64 0) hM (by first | (dsimp only; omega) | (simp; omega)) (by first | assumption | (simp (maxDischargeDepth := 6) [go_sem, *]; done)); have hg := mv_frozen (a := ⟨w.heap.size + 1, 0, none⟩) (v := .int .i64 0) hM (by first | (dsimp only; omega) | (simp; omega)) (by first | assumption | (simp (maxDischargeDepth := 6) [go_sem, *]; done)) (by first | assumption | (simp (maxDischargeDepth := 6) [go_sem, *]; done)); have hr := mv_cell (a := ⟨w.heap.size + 1, 1, none⟩) (v := .int .i64 0) hM (by first | (dsimp only; omega) | (simp; omega)) (by first | assumption | (simp (maxDischargeDepth := 6) [go_sem, *]; done)); have hg := mv_frozen (a := ⟨w.heap.size + 1, 1, none⟩) (v := .int .i64 0) hM (by first | (dsimp only; omega) | (simp; omega)) (by first | assumption | (simp (maxDischargeDepth := 6) [go_sem, *]; done)) (by first | assumption | (simp (maxDischargeDepth := 6) [go_sem, *]; done)); have hr := mv_cell (a := ⟨w.heap.size + 1, 2, none⟩) (v := .int .i64 0) hM (by first | (dsimp only; omega) | (simp; omega)) (by first | assumption | (simp (maxDischargeDepth := 6) [go_sem, *]; done)); have hg := mv_frozen (a := ⟨w.heap.size + 1, 2, none⟩) (v := .int .i64 0) hM (by first | (dsimp only; omega) | (simp; omega)) (by first | assumption | (simp (maxDischargeDepth := 6) [go_sem, *]; done)) (by first | assumption | (simp (maxDischargeDepth := 6) [go_sem, *]; done))))
  all_goals go_wp2
  all_goals (simp (maxDischargeDepth := 8) [bodyPost, results, Try.results29, go_sem, *])
  all_goals (repeat (first | with_reducible assumption | with_reducible exact Mv.refl (by assumption) (by assumption) | with_reducible apply Mv.alloc | with_reducible apply Mv.drew | with_reducible apply Mv.drewN | ((with_reducible apply Mv.setCell); rotate_left; (first | (dsimp only; omega) | omega | (simp; omega)); (first | (dsimp only; omega) | omega | (simp; omega))) | ((with_reducible apply Mv.below); rotate_left; (with_reducible assumption)) | ((with_reducible apply Mv.trans); rotate_left; (with_reducible assumption))))
set_option maxHeartbeats 4000000 in
theorem rVAlong (x0 x1 x2 y0 y1 y2 : Int) (b : Nat) (o : Bool) (w : World) (x0_0 : -9223372036854775808 ≤ x0) (x0_1 : x0 ≤ 9223372036854775807) (x1_0 : -9223372036854775808 ≤ x1) (x1_1 : x1 ≤ 9223372036854775807) (x2_0 : -9223372036854775808 ≤ x2) (x2_1 : x2 ≤ 9223372036854775807) (y0_0 : -9223372036854775808 ≤ y0) (y0_1 : y0 ≤ 9223372036854775807) (y1_0 : -9223372036854775808 ≤ y1) (y1_1 : y1 ≤ 9223372036854775807) (y2_0 : -9223372036854775808 ≤ y2) (y2_1 : y2 ≤ 9223372036854775807) (hc : w.cell? ⟨b, 0, none⟩ = some (.bool o)) (hf : w.frozen? ⟨b, 0, none⟩ = false) :
    Calls Try.prog 33 #[.pointer (some ⟨b, 0, none⟩), .agg #[.int .i64 x0, .int .i64 x1, .int .i64 x2], .agg #[.int .i64 y0, .int .i64 y1, .int .i64 y2]] w fun e w' =>
      e = .returned (.agg #[.int .i64 (al x0 y0 (dt x0 x1 x2 y0 y1 y2)), .int .i64 (al x1 y1 (dt x0 x1 x2 y0 y1 y2)), .int .i64 (al x2 y2 (dt x0 x1 x2 y0 y1 y2))]) ∧
        Mv b (o || !dtok x0 x1 x2 y0 y1 y2 || !(alok x0 y0 (dt x0 x1 x2 y0 y1 y2) && alok x1 y1 (dt x0 x1 x2 y0 y1 y2) && alok x2 y2 (dt x0 x1 x2 y0 y1 y2))) w w' := by
  have k1 := fun O W => rVDot x0 x1 x2 y0 y1 y2 b O W x0_0 x0_1 x1_0 x1_1 x2_0 x2_1 y0_0 y0_1 y1_0 y1_1 y2_0 y2_1
  have d0 : -9223372036854775808 ≤ dt x0 x1 x2 y0 y1 y2 := by unfold dt; exact sat_lo _
  have d1 : dt x0 x1 x2 y0 y1 y2 ≤ 9223372036854775807 := by unfold dt; exact sat_hi _
  generalize dt x0 x1 x2 y0 y1 y2 = d at *
  generalize dtok x0 x1 x2 y0 y1 y2 = p at *
  have k2 := fun O W => rVScale y0 y1 y2 d b O W y0_0 y0_1 y1_0 y1_1 y2_0 y2_1 d0 d1
  unfold al alok
  generalize rsh (y0 * d) = r0 at *
  generalize rsh (y1 * d) = r1 at *
  generalize rsh (y2 * d) = r2 at *
  have s0 := sat_lo r0; have s0' := sat_hi r0; have s1 := sat_lo r1; have s1' := sat_hi r1; have s2 := sat_lo r2; have s2' := sat_hi r2
  have k3 := fun O W => rVSub x0 x1 x2 (sat r0) (sat r1) (sat r2) b O W x0_0 x0_1 x1_0 x1_1 x2_0 x2_1 s0 s0' s1 s1' s2 s2'
  have hb := lt_of_cell hc
  have HM := Mv.refl hc hf
  clear hc hf
  go_enter Try.func33, Try.ntmps33
  go_upto_region 1 with (fail)
  (try refine wp_region_noPanic ?_)
  refine wp_region_held_drew (S := (fun (w' : World) => w'.cell? ⟨w.heap.size, 0, none⟩ = some (.int .i64 x0) ∧ w'.cell? ⟨w.heap.size, 1, none⟩ = some (.int .i64 x1) ∧ w'.cell? ⟨w.heap.size, 2, none⟩ = some (.int .i64 x2) ∧ w'.cell? ⟨w.heap.size + 1, 0, none⟩ = some (.int .i64 y0) ∧ w'.cell? ⟨w.heap.size + 1, 1, none⟩ = some (.int .i64 y1) ∧ w'.cell? ⟨w.heap.size + 1, 2, none⟩ = some (.int .i64 y2))) (by kernel_rfl) ⟨(by first | (simp (maxDischargeDepth := 6) [go_sem, *]; done)), (by first | (simp (maxDischargeDepth := 6) [go_sem, *]; done)), (by first | (simp (maxDischargeDepth := 6) [go_sem, *]; done)), (by first | (simp (maxDischargeDepth := 6) [go_sem, *]; done)), (by first | (simp (maxDischargeDepth := 6) [go_sem, *]; done)), (by first | (simp (maxDischargeDepth := 6) [go_sem, *]; done))⟩ (fun hHeld => ?_)
  refine wpAnyH_take (i := 0) (v := ?_) (by simp only [List.getElem?_toArray, List.getElem?_cons_succ, List.getElem?_cons_zero]; rfl) (by kernel_rfl) (by kernel_rfl) (by kernel_rfl) (fun _ _ _ h => h) (Or.inl ⟨by rfl, ?_⟩) (by assumption) ?_
  rotate_left
  · intro w hSw; (try dsimp only at hSw); go_simp; try with_reducible rfl
  try simp only [Act.put, List.setIfInBounds_toArray, List.set_cons_zero, List.set_cons_succ]
  refine wpAnyH_take (i := 2) (v := ?_) (by simp only [List.getElem?_toArray, List.getElem?_cons_succ, List.getElem?_cons_zero]; rfl) (by kernel_rfl) (by kernel_rfl) (by kernel_rfl) (fun _ _ _ h => h) (Or.inl ⟨by rfl, ?_⟩) (by assumption) ?_
  rotate_left
  · intro w hSw; (try dsimp only at hSw); go_simp; try with_reducible rfl
  try simp only [Act.put, List.setIfInBounds_toArray, List.set_cons_zero, List.set_cons_succ]
  refine wpAnyH_take (i := 4) (v := ?_) (by simp only [List.getElem?_toArray, List.getElem?_cons_succ, List.getElem?_cons_zero]; rfl) (by kernel_rfl) (by kernel_rfl) (by kernel_rfl) (fun _ _ _ h => h) (Or.inl ⟨by rfl, ?_⟩) (by assumption) ?_
  rotate_left
  · intro w hSw; (try dsimp only at hSw); go_simp; try with_reducible rfl
  try simp only [Act.put, List.setIfInBounds_toArray, List.set_cons_zero, List.set_cons_succ]
  refine wpAnyH_take (i := 1) (v := ?_) (by simp only [List.getElem?_toArray, List.getElem?_cons_succ, List.getElem?_cons_zero]; rfl) (by kernel_rfl) (by kernel_rfl) (by kernel_rfl) (fun _ _ _ h => h) (Or.inl ⟨by rfl, ?_⟩) (by assumption) ?_
  rotate_left
  · intro w hSw; (try dsimp only at hSw); go_simp; try with_reducible rfl
  try simp only [Act.put, List.setIfInBounds_toArray, List.set_cons_zero, List.set_cons_succ]
  refine wpAnyH_take (i := 3) (v := ?_) (by simp only [List.getElem?_toArray, List.getElem?_cons_succ, List.getElem?_cons_zero]; rfl) (by kernel_rfl) (by kernel_rfl) (by kernel_rfl) (fun _ _ _ h => h) (Or.inl ⟨by rfl, ?_⟩) (by assumption) ?_
  rotate_left
  · intro w hSw; (try dsimp only at hSw); go_simp; try with_reducible rfl
  try simp only [Act.put, List.setIfInBounds_toArray, List.set_cons_zero, List.set_cons_succ]
  refine wpAnyH_take (i := 5) (v := ?_) (by simp only [List.getElem?_toArray, List.getElem?_cons_succ, List.getElem?_cons_zero]; rfl) (by kernel_rfl) (by kernel_rfl) (by kernel_rfl) (fun _ _ _ h => h) (Or.inl ⟨by rfl, ?_⟩) (by assumption) ?_
  rotate_left
  · intro w hSw; (try dsimp only at hSw); go_simp; try with_reducible rfl
  try simp only [Act.put, List.setIfInBounds_toArray, List.set_cons_zero, List.set_cons_succ]
  refine wpAnyH_take (i := 6) (v := ?_) (by simp only [List.getElem?_toArray, List.getElem?_cons_succ, List.getElem?_cons_zero]; rfl) (by kernel_rfl) (by kernel_rfl) (by kernel_rfl) (fun _ _ _ h => h) (Or.inl ⟨by rfl, ?_⟩) (by assumption) ?_
  rotate_left
  · intro w hSw; (try dsimp only at hSw); go_simp; try with_reducible rfl
  try simp only [Act.put, List.setIfInBounds_toArray, List.set_cons_zero, List.set_cons_succ]
  have hOld := hHeld; clear hHeld
  refine wpAnyH_ready (rs := [7]) (by kernel_rfl) (by simp) (AllReadyH.cons rfl (fun K hK => ?_) AllReadyH.nil)
  go_simp
  (go_at_call 9; (with_reducible refine (mvCall (b := b) (w0 := w) (by (repeat (first | with_reducible assumption | with_reducible exact Mv.refl (by assumption) (by assumption) | with_reducible apply Mv.alloc | with_reducible apply Mv.drew | with_reducible apply Mv.drewN | ((with_reducible apply Mv.setCell); rotate_left; (first | (dsimp only; omega) | omega | (simp; omega)); (first | (dsimp only; omega) | omega | (simp; omega))) | ((with_reducible apply Mv.below); rotate_left; (with_reducible assumption)) | ((with_reducible apply Mv.trans); rotate_left; (with_reducible assumption))))) (k1 _ _)).mono ?_); rintro e w1 ⟨rfl, hM, HM⟩; have hr := mv_cell (a := ⟨w.heap.size + 1 + 1, 0, none⟩) (v := .int .i64 0) hM (by first | (dsimp only; omega) | (simp; omega)) (by first | assumption | (simp (maxDischargeDepth := 6) [go_sem, *]; done)); have hg := mv_frozen (a := ⟨w.heap.size + 1 + 1, 0, none⟩) (v := .int .i64 0) hM (by first | (dsimp only; omega) | (simp; omega)) (by first | assumption | (simp (maxDischargeDepth := 6) [go_sem, *]; done)) (by first | assumption | (simp (maxDischargeDepth := 6) [go_sem, *]; done)); have hr := mv_cell (a := ⟨w.heap.size + 1 + 1, 1, none⟩) (v := .int .i64 0) hM (by first | (dsimp only; omega) | (simp; omega)) (by first | assumption | (simp (maxDischargeDepth := 6) [go_sem, *]; done)); have hg := mv_frozen (a := ⟨w.heap.size + 1 + 1, 1, none⟩) (v := .int .i64 0) hM (by first | (dsimp only; omega) | (simp; omega)) (by first | assumption | (simp (maxDischargeDepth := 6) [go_sem, *]; done)) (by first | assumption | (simp (maxDischargeDepth := 6) [go_sem, *]; done)); have hr := mv_cell (a := ⟨w.heap.size + 1 + 1, 2, none⟩) (v := .int .i64 0) hM (by first | (dsimp only; omega) | (simp; omega)) (by first | assumption | (simp (maxDischargeDepth := 6) [go_sem, *]; done)); have hg := mv_frozen (a := ⟨w.heap.size + 1 + 1, 2, none⟩) (v := .int .i64 0) hM (by first | (dsimp only; omega) | (simp; omega)) (by first | assumption | (simp (maxDischargeDepth := 6) [go_sem, *]; done)) (by first | assumption | (simp (maxDischargeDepth := 6) [go_sem, *]; done)))
  (try go_wp2_with (fail))
  refine hK.out _ _ ⟨(by first | exact mv_cell hM (by first | (dsimp only; omega) | (simp; omega)) hOld.1 | exact cell_later hM hOld.1 | exact HT.cb | exact HT.cc | (simp (maxDischargeDepth := 6) [go_sem, *]; done)), (by first | exact mv_cell hM (by first | (dsimp only; omega) | (simp; omega)) hOld.2.1 | exact cell_later hM hOld.2.1 | exact HT.cb | exact HT.cc | (simp (maxDischargeDepth := 6) [go_sem, *]; done)), (by first | exact mv_cell hM (by first | (dsimp only; omega) | (simp; omega)) hOld.2.2.1 | exact cell_later hM hOld.2.2.1 | exact HT.cb | exact HT.cc | (simp (maxDischargeDepth := 6) [go_sem, *]; done)), (by first | exact mv_cell hM (by first | (dsimp only; omega) | (simp; omega)) hOld.2.2.2.1 | exact cell_later hM hOld.2.2.2.1 | exact HT.cb | exact HT.cc | (simp (maxDischargeDepth := 6) [go_sem, *]; done)), (by first | exact mv_cell hM (by first | (dsimp only; omega) | (simp; omega)) hOld.2.2.2.2.1 | exact cell_later hM hOld.2.2.2.2.1 | exact HT.cb | exact HT.cc | (simp (maxDischargeDepth := 6) [go_sem, *]; done)), (by first | exact mv_cell hM (by first | (dsimp only; omega) | (simp; omega)) hOld.2.2.2.2.2 | exact cell_later hM hOld.2.2.2.2.2 | exact HT.cb | exact HT.cc | (simp (maxDischargeDepth := 6) [go_sem, *]; done))⟩ (fun hHeld => ?_)
  clear hK K hOld
  try simp only [Act.put, List.setIfInBounds_toArray, List.set_cons_zero, List.set_cons_succ]
  have hOld := hHeld; clear hHeld
  refine wpAnyH_ready (rs := [8]) (by kernel_rfl) (by simp) (AllReadyH.cons rfl (fun K hK => ?_) AllReadyH.nil)
  go_simp
  (go_at_call 22; (with_reducible refine (mvCall (b := b) (w0 := w) (by (repeat (first | with_reducible assumption | with_reducible exact Mv.refl (by assumption) (by assumption) | with_reducible apply Mv.alloc | with_reducible apply Mv.drew | with_reducible apply Mv.drewN | ((with_reducible apply Mv.setCell); rotate_left; (first | (dsimp only; omega) | omega | (simp; omega)); (first | (dsimp only; omega) | omega | (simp; omega))) | ((with_reducible apply Mv.below); rotate_left; (with_reducible assumption)) | ((with_reducible apply Mv.trans); rotate_left; (with_reducible assumption))))) (k2 _ _)).mono ?_); rintro e w1 ⟨rfl, hM, HM⟩; have hr := mv_cell (a := ⟨w.heap.size + 1 + 1, 0, none⟩) (v := .int .i64 0) hM (by first | (dsimp only; omega) | (simp; omega)) (by first | assumption | (simp (maxDischargeDepth := 6) [go_sem, *]; done)); have hg := mv_frozen (a := ⟨w.heap.size + 1 + 1, 0, none⟩) (v := .int .i64 0) hM (by first | (dsimp only; omega) | (simp; omega)) (by first | assumption | (simp (maxDischargeDepth := 6) [go_sem, *]; done)) (by first | assumption | (simp (maxDischargeDepth := 6) [go_sem, *]; done)); have hr := mv_cell (a := ⟨w.heap.size + 1 + 1, 1, none⟩) (v := .int .i64 0) hM (by first | (dsimp only; omega) | (simp; omega)) (by first | assumption | (simp (maxDischargeDepth := 6) [go_sem, *]; done)); have hg := mv_frozen (a := ⟨w.heap.size + 1 + 1, 1, none⟩) (v := .int .i64 0) hM (by first | (dsimp only; omega) | (simp; omega)) (by first | assumption | (simp (maxDischargeDepth := 6) [go_sem, *]; done)) (by first | assumption | (simp (maxDischargeDepth := 6) [go_sem, *]; done)); have hr := mv_cell (a := ⟨w.heap.size + 1 + 1, 2, none⟩) (v := .int .i64 0) hM (by first | (dsimp only; omega) | (simp; omega)) (by first | assumption | (simp (maxDischargeDepth := 6) [go_sem, *]; done)); have hg := mv_frozen (a := ⟨w.heap.size + 1 + 1, 2, none⟩) (v := .int .i64 0) hM (by first | (dsimp only; omega) | (simp; omega)) (by first | assumption | (simp (maxDischargeDepth := 6) [go_sem, *]; done)) (by first | assumption | (simp (maxDischargeDepth := 6) [go_sem, *]; done)))
  (try go_wp2_with (fail))
  refine hK.out _ _ ⟨(by first | exact mv_cell hM (by first | (dsimp only; omega) | (simp; omega)) hOld.1 | exact cell_later hM hOld.1 | exact HT.cb | exact HT.cc | (simp (maxDischargeDepth := 6) [go_sem, *]; done)), (by first | exact mv_cell hM (by first | (dsimp only; omega) | (simp; omega)) hOld.2.1 | exact cell_later hM hOld.2.1 | exact HT.cb | exact HT.cc | (simp (maxDischargeDepth := 6) [go_sem, *]; done)), (by first | exact mv_cell hM (by first | (dsimp only; omega) | (simp; omega)) hOld.2.2.1 | exact cell_later hM hOld.2.2.1 | exact HT.cb | exact HT.cc | (simp (maxDischargeDepth := 6) [go_sem, *]; done)), (by first | exact mv_cell hM (by first | (dsimp only; omega) | (simp; omega)) hOld.2.2.2.1 | exact cell_later hM hOld.2.2.2.1 | exact HT.cb | exact HT.cc | (simp (maxDischargeDepth := 6) [go_sem, *]; done)), (by first | exact mv_cell hM (by first | (dsimp only; omega) | (simp; omega)) hOld.2.2.2.2.1 | exact cell_later hM hOld.2.2.2.2.1 | exact HT.cb | exact HT.cc | (simp (maxDischargeDepth := 6) [go_sem, *]; done)), (by first | exact mv_cell hM (by first | (dsimp only; omega) | (simp; omega)) hOld.2.2.2.2.2 | exact cell_later hM hOld.2.2.2.2.2 | exact HT.cb | exact HT.cc | (simp (maxDischargeDepth := 6) [go_sem, *]; done))⟩ (fun hHeld => ?_)
  clear hK K hOld
  try simp only [Act.put, List.setIfInBounds_toArray, List.set_cons_zero, List.set_cons_succ]
  have hOld := hHeld; clear hHeld
  refine wpAnyH_ready (rs := [9]) (by kernel_rfl) (by simp) (AllReadyH.cons rfl (fun K hK => ?_) AllReadyH.nil)
  go_simp
  (go_at_call 16; (with_reducible refine (mvCall (b := b) (w0 := w) (by (repeat (first | with_reducible assumption | with_reducible exact Mv.refl (by assumption) (by assumption) | with_reducible apply Mv.alloc | with_reducible apply Mv.drew | with_reducible apply Mv.drewN | ((with_reducible apply Mv.setCell); rotate_left; (first | (dsimp only; omega) | omega | (simp; omega)); (first | (dsimp only; omega) | omega | (simp; omega))) | ((with_reducible apply Mv.below); rotate_left; (with_reducible assumption)) | ((with_reducible apply Mv.trans); rotate_left; (with_reducible assumption))))) (k3 _ _)).mono ?_); rintro e w1 ⟨rfl, hM, HM⟩; have hr := mv_cell (a := ⟨w.heap.size + 1 + 1, 0, none⟩) (v := .int .i64 0) hM (by first | (dsimp only; omega) | (simp; omega)) (by first | assumption | (simp (maxDischargeDepth := 6) [go_sem, *]; done)); have hg := mv_frozen (a := ⟨w.heap.size + 1 + 1, 0, none⟩) (v := .int .i64 0) hM (by first | (dsimp only; omega) | (simp; omega)) (by first | assumption | (simp (maxDischargeDepth := 6) [go_sem, *]; done)) (by first | assumption | (simp (maxDischargeDepth := 6) [go_sem, *]; done)); have hr := mv_cell (a := ⟨w.heap.size + 1 + 1, 1, none⟩) (v := .int .i64 0) hM (by first | (dsimp only; omega) | (simp; omega)) (by first | assumption | (simp (maxDischargeDepth := 6) [go_sem, *]; done)); have hg := mv_frozen (a := ⟨w.heap.size + 1 + 1, 1, none⟩) (v := .int .i64 0) hM (by first | (dsimp only; omega) | (simp; omega)) (by first | assumption | (simp (maxDischargeDepth := 6) [go_sem, *]; done)) (by first | assumption | (simp (maxDischargeDepth := 6) [go_sem, *]; done)); have hr := mv_cell (a := ⟨w.heap.size + 1 + 1, 2, none⟩) (v := .int .i64 0) hM (by first | (dsimp only; omega) | (simp; omega)) (by first | assumption | (simp (maxDischargeDepth := 6) [go_sem, *]; done)); have hg := mv_frozen (a := ⟨w.heap.size + 1 + 1, 2, none⟩) (v := .int .i64 0) hM (by first | (dsimp only; omega) | (simp; omega)) (by first | assumption | (simp (maxDischargeDepth := 6) [go_sem, *]; done)) (by first | assumption | (simp (maxDischargeDepth := 6) [go_sem, *]; done)))
  (try go_wp2_with (fail))
  refine hK.out _ _ ⟨(by first | exact mv_cell hM (by first | (dsimp only; omega) | (simp; omega)) hOld.1 | exact cell_later hM hOld.1 | exact HT.cb | exact HT.cc | (simp (maxDischargeDepth := 6) [go_sem, *]; done)), (by first | exact mv_cell hM (by first | (dsimp only; omega) | (simp; omega)) hOld.2.1 | exact cell_later hM hOld.2.1 | exact HT.cb | exact HT.cc | (simp (maxDischargeDepth := 6) [go_sem, *]; done)), (by first | exact mv_cell hM (by first | (dsimp only; omega) | (simp; omega)) hOld.2.2.1 | exact cell_later hM hOld.2.2.1 | exact HT.cb | exact HT.cc | (simp (maxDischargeDepth := 6) [go_sem, *]; done)), (by first | exact mv_cell hM (by first | (dsimp only; omega) | (simp; omega)) hOld.2.2.2.1 | exact cell_later hM hOld.2.2.2.1 | exact HT.cb | exact HT.cc | (simp (maxDischargeDepth := 6) [go_sem, *]; done)), (by first | exact mv_cell hM (by first | (dsimp only; omega) | (simp; omega)) hOld.2.2.2.2.1 | exact cell_later hM hOld.2.2.2.2.1 | exact HT.cb | exact HT.cc | (simp (maxDischargeDepth := 6) [go_sem, *]; done)), (by first | exact mv_cell hM (by first | (dsimp only; omega) | (simp; omega)) hOld.2.2.2.2.2 | exact cell_later hM hOld.2.2.2.2.2 | exact HT.cb | exact HT.cc | (simp (maxDischargeDepth := 6) [go_sem, *]; done))⟩ (fun hHeld => ?_)
  clear hK K hOld
  try simp only [Act.put, List.setIfInBounds_toArray, List.set_cons_zero, List.set_cons_succ]
  have hOld := hHeld; clear hHeld
  refine wpAnyH_ready (rs := [10]) (by kernel_rfl) (by simp) (AllReadyH.cons rfl (fun K hK => ?_) AllReadyH.nil)
  go_simp
  (try go_wp2_with (fail))
  refine hK.out _ _ ⟨(by first | exact mv_cell hM (by first | (dsimp only; omega) | (simp; omega)) hOld.1 | exact cell_later hM hOld.1 | exact HT.cb | exact HT.cc | (simp (maxDischargeDepth := 6) [go_sem, *]; done)), (by first | exact mv_cell hM (by first | (dsimp only; omega) | (simp; omega)) hOld.2.1 | exact cell_later hM hOld.2.1 | exact HT.cb | exact HT.cc | (simp (maxDischargeDepth := 6) [go_sem, *]; done)), (by first | exact mv_cell hM (by first | (dsimp only; omega) | (simp; omega)) hOld.2.2.1 | exact cell_later hM hOld.2.2.1 | exact HT.cb | exact HT.cc | (simp (maxDischargeDepth := 6) [go_sem, *]; done)), (by first | exact mv_cell hM (by first | (dsimp only; omega) | (simp; omega)) hOld.2.2.2.1 | exact cell_later hM hOld.2.2.2.1 | exact HT.cb | exact HT.cc | (simp (maxDischargeDepth := 6) [go_sem, *]; done)), (by first | exact mv_cell hM (by first | (dsimp only; omega) | (simp; omega)) hOld.2.2.2.2.1 | exact cell_later hM hOld.2.2.2.2.1 | exact HT.cb | exact HT.cc | (simp (maxDischargeDepth := 6) [go_sem, *]; done)), (by first | exact mv_cell hM (by first | (dsimp only; omega) | (simp; omega)) hOld.2.2.2.2.2 | exact cell_later hM hOld.2.2.2.2.2 | exact HT.cb | exact HT.cc | (simp (maxDischargeDepth := 6) [go_sem, *]; done))⟩ (fun hHeld => ?_)
  clear hK K hOld
  try simp only [Act.put, List.setIfInBounds_toArray, List.set_cons_zero, List.set_cons_succ]
  refine wpAnyH_done (by kernel_rfl) ?_ _
  (try refine NoPanic.normal ?_)
  (try clear q0); (try clear q1); (try clear q2); (try clear q3); (try clear q4); (try clear q5); obtain ⟨q0, q1, q2, q3, q4, q5⟩ := hHeld
  all_goals go_wp2
  all_goals (simp (maxDischargeDepth := 8) [bodyPost, results, Try.results33, go_sem, *])
  all_goals exact Mv.cast (by (repeat (first | with_reducible assumption | with_reducible exact Mv.refl (by assumption) (by assumption) | with_reducible apply Mv.alloc | with_reducible apply Mv.drew | with_reducible apply Mv.drewN | ((with_reducible apply Mv.setCell); rotate_left; (first | (dsimp only; omega) | omega | (simp; omega)); (first | (dsimp only; omega) | omega | (simp; omega))) | ((with_reducible apply Mv.below); rotate_left; (with_reducible assumption)) | ((with_reducible apply Mv.trans); rotate_left; (with_reducible assumption))))) (by simp only [Bool.not_and, Bool.or_assoc, Bool.or_left_comm, Bool.or_comm])
end Go.Proofs.Ytfmihddcfmhonaa
