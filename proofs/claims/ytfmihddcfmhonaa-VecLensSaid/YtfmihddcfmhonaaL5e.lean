/- The walk of VecLens. -/
import Derived.Test.YtfmihddcfmhonaaV3
import Derived.Test.YtfmihddcfmhonaaV6
namespace Go.Proofs.Ytfmihddcfmhonaa
open Go.RowKit
set_option maxHeartbeats 16000000 in
theorem walk_VecLens (a0 a1 a2 b0 b1 b2 : Int) (w : World) (a0_0 : -9223372036854775808 ≤ a0) (a0_1 : a0 ≤ 9223372036854775807) (a1_0 : -9223372036854775808 ≤ a1) (a1_1 : a1 ≤ 9223372036854775807) (a2_0 : -9223372036854775808 ≤ a2) (a2_1 : a2 ≤ 9223372036854775807) (b0_0 : -9223372036854775808 ≤ b0) (b0_1 : b0 ≤ 9223372036854775807) (b1_0 : -9223372036854775808 ≤ b1) (b1_1 : b1 ≤ 9223372036854775807) (b2_0 : -9223372036854775808 ≤ b2) (b2_1 : b2 ≤ 9223372036854775807) :
    Calls Try.prog 7 #[.agg #[.int .i64 a0, .int .i64 a1, .int .i64 a2], .agg #[.int .i64 b0, .int .i64 b1, .int .i64 b2]] w fun e w' => e = .returned (.bool true) ∧ Below w.heap.size w w' := by
  have k1 := fun c o W => cVUnit a0 a1 a2 c o W a0_0 a0_1 a1_0 a1_1 a2_0 a2_1
  have k2 := fun c o W => rVUnit a0 a1 a2 c o W a0_0 a0_1 a1_0 a1_1 a2_0 a2_1
  have k3 := fun c o W => cVLen a0 a1 a2 c o W a0_0 a0_1 a1_0 a1_1 a2_0 a2_1
  have k4 := fun c o W => rVLen a0 a1 a2 c o W a0_0 a0_1 a1_0 a1_1 a2_0 a2_1
  have k5 := fun c o W => cVAlong a0 a1 a2 b0 b1 b2 c o W a0_0 a0_1 a1_0 a1_1 a2_0 a2_1 b0_0 b0_1 b1_0 b1_1 b2_0 b2_1
  have k6 := fun c o W => rVAlong a0 a1 a2 b0 b1 b2 c o W a0_0 a0_1 a1_0 a1_1 a2_0 a2_1 b0_0 b0_1 b1_0 b1_1 b2_0 b2_1
  generalize ln (a0 * a0 + a1 * a1 + a2 * a2) = n at *
  generalize lnok (a0 * a0 + a1 * a1 + a2 * a2) = p at *
  generalize uq a0 n = p1 at *
  generalize uq a1 n = p2 at *
  generalize uq a2 n = p3 at *
  generalize uok a0 n = p4 at *
  generalize uok a1 n = p5 at *
  generalize uok a2 n = p6 at *
  generalize (!decide (n = 0)) = t1 at *
  generalize dtok a0 a1 a2 b0 b1 b2 = d1 at *
  generalize dt a0 a1 a2 b0 b1 b2 = d at *
  generalize alok a0 b0 d = l1 at *
  generalize alok a1 b1 d = l2 at *
  generalize alok a2 b2 d = l3 at *
  generalize al a0 b0 d = m1 at *
  generalize al a1 b1 d = m2 at *
  generalize al a2 b2 d = m3 at *
  go_enter Try.func7, Try.ntmps7
  go_wp2_with (fail)
  (go_at_call 28; (with_reducible refine (k1 _ false _ (by simp [go_sem, *]) (by simp [go_sem, *])).mono ?_); rintro e w1 ⟨rfl, hM⟩; have HT := Tw.start (w := w) (c := w.heap.size + 1 + 1 + 1) (p := false) (by (repeat (first | with_reducible assumption | with_reducible exact Below.refl _ _ | ((with_reducible refine Below.setCell ?_ ?_ _); rotate_left; (first | exact Nat.le_refl _ | (dsimp only; omega) | (simp; done) | (simp; omega))) | with_reducible refine below_alloc ?_ _ | with_reducible apply below_drewN | with_reducible apply Below.drew | with_reducible refine below_step ?_ (by assumption)))) hM (by omega) (by omega) (by omega) (by simp [go_sem, *]) (by simp [go_sem, *]))
  have hr := mv_cell (a := ⟨w.heap.size, 0, none⟩) (v := .int .i64 a0) hM (by first | (dsimp only; omega) | (simp; omega)) (by first | assumption | (simp (maxDischargeDepth := 6) [go_sem, *]; done))
  have hr := mv_cell (a := ⟨w.heap.size, 1, none⟩) (v := .int .i64 a1) hM (by first | (dsimp only; omega) | (simp; omega)) (by first | assumption | (simp (maxDischargeDepth := 6) [go_sem, *]; done))
  have hr := mv_cell (a := ⟨w.heap.size, 2, none⟩) (v := .int .i64 a2) hM (by first | (dsimp only; omega) | (simp; omega)) (by first | assumption | (simp (maxDischargeDepth := 6) [go_sem, *]; done))
  have hr := mv_cell (a := ⟨w.heap.size + 1, 0, none⟩) (v := .int .i64 b0) hM (by first | (dsimp only; omega) | (simp; omega)) (by first | assumption | (simp (maxDischargeDepth := 6) [go_sem, *]; done))
  have hr := mv_cell (a := ⟨w.heap.size + 1, 1, none⟩) (v := .int .i64 b1) hM (by first | (dsimp only; omega) | (simp; omega)) (by first | assumption | (simp (maxDischargeDepth := 6) [go_sem, *]; done))
  have hr := mv_cell (a := ⟨w.heap.size + 1, 2, none⟩) (v := .int .i64 b2) hM (by first | (dsimp only; omega) | (simp; omega)) (by first | assumption | (simp (maxDischargeDepth := 6) [go_sem, *]; done))
  rename World => g
  have hzg := HT.below.size
  have hzg2 : w.heap.size + 1 + 1 + 1 < g.heap.size := World.block_lt_of_cell? g _ HT.cc
  clear hM k1
  go_wp2_with (fail)
  (go_at_call 29; (with_reducible refine (Tw.call2 (by (repeat (first | with_reducible assumption | with_reducible apply Tw.alloc | with_reducible apply Tw.drew | ((with_reducible apply Tw.after); rotate_left; (with_reducible assumption)) | ((with_reducible apply Tw.setCell); rotate_left; (first | (dsimp only; omega) | omega | (simp; omega)); (first | (dsimp only; omega) | omega | (simp; omega)); (first | (dsimp only; omega) | omega | (simp; omega)))))) (k2 _ _ _)).mono ?_); rintro e w1 ⟨rfl, hM, HT⟩)
  have hr := mv_cell (a := ⟨w.heap.size, 0, none⟩) (v := .int .i64 a0) hM (by first | (dsimp only; omega) | (simp; omega)) (by first | assumption | (simp (maxDischargeDepth := 6) [go_sem, *]; done))
  have hr := mv_cell (a := ⟨w.heap.size, 1, none⟩) (v := .int .i64 a1) hM (by first | (dsimp only; omega) | (simp; omega)) (by first | assumption | (simp (maxDischargeDepth := 6) [go_sem, *]; done))
  have hr := mv_cell (a := ⟨w.heap.size, 2, none⟩) (v := .int .i64 a2) hM (by first | (dsimp only; omega) | (simp; omega)) (by first | assumption | (simp (maxDischargeDepth := 6) [go_sem, *]; done))
  have hr := mv_cell (a := ⟨w.heap.size + 1, 0, none⟩) (v := .int .i64 b0) hM (by first | (dsimp only; omega) | (simp; omega)) (by first | assumption | (simp (maxDischargeDepth := 6) [go_sem, *]; done))
  have hr := mv_cell (a := ⟨w.heap.size + 1, 1, none⟩) (v := .int .i64 b1) hM (by first | (dsimp only; omega) | (simp; omega)) (by first | assumption | (simp (maxDischargeDepth := 6) [go_sem, *]; done))
  have hr := mv_cell (a := ⟨w.heap.size + 1, 2, none⟩) (v := .int .i64 b2) hM (by first | (dsimp only; omega) | (simp; omega)) (by first | assumption | (simp (maxDischargeDepth := 6) [go_sem, *]; done))
  have hr := mv_cell (a := ⟨g.heap.size, 0, none⟩) (v := .int .i64 p1) hM (by first | (dsimp only; omega) | (simp; omega)) (by first | assumption | (simp (maxDischargeDepth := 6) [go_sem, *]; done))
  have hr := mv_cell (a := ⟨g.heap.size, 1, none⟩) (v := .int .i64 p2) hM (by first | (dsimp only; omega) | (simp; omega)) (by first | assumption | (simp (maxDischargeDepth := 6) [go_sem, *]; done))
  have hr := mv_cell (a := ⟨g.heap.size, 2, none⟩) (v := .int .i64 p3) hM (by first | (dsimp only; omega) | (simp; omega)) (by first | assumption | (simp (maxDischargeDepth := 6) [go_sem, *]; done))
  rename World => h
  have hzh := HT.below.size
  have hzh2 : g.heap.size < h.heap.size := World.block_lt_of_cell? h ⟨g.heap.size, 0, none⟩ (u := .int .i64 p1) (by assumption)
  clear hM k2
  go_upto_region 5 with (fail)
  (try refine wp_region_noPanic ?_)
  refine wp_region_held_drew (S := (fun (w' : World) => w'.cell? ⟨w.heap.size, 0, none⟩ = some (.int .i64 a0) ∧ w'.cell? ⟨w.heap.size, 1, none⟩ = some (.int .i64 a1) ∧ w'.cell? ⟨w.heap.size, 2, none⟩ = some (.int .i64 a2) ∧ w'.cell? ⟨w.heap.size + 1, 0, none⟩ = some (.int .i64 b0) ∧ w'.cell? ⟨w.heap.size + 1, 1, none⟩ = some (.int .i64 b1) ∧ w'.cell? ⟨w.heap.size + 1, 2, none⟩ = some (.int .i64 b2) ∧ w'.cell? ⟨g.heap.size, 0, none⟩ = some (.int .i64 p1) ∧ w'.cell? ⟨g.heap.size, 1, none⟩ = some (.int .i64 p2) ∧ w'.cell? ⟨g.heap.size, 2, none⟩ = some (.int .i64 p3) ∧ w'.cell? ⟨h.heap.size, 0, none⟩ = some (.int .i64 p1) ∧ w'.cell? ⟨h.heap.size, 1, none⟩ = some (.int .i64 p2) ∧ w'.cell? ⟨h.heap.size, 2, none⟩ = some (.int .i64 p3))) (by kernel_rfl) ⟨(by first | (simp (maxDischargeDepth := 6) [go_sem, *]; done)), (by first | (simp (maxDischargeDepth := 6) [go_sem, *]; done)), (by first | (simp (maxDischargeDepth := 6) [go_sem, *]; done)), (by first | (simp (maxDischargeDepth := 6) [go_sem, *]; done)), (by first | (simp (maxDischargeDepth := 6) [go_sem, *]; done)), (by first | (simp (maxDischargeDepth := 6) [go_sem, *]; done)), (by first | (simp (maxDischargeDepth := 6) [go_sem, *]; done)), (by first | (simp (maxDischargeDepth := 6) [go_sem, *]; done)), (by first | (simp (maxDischargeDepth := 6) [go_sem, *]; done)), (by first | (simp (maxDischargeDepth := 6) [go_sem, *]; done)), (by first | (simp (maxDischargeDepth := 6) [go_sem, *]; done)), (by first | (simp (maxDischargeDepth := 6) [go_sem, *]; done))⟩ (fun hHeld => ?_)
  refine wpAnyH_take (i := 0) (v := ?_) (by simp only [List.getElem?_toArray, List.getElem?_cons_succ, List.getElem?_cons_zero]; rfl) (by kernel_rfl) (by kernel_rfl) (by kernel_rfl) (fun _ _ _ h => h) (Or.inl ⟨by rfl, ?_⟩) (by assumption) ?_
  rotate_left
  · intro w hSw; (try dsimp only at hSw); go_simp; try with_reducible rfl
  try simp only [Act.put, List.setIfInBounds_toArray, List.set_cons_zero, List.set_cons_succ]
  refine wpAnyH_take (i := 3) (v := ?_) (by simp only [List.getElem?_toArray, List.getElem?_cons_succ, List.getElem?_cons_zero]; rfl) (by kernel_rfl) (by kernel_rfl) (by kernel_rfl) (fun _ _ _ h => h) (Or.inl ⟨by rfl, ?_⟩) (by assumption) ?_
  rotate_left
  · intro w hSw; (try dsimp only at hSw); go_simp; try with_reducible rfl
  try simp only [Act.put, List.setIfInBounds_toArray, List.set_cons_zero, List.set_cons_succ]
  refine wpAnyH_take (i := 1) (v := ?_) (by simp only [List.getElem?_toArray, List.getElem?_cons_succ, List.getElem?_cons_zero]; rfl) (by kernel_rfl) (by kernel_rfl) (by kernel_rfl) (fun _ _ _ h => h) (Or.inl ⟨by rfl, ?_⟩) (by assumption) ?_
  rotate_left
  · intro w hSw; (try dsimp only at hSw); go_simp; try with_reducible rfl
  try simp only [Act.put, List.setIfInBounds_toArray, List.set_cons_zero, List.set_cons_succ]
  refine wpAnyH_take (i := 4) (v := ?_) (by simp only [List.getElem?_toArray, List.getElem?_cons_succ, List.getElem?_cons_zero]; rfl) (by kernel_rfl) (by kernel_rfl) (by kernel_rfl) (fun _ _ _ h => h) (Or.inl ⟨by rfl, ?_⟩) (by assumption) ?_
  rotate_left
  · intro w hSw; (try dsimp only at hSw); go_simp; try with_reducible rfl
  try simp only [Act.put, List.setIfInBounds_toArray, List.set_cons_zero, List.set_cons_succ]
  have hOld := hHeld; clear hHeld
  refine wpAnyH_ready (rs := [2]) (by kernel_rfl) (by simp) (AllReadyH.cons rfl (fun K hK => ?_) AllReadyH.nil)
  go_simp
  (go_at_call 30; (with_reducible refine (Tw.call1 (by (repeat (first | with_reducible assumption | with_reducible apply Tw.alloc | with_reducible apply Tw.drew | ((with_reducible apply Tw.after); rotate_left; (with_reducible assumption)) | ((with_reducible apply Tw.setCell); rotate_left; (first | (dsimp only; omega) | omega | (simp; omega)); (first | (dsimp only; omega) | omega | (simp; omega)); (first | (dsimp only; omega) | omega | (simp; omega)))))) (k3 _ _ _)).mono ?_); rintro e w1 ⟨rfl, hM, HT⟩)
  (try go_wp2_with (fail))
  refine hK.out _ _ ⟨(by first | exact mv_cell hM (by first | (dsimp only; omega) | (simp; omega)) hOld.1 | exact cell_later hM hOld.1 | exact HT.cb | exact HT.cc | (simp (maxDischargeDepth := 6) [go_sem, *]; done)), (by first | exact mv_cell hM (by first | (dsimp only; omega) | (simp; omega)) hOld.2.1 | exact cell_later hM hOld.2.1 | exact HT.cb | exact HT.cc | (simp (maxDischargeDepth := 6) [go_sem, *]; done)), (by first | exact mv_cell hM (by first | (dsimp only; omega) | (simp; omega)) hOld.2.2.1 | exact cell_later hM hOld.2.2.1 | exact HT.cb | exact HT.cc | (simp (maxDischargeDepth := 6) [go_sem, *]; done)), (by first | exact mv_cell hM (by first | (dsimp only; omega) | (simp; omega)) hOld.2.2.2.1 | exact cell_later hM hOld.2.2.2.1 | exact HT.cb | exact HT.cc | (simp (maxDischargeDepth := 6) [go_sem, *]; done)), (by first | exact mv_cell hM (by first | (dsimp only; omega) | (simp; omega)) hOld.2.2.2.2.1 | exact cell_later hM hOld.2.2.2.2.1 | exact HT.cb | exact HT.cc | (simp (maxDischargeDepth := 6) [go_sem, *]; done)), (by first | exact mv_cell hM (by first | (dsimp only; omega) | (simp; omega)) hOld.2.2.2.2.2.1 | exact cell_later hM hOld.2.2.2.2.2.1 | exact HT.cb | exact HT.cc | (simp (maxDischargeDepth := 6) [go_sem, *]; done)), (by first | exact mv_cell hM (by first | (dsimp only; omega) | (simp; omega)) hOld.2.2.2.2.2.2.1 | exact cell_later hM hOld.2.2.2.2.2.2.1 | exact HT.cb | exact HT.cc | (simp (maxDischargeDepth := 6) [go_sem, *]; done)), (by first | exact mv_cell hM (by first | (dsimp only; omega) | (simp; omega)) hOld.2.2.2.2.2.2.2.1 | exact cell_later hM hOld.2.2.2.2.2.2.2.1 | exact HT.cb | exact HT.cc | (simp (maxDischargeDepth := 6) [go_sem, *]; done)), (by first | exact mv_cell hM (by first | (dsimp only; omega) | (simp; omega)) hOld.2.2.2.2.2.2.2.2.1 | exact cell_later hM hOld.2.2.2.2.2.2.2.2.1 | exact HT.cb | exact HT.cc | (simp (maxDischargeDepth := 6) [go_sem, *]; done)), (by first | exact mv_cell hM (by first | (dsimp only; omega) | (simp; omega)) hOld.2.2.2.2.2.2.2.2.2.1 | exact cell_later hM hOld.2.2.2.2.2.2.2.2.2.1 | exact HT.cb | exact HT.cc | (simp (maxDischargeDepth := 6) [go_sem, *]; done)), (by first | exact mv_cell hM (by first | (dsimp only; omega) | (simp; omega)) hOld.2.2.2.2.2.2.2.2.2.2.1 | exact cell_later hM hOld.2.2.2.2.2.2.2.2.2.2.1 | exact HT.cb | exact HT.cc | (simp (maxDischargeDepth := 6) [go_sem, *]; done)), (by first | exact mv_cell hM (by first | (dsimp only; omega) | (simp; omega)) hOld.2.2.2.2.2.2.2.2.2.2.2 | exact cell_later hM hOld.2.2.2.2.2.2.2.2.2.2.2 | exact HT.cb | exact HT.cc | (simp (maxDischargeDepth := 6) [go_sem, *]; done))⟩ (fun hHeld => ?_)
  clear hK K hOld
  try simp only [Act.put, List.setIfInBounds_toArray, List.set_cons_zero, List.set_cons_succ]
  have hOld := hHeld; clear hHeld
  refine wpAnyH_ready (rs := [5]) (by kernel_rfl) (by simp) (AllReadyH.cons rfl (fun K hK => ?_) AllReadyH.nil)
  go_simp
  (go_at_call 31; (with_reducible refine (Tw.call2 (by (repeat (first | with_reducible assumption | with_reducible apply Tw.alloc | with_reducible apply Tw.drew | ((with_reducible apply Tw.after); rotate_left; (with_reducible assumption)) | ((with_reducible apply Tw.setCell); rotate_left; (first | (dsimp only; omega) | omega | (simp; omega)); (first | (dsimp only; omega) | omega | (simp; omega)); (first | (dsimp only; omega) | omega | (simp; omega)))))) (k4 _ _ _)).mono ?_); rintro e w1 ⟨rfl, hM, HT⟩)
  (try go_wp2_with (fail))
  refine hK.out _ _ ⟨(by first | exact mv_cell hM (by first | (dsimp only; omega) | (simp; omega)) hOld.1 | exact cell_later hM hOld.1 | exact HT.cb | exact HT.cc | (simp (maxDischargeDepth := 6) [go_sem, *]; done)), (by first | exact mv_cell hM (by first | (dsimp only; omega) | (simp; omega)) hOld.2.1 | exact cell_later hM hOld.2.1 | exact HT.cb | exact HT.cc | (simp (maxDischargeDepth := 6) [go_sem, *]; done)), (by first | exact mv_cell hM (by first | (dsimp only; omega) | (simp; omega)) hOld.2.2.1 | exact cell_later hM hOld.2.2.1 | exact HT.cb | exact HT.cc | (simp (maxDischargeDepth := 6) [go_sem, *]; done)), (by first | exact mv_cell hM (by first | (dsimp only; omega) | (simp; omega)) hOld.2.2.2.1 | exact cell_later hM hOld.2.2.2.1 | exact HT.cb | exact HT.cc | (simp (maxDischargeDepth := 6) [go_sem, *]; done)), (by first | exact mv_cell hM (by first | (dsimp only; omega) | (simp; omega)) hOld.2.2.2.2.1 | exact cell_later hM hOld.2.2.2.2.1 | exact HT.cb | exact HT.cc | (simp (maxDischargeDepth := 6) [go_sem, *]; done)), (by first | exact mv_cell hM (by first | (dsimp only; omega) | (simp; omega)) hOld.2.2.2.2.2.1 | exact cell_later hM hOld.2.2.2.2.2.1 | exact HT.cb | exact HT.cc | (simp (maxDischargeDepth := 6) [go_sem, *]; done)), (by first | exact mv_cell hM (by first | (dsimp only; omega) | (simp; omega)) hOld.2.2.2.2.2.2.1 | exact cell_later hM hOld.2.2.2.2.2.2.1 | exact HT.cb | exact HT.cc | (simp (maxDischargeDepth := 6) [go_sem, *]; done)), (by first | exact mv_cell hM (by first | (dsimp only; omega) | (simp; omega)) hOld.2.2.2.2.2.2.2.1 | exact cell_later hM hOld.2.2.2.2.2.2.2.1 | exact HT.cb | exact HT.cc | (simp (maxDischargeDepth := 6) [go_sem, *]; done)), (by first | exact mv_cell hM (by first | (dsimp only; omega) | (simp; omega)) hOld.2.2.2.2.2.2.2.2.1 | exact cell_later hM hOld.2.2.2.2.2.2.2.2.1 | exact HT.cb | exact HT.cc | (simp (maxDischargeDepth := 6) [go_sem, *]; done)), (by first | exact mv_cell hM (by first | (dsimp only; omega) | (simp; omega)) hOld.2.2.2.2.2.2.2.2.2.1 | exact cell_later hM hOld.2.2.2.2.2.2.2.2.2.1 | exact HT.cb | exact HT.cc | (simp (maxDischargeDepth := 6) [go_sem, *]; done)), (by first | exact mv_cell hM (by first | (dsimp only; omega) | (simp; omega)) hOld.2.2.2.2.2.2.2.2.2.2.1 | exact cell_later hM hOld.2.2.2.2.2.2.2.2.2.2.1 | exact HT.cb | exact HT.cc | (simp (maxDischargeDepth := 6) [go_sem, *]; done)), (by first | exact mv_cell hM (by first | (dsimp only; omega) | (simp; omega)) hOld.2.2.2.2.2.2.2.2.2.2.2 | exact cell_later hM hOld.2.2.2.2.2.2.2.2.2.2.2 | exact HT.cb | exact HT.cc | (simp (maxDischargeDepth := 6) [go_sem, *]; done))⟩ (fun hHeld => ?_)
  clear hK K hOld
  try simp only [Act.put, List.setIfInBounds_toArray, List.set_cons_zero, List.set_cons_succ]
  refine wpAnyH_take (i := 6) (v := ?_) (by simp only [List.getElem?_toArray, List.getElem?_cons_succ, List.getElem?_cons_zero]; rfl) (by kernel_rfl) (by kernel_rfl) (by kernel_rfl) (fun _ _ _ h => h) (Or.inl ⟨by rfl, ?_⟩) (by assumption) ?_
  rotate_left
  · intro w hSw; (try dsimp only at hSw); go_simp; try with_reducible rfl
  try simp only [Act.put, List.setIfInBounds_toArray, List.set_cons_zero, List.set_cons_succ]
  refine wpAnyH_take (i := 7) (v := ?_) (by simp only [List.getElem?_toArray, List.getElem?_cons_succ, List.getElem?_cons_zero]; rfl) (by kernel_rfl) (by kernel_rfl) (by kernel_rfl) (fun _ _ _ h => h) (Or.inl ⟨by rfl, ?_⟩) (by assumption) ?_
  rotate_left
  · intro w hSw; (try dsimp only at hSw); go_simp; try with_reducible rfl
  try simp only [Act.put, List.setIfInBounds_toArray, List.set_cons_zero, List.set_cons_succ]
  refine wpAnyH_take (i := 8) (v := ?_) (by simp only [List.getElem?_toArray, List.getElem?_cons_succ, List.getElem?_cons_zero]; rfl) (by kernel_rfl) (by kernel_rfl) (by kernel_rfl) (fun _ _ _ h => h) (Or.inl ⟨by rfl, ?_⟩) (by assumption) ?_
  rotate_left
  · intro w hSw; (try dsimp only at hSw); go_simp; try with_reducible rfl
  try simp only [Act.put, List.setIfInBounds_toArray, List.set_cons_zero, List.set_cons_succ]
  refine wpAnyH_take (i := 9) (v := ?_) (by simp only [List.getElem?_toArray, List.getElem?_cons_succ, List.getElem?_cons_zero]; rfl) (by kernel_rfl) (by kernel_rfl) (by kernel_rfl) (fun _ _ _ h => h) (Or.inl ⟨by rfl, ?_⟩) (by assumption) ?_
  rotate_left
  · intro w hSw; (try dsimp only at hSw); go_simp; try with_reducible rfl
  try simp only [Act.put, List.setIfInBounds_toArray, List.set_cons_zero, List.set_cons_succ]
  refine wpAnyH_take (i := 10) (v := ?_) (by simp only [List.getElem?_toArray, List.getElem?_cons_succ, List.getElem?_cons_zero]; rfl) (by kernel_rfl) (by kernel_rfl) (by kernel_rfl) (fun _ _ _ h => h) (Or.inl ⟨by rfl, ?_⟩) (by assumption) ?_
  rotate_left
  · intro w hSw; (try dsimp only at hSw); go_simp; try with_reducible rfl
  try simp only [Act.put, List.setIfInBounds_toArray, List.set_cons_zero, List.set_cons_succ]
  refine wpAnyH_take (i := 11) (v := ?_) (by simp only [List.getElem?_toArray, List.getElem?_cons_succ, List.getElem?_cons_zero]; rfl) (by kernel_rfl) (by kernel_rfl) (by kernel_rfl) (fun _ _ _ h => h) (Or.inl ⟨by rfl, ?_⟩) (by assumption) ?_
  rotate_left
  · intro w hSw; (try dsimp only at hSw); go_simp; try with_reducible rfl
  try simp only [Act.put, List.setIfInBounds_toArray, List.set_cons_zero, List.set_cons_succ]
  refine wpAnyH_take (i := 12) (v := ?_) (by simp only [List.getElem?_toArray, List.getElem?_cons_succ, List.getElem?_cons_zero]; rfl) (by kernel_rfl) (by kernel_rfl) (by kernel_rfl) (fun _ _ _ h => h) (Or.inl ⟨by rfl, ?_⟩) (by assumption) ?_
  rotate_left
  · intro w hSw; (try dsimp only at hSw); go_simp; try with_reducible rfl
  try simp only [Act.put, List.setIfInBounds_toArray, List.set_cons_zero, List.set_cons_succ]
  refine wpAnyH_take (i := 13) (v := ?_) (by simp only [List.getElem?_toArray, List.getElem?_cons_succ, List.getElem?_cons_zero]; rfl) (by kernel_rfl) (by kernel_rfl) (by kernel_rfl) (fun _ _ _ h => h) (Or.inl ⟨by rfl, ?_⟩) (by assumption) ?_
  rotate_left
  · intro w hSw; (try dsimp only at hSw); go_simp; try with_reducible rfl
  try simp only [Act.put, List.setIfInBounds_toArray, List.set_cons_zero, List.set_cons_succ]
  refine wpAnyH_take (i := 14) (v := ?_) (by simp only [List.getElem?_toArray, List.getElem?_cons_succ, List.getElem?_cons_zero]; rfl) (by kernel_rfl) (by kernel_rfl) (by kernel_rfl) (fun _ _ _ h => h) (Or.inl ⟨by rfl, ?_⟩) (by assumption) ?_
  rotate_left
  · intro w hSw; (try dsimp only at hSw); go_simp; try with_reducible rfl
  try simp only [Act.put, List.setIfInBounds_toArray, List.set_cons_zero, List.set_cons_succ]
  refine wpAnyH_take (i := 15) (v := ?_) (by simp only [List.getElem?_toArray, List.getElem?_cons_succ, List.getElem?_cons_zero]; rfl) (by kernel_rfl) (by kernel_rfl) (by kernel_rfl) (fun _ _ _ h => h) (Or.inl ⟨by rfl, ?_⟩) (by assumption) ?_
  rotate_left
  · intro w hSw; (try dsimp only at hSw); go_simp; try with_reducible rfl
  try simp only [Act.put, List.setIfInBounds_toArray, List.set_cons_zero, List.set_cons_succ]
  refine wpAnyH_take (i := 16) (v := ?_) (by simp only [List.getElem?_toArray, List.getElem?_cons_succ, List.getElem?_cons_zero]; rfl) (by kernel_rfl) (by kernel_rfl) (by kernel_rfl) (fun _ _ _ h => h) (Or.inl ⟨by rfl, ?_⟩) (by assumption) ?_
  rotate_left
  · intro w hSw; (try dsimp only at hSw); go_simp; try with_reducible rfl
  try simp only [Act.put, List.setIfInBounds_toArray, List.set_cons_zero, List.set_cons_succ]
  refine wpAnyH_take (i := 17) (v := ?_) (by simp only [List.getElem?_toArray, List.getElem?_cons_succ, List.getElem?_cons_zero]; rfl) (by kernel_rfl) (by kernel_rfl) (by kernel_rfl) (fun _ _ _ h => h) (Or.inl ⟨by rfl, ?_⟩) (by assumption) ?_
  rotate_left
  · intro w hSw; (try dsimp only at hSw); go_simp; try with_reducible rfl
  try simp only [Act.put, List.setIfInBounds_toArray, List.set_cons_zero, List.set_cons_succ]
  refine wpAnyH_take (i := 18) (v := ?_) (by simp only [List.getElem?_toArray, List.getElem?_cons_succ, List.getElem?_cons_zero]; rfl) (by kernel_rfl) (by kernel_rfl) (by kernel_rfl) (fun _ _ _ h => h) (Or.inl ⟨by rfl, ?_⟩) (by assumption) ?_
  rotate_left
  · intro w hSw; (try dsimp only at hSw); go_simp; try with_reducible rfl
  try simp only [Act.put, List.setIfInBounds_toArray, List.set_cons_zero, List.set_cons_succ]
  refine wpAnyH_take (i := 22) (v := ?_) (by simp only [List.getElem?_toArray, List.getElem?_cons_succ, List.getElem?_cons_zero]; rfl) (by kernel_rfl) (by kernel_rfl) (by kernel_rfl) (fun _ _ _ h => h) (Or.inl ⟨by rfl, ?_⟩) (by assumption) ?_
  rotate_left
  · intro w hSw; (try dsimp only at hSw); go_simp; try with_reducible rfl
  try simp only [Act.put, List.setIfInBounds_toArray, List.set_cons_zero, List.set_cons_succ]
  refine wpAnyH_take (i := 19) (v := ?_) (by simp only [List.getElem?_toArray, List.getElem?_cons_succ, List.getElem?_cons_zero]; rfl) (by kernel_rfl) (by kernel_rfl) (by kernel_rfl) (fun _ _ _ h => h) (Or.inl ⟨by rfl, ?_⟩) (by assumption) ?_
  rotate_left
  · intro w hSw; (try dsimp only at hSw); go_simp; try with_reducible rfl
  try simp only [Act.put, List.setIfInBounds_toArray, List.set_cons_zero, List.set_cons_succ]
  refine wpAnyH_take (i := 20) (v := ?_) (by simp only [List.getElem?_toArray, List.getElem?_cons_succ, List.getElem?_cons_zero]; rfl) (by kernel_rfl) (by kernel_rfl) (by kernel_rfl) (fun _ _ _ h => h) (Or.inl ⟨by rfl, ?_⟩) (by assumption) ?_
  rotate_left
  · intro w hSw; (try dsimp only at hSw); go_simp; try with_reducible rfl
  try simp only [Act.put, List.setIfInBounds_toArray, List.set_cons_zero, List.set_cons_succ]
  refine wpAnyH_take (i := 23) (v := ?_) (by simp only [List.getElem?_toArray, List.getElem?_cons_succ, List.getElem?_cons_zero]; rfl) (by kernel_rfl) (by kernel_rfl) (by kernel_rfl) (fun _ _ _ h => h) (Or.inl ⟨by rfl, ?_⟩) (by assumption) ?_
  rotate_left
  · intro w hSw; (try dsimp only at hSw); go_simp; try with_reducible rfl
  try simp only [Act.put, List.setIfInBounds_toArray, List.set_cons_zero, List.set_cons_succ]
  refine wpAnyH_take (i := 24) (v := ?_) (by simp only [List.getElem?_toArray, List.getElem?_cons_succ, List.getElem?_cons_zero]; rfl) (by kernel_rfl) (by kernel_rfl) (by kernel_rfl) (fun _ _ _ h => h) (Or.inl ⟨by rfl, ?_⟩) (by assumption) ?_
  rotate_left
  · intro w hSw; (try dsimp only at hSw); go_simp; try with_reducible rfl
  try simp only [Act.put, List.setIfInBounds_toArray, List.set_cons_zero, List.set_cons_succ]
  have hOld := hHeld; clear hHeld
  refine wpAnyH_ready (rs := [21]) (by kernel_rfl) (by simp) (AllReadyH.cons rfl (fun K hK => ?_) AllReadyH.nil)
  go_simp
  (go_at_call 32; (with_reducible refine (Tw.call1 (by (repeat (first | with_reducible assumption | with_reducible apply Tw.alloc | with_reducible apply Tw.drew | ((with_reducible apply Tw.after); rotate_left; (with_reducible assumption)) | ((with_reducible apply Tw.setCell); rotate_left; (first | (dsimp only; omega) | omega | (simp; omega)); (first | (dsimp only; omega) | omega | (simp; omega)); (first | (dsimp only; omega) | omega | (simp; omega)))))) (k5 _ _ _)).mono ?_); rintro e w1 ⟨rfl, hM, HT⟩)
  (try go_wp2_with (fail))
  refine hK.out _ _ ⟨(by first | exact mv_cell hM (by first | (dsimp only; omega) | (simp; omega)) hOld.1 | exact cell_later hM hOld.1 | exact HT.cb | exact HT.cc | (simp (maxDischargeDepth := 6) [go_sem, *]; done)), (by first | exact mv_cell hM (by first | (dsimp only; omega) | (simp; omega)) hOld.2.1 | exact cell_later hM hOld.2.1 | exact HT.cb | exact HT.cc | (simp (maxDischargeDepth := 6) [go_sem, *]; done)), (by first | exact mv_cell hM (by first | (dsimp only; omega) | (simp; omega)) hOld.2.2.1 | exact cell_later hM hOld.2.2.1 | exact HT.cb | exact HT.cc | (simp (maxDischargeDepth := 6) [go_sem, *]; done)), (by first | exact mv_cell hM (by first | (dsimp only; omega) | (simp; omega)) hOld.2.2.2.1 | exact cell_later hM hOld.2.2.2.1 | exact HT.cb | exact HT.cc | (simp (maxDischargeDepth := 6) [go_sem, *]; done)), (by first | exact mv_cell hM (by first | (dsimp only; omega) | (simp; omega)) hOld.2.2.2.2.1 | exact cell_later hM hOld.2.2.2.2.1 | exact HT.cb | exact HT.cc | (simp (maxDischargeDepth := 6) [go_sem, *]; done)), (by first | exact mv_cell hM (by first | (dsimp only; omega) | (simp; omega)) hOld.2.2.2.2.2.1 | exact cell_later hM hOld.2.2.2.2.2.1 | exact HT.cb | exact HT.cc | (simp (maxDischargeDepth := 6) [go_sem, *]; done)), (by first | exact mv_cell hM (by first | (dsimp only; omega) | (simp; omega)) hOld.2.2.2.2.2.2.1 | exact cell_later hM hOld.2.2.2.2.2.2.1 | exact HT.cb | exact HT.cc | (simp (maxDischargeDepth := 6) [go_sem, *]; done)), (by first | exact mv_cell hM (by first | (dsimp only; omega) | (simp; omega)) hOld.2.2.2.2.2.2.2.1 | exact cell_later hM hOld.2.2.2.2.2.2.2.1 | exact HT.cb | exact HT.cc | (simp (maxDischargeDepth := 6) [go_sem, *]; done)), (by first | exact mv_cell hM (by first | (dsimp only; omega) | (simp; omega)) hOld.2.2.2.2.2.2.2.2.1 | exact cell_later hM hOld.2.2.2.2.2.2.2.2.1 | exact HT.cb | exact HT.cc | (simp (maxDischargeDepth := 6) [go_sem, *]; done)), (by first | exact mv_cell hM (by first | (dsimp only; omega) | (simp; omega)) hOld.2.2.2.2.2.2.2.2.2.1 | exact cell_later hM hOld.2.2.2.2.2.2.2.2.2.1 | exact HT.cb | exact HT.cc | (simp (maxDischargeDepth := 6) [go_sem, *]; done)), (by first | exact mv_cell hM (by first | (dsimp only; omega) | (simp; omega)) hOld.2.2.2.2.2.2.2.2.2.2.1 | exact cell_later hM hOld.2.2.2.2.2.2.2.2.2.2.1 | exact HT.cb | exact HT.cc | (simp (maxDischargeDepth := 6) [go_sem, *]; done)), (by first | exact mv_cell hM (by first | (dsimp only; omega) | (simp; omega)) hOld.2.2.2.2.2.2.2.2.2.2.2 | exact cell_later hM hOld.2.2.2.2.2.2.2.2.2.2.2 | exact HT.cb | exact HT.cc | (simp (maxDischargeDepth := 6) [go_sem, *]; done))⟩ (fun hHeld => ?_)
  clear hK K hOld
  try simp only [Act.put, List.setIfInBounds_toArray, List.set_cons_zero, List.set_cons_succ]
  have hOld := hHeld; clear hHeld
  refine wpAnyH_ready (rs := [25]) (by kernel_rfl) (by simp) (AllReadyH.cons rfl (fun K hK => ?_) AllReadyH.nil)
  go_simp
  (go_at_call 33; (with_reducible refine (Tw.call2 (by (repeat (first | with_reducible assumption | with_reducible apply Tw.alloc | with_reducible apply Tw.drew | ((with_reducible apply Tw.after); rotate_left; (with_reducible assumption)) | ((with_reducible apply Tw.setCell); rotate_left; (first | (dsimp only; omega) | omega | (simp; omega)); (first | (dsimp only; omega) | omega | (simp; omega)); (first | (dsimp only; omega) | omega | (simp; omega)))))) (k6 _ _ _)).mono ?_); rintro e w1 ⟨rfl, hM, HT⟩)
  (try go_wp2_with (fail))
  refine hK.out _ _ ⟨(by first | exact mv_cell hM (by first | (dsimp only; omega) | (simp; omega)) hOld.1 | exact cell_later hM hOld.1 | exact HT.cb | exact HT.cc | (simp (maxDischargeDepth := 6) [go_sem, *]; done)), (by first | exact mv_cell hM (by first | (dsimp only; omega) | (simp; omega)) hOld.2.1 | exact cell_later hM hOld.2.1 | exact HT.cb | exact HT.cc | (simp (maxDischargeDepth := 6) [go_sem, *]; done)), (by first | exact mv_cell hM (by first | (dsimp only; omega) | (simp; omega)) hOld.2.2.1 | exact cell_later hM hOld.2.2.1 | exact HT.cb | exact HT.cc | (simp (maxDischargeDepth := 6) [go_sem, *]; done)), (by first | exact mv_cell hM (by first | (dsimp only; omega) | (simp; omega)) hOld.2.2.2.1 | exact cell_later hM hOld.2.2.2.1 | exact HT.cb | exact HT.cc | (simp (maxDischargeDepth := 6) [go_sem, *]; done)), (by first | exact mv_cell hM (by first | (dsimp only; omega) | (simp; omega)) hOld.2.2.2.2.1 | exact cell_later hM hOld.2.2.2.2.1 | exact HT.cb | exact HT.cc | (simp (maxDischargeDepth := 6) [go_sem, *]; done)), (by first | exact mv_cell hM (by first | (dsimp only; omega) | (simp; omega)) hOld.2.2.2.2.2.1 | exact cell_later hM hOld.2.2.2.2.2.1 | exact HT.cb | exact HT.cc | (simp (maxDischargeDepth := 6) [go_sem, *]; done)), (by first | exact mv_cell hM (by first | (dsimp only; omega) | (simp; omega)) hOld.2.2.2.2.2.2.1 | exact cell_later hM hOld.2.2.2.2.2.2.1 | exact HT.cb | exact HT.cc | (simp (maxDischargeDepth := 6) [go_sem, *]; done)), (by first | exact mv_cell hM (by first | (dsimp only; omega) | (simp; omega)) hOld.2.2.2.2.2.2.2.1 | exact cell_later hM hOld.2.2.2.2.2.2.2.1 | exact HT.cb | exact HT.cc | (simp (maxDischargeDepth := 6) [go_sem, *]; done)), (by first | exact mv_cell hM (by first | (dsimp only; omega) | (simp; omega)) hOld.2.2.2.2.2.2.2.2.1 | exact cell_later hM hOld.2.2.2.2.2.2.2.2.1 | exact HT.cb | exact HT.cc | (simp (maxDischargeDepth := 6) [go_sem, *]; done)), (by first | exact mv_cell hM (by first | (dsimp only; omega) | (simp; omega)) hOld.2.2.2.2.2.2.2.2.2.1 | exact cell_later hM hOld.2.2.2.2.2.2.2.2.2.1 | exact HT.cb | exact HT.cc | (simp (maxDischargeDepth := 6) [go_sem, *]; done)), (by first | exact mv_cell hM (by first | (dsimp only; omega) | (simp; omega)) hOld.2.2.2.2.2.2.2.2.2.2.1 | exact cell_later hM hOld.2.2.2.2.2.2.2.2.2.2.1 | exact HT.cb | exact HT.cc | (simp (maxDischargeDepth := 6) [go_sem, *]; done)), (by first | exact mv_cell hM (by first | (dsimp only; omega) | (simp; omega)) hOld.2.2.2.2.2.2.2.2.2.2.2 | exact cell_later hM hOld.2.2.2.2.2.2.2.2.2.2.2 | exact HT.cb | exact HT.cc | (simp (maxDischargeDepth := 6) [go_sem, *]; done))⟩ (fun hHeld => ?_)
  clear hK K hOld
  try simp only [Act.put, List.setIfInBounds_toArray, List.set_cons_zero, List.set_cons_succ]
  obtain ⟨ov, HT⟩ : ∃ ov, Tw (w.heap.size + 1 + 1) (w.heap.size + 1 + 1 + 1) ov ov w w1 := ⟨_, HT⟩
  have hcb := HT.cb; have hcc := HT.cc; have HB := HT.below
  refine wpAnyH_weaken (S' := (fun (w' : World) => w'.cell? ⟨w.heap.size, 0, none⟩ = some (.int .i64 a0) ∧ w'.cell? ⟨w.heap.size, 1, none⟩ = some (.int .i64 a1) ∧ w'.cell? ⟨w.heap.size, 2, none⟩ = some (.int .i64 a2) ∧ w'.cell? ⟨w.heap.size + 1, 0, none⟩ = some (.int .i64 b0) ∧ w'.cell? ⟨w.heap.size + 1, 1, none⟩ = some (.int .i64 b1) ∧ w'.cell? ⟨w.heap.size + 1, 2, none⟩ = some (.int .i64 b2) ∧ w'.cell? ⟨g.heap.size, 0, none⟩ = some (.int .i64 p1) ∧ w'.cell? ⟨g.heap.size, 1, none⟩ = some (.int .i64 p2) ∧ w'.cell? ⟨g.heap.size, 2, none⟩ = some (.int .i64 p3) ∧ w'.cell? ⟨h.heap.size, 0, none⟩ = some (.int .i64 p1) ∧ w'.cell? ⟨h.heap.size, 1, none⟩ = some (.int .i64 p2) ∧ w'.cell? ⟨h.heap.size, 2, none⟩ = some (.int .i64 p3) ∧ w'.cell? ⟨w.heap.size + 1 + 1, 0, none⟩ = some (.bool ov) ∧ w'.cell? ⟨w.heap.size + 1 + 1 + 1, 0, none⟩ = some (.bool ov))) (fun _ h => ⟨h.1, h.2.1, h.2.2.1, h.2.2.2.1, h.2.2.2.2.1, h.2.2.2.2.2.1, h.2.2.2.2.2.2.1, h.2.2.2.2.2.2.2.1, h.2.2.2.2.2.2.2.2.1, h.2.2.2.2.2.2.2.2.2.1, h.2.2.2.2.2.2.2.2.2.2.1, h.2.2.2.2.2.2.2.2.2.2.2.1⟩) _ _ _ _ ?_
  replace hHeld := (show ((fun (w' : World) => w'.cell? ⟨w.heap.size, 0, none⟩ = some (.int .i64 a0) ∧ w'.cell? ⟨w.heap.size, 1, none⟩ = some (.int .i64 a1) ∧ w'.cell? ⟨w.heap.size, 2, none⟩ = some (.int .i64 a2) ∧ w'.cell? ⟨w.heap.size + 1, 0, none⟩ = some (.int .i64 b0) ∧ w'.cell? ⟨w.heap.size + 1, 1, none⟩ = some (.int .i64 b1) ∧ w'.cell? ⟨w.heap.size + 1, 2, none⟩ = some (.int .i64 b2) ∧ w'.cell? ⟨g.heap.size, 0, none⟩ = some (.int .i64 p1) ∧ w'.cell? ⟨g.heap.size, 1, none⟩ = some (.int .i64 p2) ∧ w'.cell? ⟨g.heap.size, 2, none⟩ = some (.int .i64 p3) ∧ w'.cell? ⟨h.heap.size, 0, none⟩ = some (.int .i64 p1) ∧ w'.cell? ⟨h.heap.size, 1, none⟩ = some (.int .i64 p2) ∧ w'.cell? ⟨h.heap.size, 2, none⟩ = some (.int .i64 p3) ∧ w'.cell? ⟨w.heap.size + 1 + 1, 0, none⟩ = some (.bool ov) ∧ w'.cell? ⟨w.heap.size + 1 + 1 + 1, 0, none⟩ = some (.bool ov))) _ from ⟨(hHeld.1), (hHeld.2.1), (hHeld.2.2.1), (hHeld.2.2.2.1), (hHeld.2.2.2.2.1), (hHeld.2.2.2.2.2.1), (hHeld.2.2.2.2.2.2.1), (hHeld.2.2.2.2.2.2.2.1), (hHeld.2.2.2.2.2.2.2.2.1), (hHeld.2.2.2.2.2.2.2.2.2.1), (hHeld.2.2.2.2.2.2.2.2.2.2.1), (hHeld.2.2.2.2.2.2.2.2.2.2.2), (by first | assumption | (simp (maxDischargeDepth := 6) [go_sem, *]; done)), (by first | assumption | (simp (maxDischargeDepth := 6) [go_sem, *]; done))⟩)
  try dsimp only at hHeld
  refine wpAnyH_take (i := 26) (v := ?_) (by simp only [List.getElem?_toArray, List.getElem?_cons_succ, List.getElem?_cons_zero]; rfl) (by kernel_rfl) (by kernel_rfl) (by kernel_rfl) (fun _ _ _ h => h) (Or.inl ⟨by rfl, ?_⟩) (by assumption) ?_
  rotate_left
  · intro w hSw; (try dsimp only at hSw); go_simp; try with_reducible rfl
  try simp only [Act.put, List.setIfInBounds_toArray, List.set_cons_zero, List.set_cons_succ]
  refine wpAnyH_take (i := 27) (v := ?_) (by simp only [List.getElem?_toArray, List.getElem?_cons_succ, List.getElem?_cons_zero]; rfl) (by kernel_rfl) (by kernel_rfl) (by kernel_rfl) (fun _ _ _ h => h) (Or.inl ⟨by rfl, ?_⟩) (by assumption) ?_
  rotate_left
  · intro w hSw; (try dsimp only at hSw); go_simp; try with_reducible rfl
  try simp only [Act.put, List.setIfInBounds_toArray, List.set_cons_zero, List.set_cons_succ]
  refine wpAnyH_take (i := 28) (v := ?_) (by simp only [List.getElem?_toArray, List.getElem?_cons_succ, List.getElem?_cons_zero]; rfl) (by kernel_rfl) (by kernel_rfl) (by kernel_rfl) (fun _ _ _ h => h) (Or.inl ⟨by rfl, ?_⟩) (by assumption) ?_
  rotate_left
  · intro w hSw; (try dsimp only at hSw); go_simp; try with_reducible rfl
  try simp only [Act.put, List.setIfInBounds_toArray, List.set_cons_zero, List.set_cons_succ]
  refine wpAnyH_take (i := 29) (v := ?_) (by simp only [List.getElem?_toArray, List.getElem?_cons_succ, List.getElem?_cons_zero]; rfl) (by kernel_rfl) (by kernel_rfl) (by kernel_rfl) (fun _ _ _ h => h) (Or.inl ⟨by rfl, ?_⟩) (by assumption) ?_
  rotate_left
  · intro w hSw; (try dsimp only at hSw); go_simp; try with_reducible rfl
  try simp only [Act.put, List.setIfInBounds_toArray, List.set_cons_zero, List.set_cons_succ]
  refine wpAnyH_take (i := 30) (v := ?_) (by simp only [List.getElem?_toArray, List.getElem?_cons_succ, List.getElem?_cons_zero]; rfl) (by kernel_rfl) (by kernel_rfl) (by kernel_rfl) (fun _ _ _ h => h) (Or.inl ⟨by rfl, ?_⟩) (by assumption) ?_
  rotate_left
  · intro w hSw; (try dsimp only at hSw); go_simp; try with_reducible rfl
  try simp only [Act.put, List.setIfInBounds_toArray, List.set_cons_zero, List.set_cons_succ]
  refine wpAnyH_take (i := 31) (v := ?_) (by simp only [List.getElem?_toArray, List.getElem?_cons_succ, List.getElem?_cons_zero]; rfl) (by kernel_rfl) (by kernel_rfl) (by kernel_rfl) (fun _ _ _ h => h) (Or.inl ⟨by rfl, ?_⟩) (by assumption) ?_
  rotate_left
  · intro w hSw; (try dsimp only at hSw); go_simp; try with_reducible rfl
  try simp only [Act.put, List.setIfInBounds_toArray, List.set_cons_zero, List.set_cons_succ]
  refine wpAnyH_take (i := 33) (v := ?_) (by simp only [List.getElem?_toArray, List.getElem?_cons_succ, List.getElem?_cons_zero]; rfl) (by kernel_rfl) (by kernel_rfl) (by kernel_rfl) (fun _ _ _ h => h) (Or.inl ⟨by rfl, ?_⟩) (by assumption) ?_
  rotate_left
  · intro w hSw; (try dsimp only at hSw); go_simp; try with_reducible rfl
  try simp only [Act.put, List.setIfInBounds_toArray, List.set_cons_zero, List.set_cons_succ]
  refine wpAnyH_take (i := 34) (v := ?_) (by simp only [List.getElem?_toArray, List.getElem?_cons_succ, List.getElem?_cons_zero]; rfl) (by kernel_rfl) (by kernel_rfl) (by kernel_rfl) (fun _ _ _ h => h) (Or.inl ⟨by rfl, ?_⟩) (by assumption) ?_
  rotate_left
  · intro w hSw; (try dsimp only at hSw); go_simp; try with_reducible rfl
  try simp only [Act.put, List.setIfInBounds_toArray, List.set_cons_zero, List.set_cons_succ]
  refine wpAnyH_take (i := 35) (v := ?_) (by simp only [List.getElem?_toArray, List.getElem?_cons_succ, List.getElem?_cons_zero]; rfl) (by kernel_rfl) (by kernel_rfl) (by kernel_rfl) (fun _ _ _ h => h) (Or.inl ⟨by rfl, ?_⟩) (by assumption) ?_
  rotate_left
  · intro w hSw; (try dsimp only at hSw); go_simp; try with_reducible rfl
  try simp only [Act.put, List.setIfInBounds_toArray, List.set_cons_zero, List.set_cons_succ]
  refine wpAnyH_take (i := 32) (v := ?_) (by simp only [List.getElem?_toArray, List.getElem?_cons_succ, List.getElem?_cons_zero]; rfl) (by kernel_rfl) (by kernel_rfl) (by kernel_rfl) (fun _ _ _ h => h) (Or.inl ⟨by rfl, ?_⟩) (by assumption) ?_
  rotate_left
  · intro w hSw; (try dsimp only at hSw); go_simp; try with_reducible rfl
  try simp only [Act.put, List.setIfInBounds_toArray, List.set_cons_zero, List.set_cons_succ]
  refine wpAnyH_take (i := 36) (v := ?_) (by simp only [List.getElem?_toArray, List.getElem?_cons_succ, List.getElem?_cons_zero]; rfl) (by kernel_rfl) (by kernel_rfl) (by kernel_rfl) (fun _ _ _ h => h) (Or.inl ⟨by rfl, ?_⟩) (by assumption) ?_
  rotate_left
  · intro w hSw; (try dsimp only at hSw); go_simp; try with_reducible rfl
  try simp only [Act.put, List.setIfInBounds_toArray, List.set_cons_zero, List.set_cons_succ]
  refine wpAnyH_take (i := 37) (v := ?_) (by simp only [List.getElem?_toArray, List.getElem?_cons_succ, List.getElem?_cons_zero]; rfl) (by kernel_rfl) (by kernel_rfl) (by kernel_rfl) (fun _ _ _ h => h) (Or.inl ⟨by rfl, ?_⟩) (by assumption) ?_
  rotate_left
  · intro w hSw; (try dsimp only at hSw); go_simp; try with_reducible rfl
  try simp only [Act.put, List.setIfInBounds_toArray, List.set_cons_zero, List.set_cons_succ]
  refine wpAnyH_take (i := 38) (v := ?_) (by simp only [List.getElem?_toArray, List.getElem?_cons_succ, List.getElem?_cons_zero]; rfl) (by kernel_rfl) (by kernel_rfl) (by kernel_rfl) (fun _ _ _ h => h) (Or.inl ⟨by rfl, ?_⟩) (by assumption) ?_
  rotate_left
  · intro w hSw; (try dsimp only at hSw); go_simp; try with_reducible rfl
  try simp only [Act.put, List.setIfInBounds_toArray, List.set_cons_zero, List.set_cons_succ]
  refine wpAnyH_take (i := 39) (v := ?_) (by simp only [List.getElem?_toArray, List.getElem?_cons_succ, List.getElem?_cons_zero]; rfl) (by kernel_rfl) (by kernel_rfl) (by kernel_rfl) (fun _ _ _ h => h) (Or.inl ⟨by rfl, ?_⟩) (by assumption) ?_
  rotate_left
  · intro w hSw; (try dsimp only at hSw); go_simp; try with_reducible rfl
  try simp only [Act.put, List.setIfInBounds_toArray, List.set_cons_zero, List.set_cons_succ]
  have hOld := hHeld; clear hHeld
  refine wpAnyH_ready (rs := [40]) (by kernel_rfl) (by simp) (AllReadyH.cons rfl (fun K hK => ?_) AllReadyH.nil)
  go_simp
  (go_at_call 12; (with_reducible refine (cAwake5 _).mono ?_); rintro e w1 ⟨rfl, hM⟩)
  (try go_wp2_with (fail))
  refine hK.out _ _ ⟨(by first | exact mv_cell hM (by first | (dsimp only; omega) | (simp; omega)) hOld.1 | exact cell_later hM hOld.1 | exact HT.cb | exact HT.cc | (simp (maxDischargeDepth := 6) [go_sem, *]; done)), (by first | exact mv_cell hM (by first | (dsimp only; omega) | (simp; omega)) hOld.2.1 | exact cell_later hM hOld.2.1 | exact HT.cb | exact HT.cc | (simp (maxDischargeDepth := 6) [go_sem, *]; done)), (by first | exact mv_cell hM (by first | (dsimp only; omega) | (simp; omega)) hOld.2.2.1 | exact cell_later hM hOld.2.2.1 | exact HT.cb | exact HT.cc | (simp (maxDischargeDepth := 6) [go_sem, *]; done)), (by first | exact mv_cell hM (by first | (dsimp only; omega) | (simp; omega)) hOld.2.2.2.1 | exact cell_later hM hOld.2.2.2.1 | exact HT.cb | exact HT.cc | (simp (maxDischargeDepth := 6) [go_sem, *]; done)), (by first | exact mv_cell hM (by first | (dsimp only; omega) | (simp; omega)) hOld.2.2.2.2.1 | exact cell_later hM hOld.2.2.2.2.1 | exact HT.cb | exact HT.cc | (simp (maxDischargeDepth := 6) [go_sem, *]; done)), (by first | exact mv_cell hM (by first | (dsimp only; omega) | (simp; omega)) hOld.2.2.2.2.2.1 | exact cell_later hM hOld.2.2.2.2.2.1 | exact HT.cb | exact HT.cc | (simp (maxDischargeDepth := 6) [go_sem, *]; done)), (by first | exact mv_cell hM (by first | (dsimp only; omega) | (simp; omega)) hOld.2.2.2.2.2.2.1 | exact cell_later hM hOld.2.2.2.2.2.2.1 | exact HT.cb | exact HT.cc | (simp (maxDischargeDepth := 6) [go_sem, *]; done)), (by first | exact mv_cell hM (by first | (dsimp only; omega) | (simp; omega)) hOld.2.2.2.2.2.2.2.1 | exact cell_later hM hOld.2.2.2.2.2.2.2.1 | exact HT.cb | exact HT.cc | (simp (maxDischargeDepth := 6) [go_sem, *]; done)), (by first | exact mv_cell hM (by first | (dsimp only; omega) | (simp; omega)) hOld.2.2.2.2.2.2.2.2.1 | exact cell_later hM hOld.2.2.2.2.2.2.2.2.1 | exact HT.cb | exact HT.cc | (simp (maxDischargeDepth := 6) [go_sem, *]; done)), (by first | exact mv_cell hM (by first | (dsimp only; omega) | (simp; omega)) hOld.2.2.2.2.2.2.2.2.2.1 | exact cell_later hM hOld.2.2.2.2.2.2.2.2.2.1 | exact HT.cb | exact HT.cc | (simp (maxDischargeDepth := 6) [go_sem, *]; done)), (by first | exact mv_cell hM (by first | (dsimp only; omega) | (simp; omega)) hOld.2.2.2.2.2.2.2.2.2.2.1 | exact cell_later hM hOld.2.2.2.2.2.2.2.2.2.2.1 | exact HT.cb | exact HT.cc | (simp (maxDischargeDepth := 6) [go_sem, *]; done)), (by first | exact mv_cell hM (by first | (dsimp only; omega) | (simp; omega)) hOld.2.2.2.2.2.2.2.2.2.2.2.1 | exact cell_later hM hOld.2.2.2.2.2.2.2.2.2.2.2.1 | exact HT.cb | exact HT.cc | (simp (maxDischargeDepth := 6) [go_sem, *]; done)), (by first | exact mv_cell hM (by first | (dsimp only; omega) | (simp; omega)) hOld.2.2.2.2.2.2.2.2.2.2.2.2.1 | exact cell_later hM hOld.2.2.2.2.2.2.2.2.2.2.2.2.1 | exact HT.cb | exact HT.cc | (simp (maxDischargeDepth := 6) [go_sem, *]; done)), (by first | exact mv_cell hM (by first | (dsimp only; omega) | (simp; omega)) hOld.2.2.2.2.2.2.2.2.2.2.2.2.2 | exact cell_later hM hOld.2.2.2.2.2.2.2.2.2.2.2.2.2 | exact HT.cb | exact HT.cc | (simp (maxDischargeDepth := 6) [go_sem, *]; done))⟩ (fun hHeld => ?_)
  clear hK K hOld
  try simp only [Act.put, List.setIfInBounds_toArray, List.set_cons_zero, List.set_cons_succ]
  refine wpAnyH_take (i := 41) (v := ?_) (by simp only [List.getElem?_toArray, List.getElem?_cons_succ, List.getElem?_cons_zero]; rfl) (by kernel_rfl) (by kernel_rfl) (by kernel_rfl) (fun _ _ _ h => h) (Or.inl ⟨by rfl, ?_⟩) (by assumption) ?_
  rotate_left
  · intro w hSw; (try dsimp only at hSw); go_simp; try with_reducible rfl
  try simp only [Act.put, List.setIfInBounds_toArray, List.set_cons_zero, List.set_cons_succ]
  refine wpAnyH_take (i := 42) (v := ?_) (by simp only [List.getElem?_toArray, List.getElem?_cons_succ, List.getElem?_cons_zero]; rfl) (by kernel_rfl) (by kernel_rfl) (by kernel_rfl) (fun _ _ _ h => h) (Or.inl ⟨by rfl, ?_⟩) (by assumption) ?_
  rotate_left
  · intro w hSw; (try dsimp only at hSw); go_simp; try with_reducible rfl
  try simp only [Act.put, List.setIfInBounds_toArray, List.set_cons_zero, List.set_cons_succ]
  refine wpAnyH_done (by kernel_rfl) ?_ _
  (try refine NoPanic.normal ?_)
  (try clear q0); (try clear q1); (try clear q2); (try clear q3); (try clear q4); (try clear q5); (try clear q6); (try clear q7); (try clear q8); (try clear q9); (try clear q10); (try clear q11); (try clear q12); (try clear q13); obtain ⟨q0, q1, q2, q3, q4, q5, q6, q7, q8, q9, q10, q11, q12, q13⟩ := hHeld
  go_wp2
  go_ret
  exact ⟨rfl, by first | exact below_step HB hM | (repeat (first | with_reducible assumption | with_reducible exact Below.refl _ _ | ((with_reducible refine Below.setCell ?_ ?_ _); rotate_left; (first | exact Nat.le_refl _ | (dsimp only; omega) | (simp; done) | (simp; omega))) | with_reducible refine below_alloc ?_ _ | with_reducible apply below_drewN | with_reducible apply Below.drew | with_reducible refine below_step ?_ (by assumption)))⟩
end Go.Proofs.Ytfmihddcfmhonaa
