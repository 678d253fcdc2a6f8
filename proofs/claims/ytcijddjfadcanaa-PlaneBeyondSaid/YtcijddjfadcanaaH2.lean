/- Contracts of package plane, continued: areas, sides. -/
import Derived.Test.YtcijddjfadcanaaH1
import Derived.Test.YtcijddjfadcanaaW0
import Derived.Deep.RegionHeld3
set_option linter.unusedSimpArgs false
set_option linter.unusedVariables false
namespace Go.Proofs.Ytcijddjfadcanaa
open Go.RowKit
set_option maxHeartbeats 2000000 in
theorem cWCross (x y u v : Int) (w : World) (x0 : -562949953421312 ≤ x) (x1 : x ≤ 562949953421312) (y0 : -562949953421312 ≤ y) (y1 : y ≤ 562949953421312) (u0 : -562949953421312 ≤ u) (u1 : u ≤ 562949953421312) (v0 : -562949953421312 ≤ v) (v1 : v ≤ 562949953421312) :
    Calls Try.prog 46 #[.agg #[.int .i64 x, .int .i64 y], .agg #[.int .i64 u, .int .i64 v]] w fun e w' => e = .returned (.agg #[.int .i64 (hw (x * v - y * u)), .int .u64 (lw (x * v - y * u))]) ∧ Below w.heap.size w w' := by
  have m1 := mul49 x v x0 x1 v0 v1
  have m2 := mul49 y u y0 y1 u0 u1
  have k1 := fun W => cWMul x v W (by omega) (by omega) (by omega) (by omega)
  have k2 := fun W => cWMul y u W (by omega) (by omega) (by omega) (by omega)
  have k3 := fun W => cPLess (x * v) (y * u) W (by omega) (by omega) (by omega) (by omega)
  generalize x * v = p at *
  generalize y * u = q at *
  go_enter Try.func46, Try.ntmps46
  go_upto_region 1 with (fail)
  (try refine wp_region_noPanic ?_)
  refine wp_region_held_drew (S := (fun (w' : World) => w'.cell? ⟨w.heap.size, 0, none⟩ = some (.int .i64 x) ∧ w'.cell? ⟨w.heap.size, 1, none⟩ = some (.int .i64 y) ∧ w'.cell? ⟨w.heap.size + 1, 0, none⟩ = some (.int .i64 u) ∧ w'.cell? ⟨w.heap.size + 1, 1, none⟩ = some (.int .i64 v))) (by kernel_rfl) ⟨(by first | (simp (maxDischargeDepth := 6) [go_sem, *]; done)), (by first | (simp (maxDischargeDepth := 6) [go_sem, *]; done)), (by first | (simp (maxDischargeDepth := 6) [go_sem, *]; done)), (by first | (simp (maxDischargeDepth := 6) [go_sem, *]; done))⟩ (fun hHeld => ?_)
  refine wpAnyH_take (i := 0) (v := ?_) (by simp only [List.getElem?_toArray, List.getElem?_cons_succ, List.getElem?_cons_zero]; rfl) (by kernel_rfl) (by kernel_rfl) (by kernel_rfl) (fun _ _ _ h => h) (Or.inl ⟨by rfl, ?_⟩) (by assumption) ?_
  rotate_left
  · intro w hSw; (try dsimp only at hSw); go_simp; try with_reducible rfl
  try simp only [Act.put, List.setIfInBounds_toArray, List.set_cons_zero, List.set_cons_succ]
  refine wpAnyH_take (i := 2) (v := ?_) (by simp only [List.getElem?_toArray, List.getElem?_cons_succ, List.getElem?_cons_zero]; rfl) (by kernel_rfl) (by kernel_rfl) (by kernel_rfl) (fun _ _ _ h => h) (Or.inl ⟨by rfl, ?_⟩) (by assumption) ?_
  rotate_left
  · intro w hSw; (try dsimp only at hSw); go_simp; try with_reducible rfl
  try simp only [Act.put, List.setIfInBounds_toArray, List.set_cons_zero, List.set_cons_succ]
  refine wpAnyH_take (i := 5) (v := ?_) (by simp only [List.getElem?_toArray, List.getElem?_cons_succ, List.getElem?_cons_zero]; rfl) (by kernel_rfl) (by kernel_rfl) (by kernel_rfl) (fun _ _ _ h => h) (Or.inl ⟨by rfl, ?_⟩) (by assumption) ?_
  rotate_left
  · intro w hSw; (try dsimp only at hSw); go_simp; try with_reducible rfl
  try simp only [Act.put, List.setIfInBounds_toArray, List.set_cons_zero, List.set_cons_succ]
  refine wpAnyH_take (i := 7) (v := ?_) (by simp only [List.getElem?_toArray, List.getElem?_cons_succ, List.getElem?_cons_zero]; rfl) (by kernel_rfl) (by kernel_rfl) (by kernel_rfl) (fun _ _ _ h => h) (Or.inl ⟨by rfl, ?_⟩) (by assumption) ?_
  rotate_left
  · intro w hSw; (try dsimp only at hSw); go_simp; try with_reducible rfl
  try simp only [Act.put, List.setIfInBounds_toArray, List.set_cons_zero, List.set_cons_succ]
  refine wpAnyH_take (i := 1) (v := ?_) (by simp only [List.getElem?_toArray, List.getElem?_cons_succ, List.getElem?_cons_zero]; rfl) (by kernel_rfl) (by kernel_rfl) (by kernel_rfl) (fun _ _ _ h => h) (Or.inl ⟨by rfl, ?_⟩) (by assumption) ?_
  rotate_left
  · intro w hSw; (try dsimp only at hSw); go_simp; try with_reducible rfl
  try simp only [Act.put, List.setIfInBounds_toArray, List.set_cons_zero, List.set_cons_succ]
  refine wpAnyH_take (i := 3) (v := ?_) (by simp only [List.getElem?_toArray, List.getElem?_cons_succ, List.getElem?_cons_zero]; rfl) (by kernel_rfl) (by kernel_rfl) (by kernel_rfl) (fun _ _ _ h => h) (Or.inl ⟨by rfl, ?_⟩) (by assumption) ?_
  rotate_left
  · intro w hSw; (try dsimp only at hSw); go_simp; try with_reducible rfl
  try simp only [Act.put, List.setIfInBounds_toArray, List.set_cons_zero, List.set_cons_succ]
  refine wpAnyH_take (i := 6) (v := ?_) (by simp only [List.getElem?_toArray, List.getElem?_cons_succ, List.getElem?_cons_zero]; rfl) (by kernel_rfl) (by kernel_rfl) (by kernel_rfl) (fun _ _ _ h => h) (Or.inl ⟨by rfl, ?_⟩) (by assumption) ?_
  rotate_left
  · intro w hSw; (try dsimp only at hSw); go_simp; try with_reducible rfl
  try simp only [Act.put, List.setIfInBounds_toArray, List.set_cons_zero, List.set_cons_succ]
  refine wpAnyH_take (i := 8) (v := ?_) (by simp only [List.getElem?_toArray, List.getElem?_cons_succ, List.getElem?_cons_zero]; rfl) (by kernel_rfl) (by kernel_rfl) (by kernel_rfl) (fun _ _ _ h => h) (Or.inl ⟨by rfl, ?_⟩) (by assumption) ?_
  rotate_left
  · intro w hSw; (try dsimp only at hSw); go_simp; try with_reducible rfl
  try simp only [Act.put, List.setIfInBounds_toArray, List.set_cons_zero, List.set_cons_succ]
  have hOld := hHeld; clear hHeld
  refine wpAnyH_ready (rs := [4]) (by kernel_rfl) (by simp) (AllReadyH.cons rfl (fun K hK => ?_) AllReadyH.nil)
  go_simp
  (go_at_call 38; (with_reducible refine (k1 _).mono ?_); rintro e w1 ⟨rfl, hM⟩; have hr := cell_later (a := ⟨w.heap.size + 1 + 1, 0, none⟩) (v := .int .i64 0) hM (by first | assumption | (simp (maxDischargeDepth := 6) [go_sem, *]; done)); have hg := frozen_later (a := ⟨w.heap.size + 1 + 1, 0, none⟩) (v := .int .i64 0) hM (by first | assumption | (simp (maxDischargeDepth := 6) [go_sem, *]; done)) (by first | assumption | (simp (maxDischargeDepth := 6) [go_sem, *]; done)); have hr := cell_later (a := ⟨w.heap.size + 1 + 1, 1, none⟩) (v := .int .u64 0) hM (by first | assumption | (simp (maxDischargeDepth := 6) [go_sem, *]; done)); have hg := frozen_later (a := ⟨w.heap.size + 1 + 1, 1, none⟩) (v := .int .u64 0) hM (by first | assumption | (simp (maxDischargeDepth := 6) [go_sem, *]; done)) (by first | assumption | (simp (maxDischargeDepth := 6) [go_sem, *]; done)))
  (try go_wp2_with (fail))
  refine hK.out _ _ ⟨(by first | exact mv_cell hM (by first | (dsimp only; omega) | (simp; omega)) hOld.1 | exact cell_later hM hOld.1 | exact HT.cb | exact HT.cc | (simp (maxDischargeDepth := 6) [go_sem, *]; done)), (by first | exact mv_cell hM (by first | (dsimp only; omega) | (simp; omega)) hOld.2.1 | exact cell_later hM hOld.2.1 | exact HT.cb | exact HT.cc | (simp (maxDischargeDepth := 6) [go_sem, *]; done)), (by first | exact mv_cell hM (by first | (dsimp only; omega) | (simp; omega)) hOld.2.2.1 | exact cell_later hM hOld.2.2.1 | exact HT.cb | exact HT.cc | (simp (maxDischargeDepth := 6) [go_sem, *]; done)), (by first | exact mv_cell hM (by first | (dsimp only; omega) | (simp; omega)) hOld.2.2.2 | exact cell_later hM hOld.2.2.2 | exact HT.cb | exact HT.cc | (simp (maxDischargeDepth := 6) [go_sem, *]; done))⟩ (fun hHeld => ?_)
  clear hK K hOld
  try simp only [Act.put, List.setIfInBounds_toArray, List.set_cons_zero, List.set_cons_succ]
  have hOld := hHeld; clear hHeld
  refine wpAnyH_ready (rs := [9]) (by kernel_rfl) (by simp) (AllReadyH.cons rfl (fun K hK => ?_) AllReadyH.nil)
  go_simp
  (go_at_call 38; (with_reducible refine (k2 _).mono ?_); rintro e w1 ⟨rfl, hM⟩; have hr := cell_later (a := ⟨w.heap.size + 1 + 1, 0, none⟩) (v := .int .i64 0) hM (by first | assumption | (simp (maxDischargeDepth := 6) [go_sem, *]; done)); have hg := frozen_later (a := ⟨w.heap.size + 1 + 1, 0, none⟩) (v := .int .i64 0) hM (by first | assumption | (simp (maxDischargeDepth := 6) [go_sem, *]; done)) (by first | assumption | (simp (maxDischargeDepth := 6) [go_sem, *]; done)); have hr := cell_later (a := ⟨w.heap.size + 1 + 1, 1, none⟩) (v := .int .u64 0) hM (by first | assumption | (simp (maxDischargeDepth := 6) [go_sem, *]; done)); have hg := frozen_later (a := ⟨w.heap.size + 1 + 1, 1, none⟩) (v := .int .u64 0) hM (by first | assumption | (simp (maxDischargeDepth := 6) [go_sem, *]; done)) (by first | assumption | (simp (maxDischargeDepth := 6) [go_sem, *]; done)))
  (try go_wp2_with (fail))
  refine hK.out _ _ ⟨(by first | exact mv_cell hM (by first | (dsimp only; omega) | (simp; omega)) hOld.1 | exact cell_later hM hOld.1 | exact HT.cb | exact HT.cc | (simp (maxDischargeDepth := 6) [go_sem, *]; done)), (by first | exact mv_cell hM (by first | (dsimp only; omega) | (simp; omega)) hOld.2.1 | exact cell_later hM hOld.2.1 | exact HT.cb | exact HT.cc | (simp (maxDischargeDepth := 6) [go_sem, *]; done)), (by first | exact mv_cell hM (by first | (dsimp only; omega) | (simp; omega)) hOld.2.2.1 | exact cell_later hM hOld.2.2.1 | exact HT.cb | exact HT.cc | (simp (maxDischargeDepth := 6) [go_sem, *]; done)), (by first | exact mv_cell hM (by first | (dsimp only; omega) | (simp; omega)) hOld.2.2.2 | exact cell_later hM hOld.2.2.2 | exact HT.cb | exact HT.cc | (simp (maxDischargeDepth := 6) [go_sem, *]; done))⟩ (fun hHeld => ?_)
  clear hK K hOld
  try simp only [Act.put, List.setIfInBounds_toArray, List.set_cons_zero, List.set_cons_succ]
  have hOld := hHeld; clear hHeld
  refine wpAnyH_ready (rs := [10]) (by kernel_rfl) (by simp) (AllReadyH.cons rfl (fun K hK => ?_) AllReadyH.nil)
  go_simp
  (go_at_call 27; (with_reducible refine (k3 _).mono ?_); rintro e w1 ⟨rfl, hM⟩; have hr := cell_later (a := ⟨w.heap.size + 1 + 1, 0, none⟩) (v := .int .i64 0) hM (by first | assumption | (simp (maxDischargeDepth := 6) [go_sem, *]; done)); have hg := frozen_later (a := ⟨w.heap.size + 1 + 1, 0, none⟩) (v := .int .i64 0) hM (by first | assumption | (simp (maxDischargeDepth := 6) [go_sem, *]; done)) (by first | assumption | (simp (maxDischargeDepth := 6) [go_sem, *]; done)); have hr := cell_later (a := ⟨w.heap.size + 1 + 1, 1, none⟩) (v := .int .u64 0) hM (by first | assumption | (simp (maxDischargeDepth := 6) [go_sem, *]; done)); have hg := frozen_later (a := ⟨w.heap.size + 1 + 1, 1, none⟩) (v := .int .u64 0) hM (by first | assumption | (simp (maxDischargeDepth := 6) [go_sem, *]; done)) (by first | assumption | (simp (maxDischargeDepth := 6) [go_sem, *]; done)))
  (try go_wp2_with (fail))
  refine hK.out _ _ ⟨(by first | exact mv_cell hM (by first | (dsimp only; omega) | (simp; omega)) hOld.1 | exact cell_later hM hOld.1 | exact HT.cb | exact HT.cc | (simp (maxDischargeDepth := 6) [go_sem, *]; done)), (by first | exact mv_cell hM (by first | (dsimp only; omega) | (simp; omega)) hOld.2.1 | exact cell_later hM hOld.2.1 | exact HT.cb | exact HT.cc | (simp (maxDischargeDepth := 6) [go_sem, *]; done)), (by first | exact mv_cell hM (by first | (dsimp only; omega) | (simp; omega)) hOld.2.2.1 | exact cell_later hM hOld.2.2.1 | exact HT.cb | exact HT.cc | (simp (maxDischargeDepth := 6) [go_sem, *]; done)), (by first | exact mv_cell hM (by first | (dsimp only; omega) | (simp; omega)) hOld.2.2.2 | exact cell_later hM hOld.2.2.2 | exact HT.cb | exact HT.cc | (simp (maxDischargeDepth := 6) [go_sem, *]; done))⟩ (fun hHeld => ?_)
  clear hK K hOld
  try simp only [Act.put, List.setIfInBounds_toArray, List.set_cons_zero, List.set_cons_succ]
  have hOld := hHeld; clear hHeld
  refine wpAnyH_ready (rs := [11]) (by kernel_rfl) (by simp) (AllReadyH.cons rfl (fun K hK => ?_) AllReadyH.nil)
  go_simp
  (try go_wp2_with (fail))
  refine hK.out _ _ ⟨(by first | exact mv_cell hM (by first | (dsimp only; omega) | (simp; omega)) hOld.1 | exact cell_later hM hOld.1 | exact HT.cb | exact HT.cc | (simp (maxDischargeDepth := 6) [go_sem, *]; done)), (by first | exact mv_cell hM (by first | (dsimp only; omega) | (simp; omega)) hOld.2.1 | exact cell_later hM hOld.2.1 | exact HT.cb | exact HT.cc | (simp (maxDischargeDepth := 6) [go_sem, *]; done)), (by first | exact mv_cell hM (by first | (dsimp only; omega) | (simp; omega)) hOld.2.2.1 | exact cell_later hM hOld.2.2.1 | exact HT.cb | exact HT.cc | (simp (maxDischargeDepth := 6) [go_sem, *]; done)), (by first | exact mv_cell hM (by first | (dsimp only; omega) | (simp; omega)) hOld.2.2.2 | exact cell_later hM hOld.2.2.2 | exact HT.cb | exact HT.cc | (simp (maxDischargeDepth := 6) [go_sem, *]; done))⟩ (fun hHeld => ?_)
  clear hK K hOld
  try simp only [Act.put, List.setIfInBounds_toArray, List.set_cons_zero, List.set_cons_succ]
  refine wpAnyH_done (by kernel_rfl) ?_ _
  (try refine NoPanic.normal ?_)
  (try clear q0); (try clear q1); (try clear q2); (try clear q3); obtain ⟨q0, q1, q2, q3⟩ := hHeld
  go_wp2
  simp (maxDischargeDepth := 8) [bodyPost, results, Try.results46, go_sem, *]
  (repeat (first | with_reducible assumption | with_reducible exact Below.refl _ _ | ((with_reducible refine Below.setCell ?_ ?_ _); rotate_left; (first | exact Nat.le_refl _ | (dsimp only; omega) | (simp; done) | (simp; omega))) | with_reducible refine below_alloc ?_ _ | with_reducible apply below_drewN | with_reducible apply Below.drew | with_reducible refine below_step ?_ (by assumption)))
set_option maxHeartbeats 2000000 in
theorem cWDot (x y u v : Int) (w : World) (x0 : -562949953421312 ≤ x) (x1 : x ≤ 562949953421312) (y0 : -562949953421312 ≤ y) (y1 : y ≤ 562949953421312) (u0 : -562949953421312 ≤ u) (u1 : u ≤ 562949953421312) (v0 : -562949953421312 ≤ v) (v1 : v ≤ 562949953421312) :
    Calls Try.prog 34 #[.agg #[.int .i64 x, .int .i64 y], .agg #[.int .i64 u, .int .i64 v]] w fun e w' => e = .returned (.agg #[.int .i64 (hw (x * u + y * v)), .int .u64 (lw (x * u + y * v))]) ∧ Below w.heap.size w w' := by
  have m1 := mul49 x u x0 x1 u0 u1
  have m2 := mul49 y v y0 y1 v0 v1
  have k1 := fun W => cWMul x u W (by omega) (by omega) (by omega) (by omega)
  have k2 := fun W => cWMul y v W (by omega) (by omega) (by omega) (by omega)
  have k3 := fun W => nWAdd (x * u) (y * v) W (by omega) (by omega) (by omega) (by omega)
  generalize x * u = p0 at *
  generalize y * v = q0 at *
  rw [cw_yes (p0 + q0) (by omega) (by omega), fw_yes (p0 + q0) (by omega) (by omega)] at k3
  go_enter Try.func34, Try.ntmps34
  go_upto_region 1 with (fail)
  go_cut [5] (fun p wx => ∃ g : Nat, p = .pointer (some ⟨g, 0, none⟩) ∧ wx.cell? ⟨g, 0, none⟩ = some (.int .i64 (hw (p0 + q0))) ∧ wx.cell? ⟨g, 1, none⟩ = some (.int .u64 (lw (p0 + q0))) ∧ Below w.heap.size w wx ∧
    wx.cell? ⟨w.heap.size + 1 + 1, 0, none⟩ = some (.int .i64 0) ∧ wx.cell? ⟨w.heap.size + 1 + 1, 1, none⟩ = some (.int .u64 0) ∧ wx.frozen? ⟨w.heap.size + 1 + 1, 0, none⟩ = false ∧ wx.frozen? ⟨w.heap.size + 1 + 1, 1, none⟩ = false)
  case first =>
    go_region_held3 (fun (w' : World) => w'.cell? ⟨w.heap.size, 0, none⟩ = some (.int .i64 x) ∧ w'.cell? ⟨w.heap.size, 1, none⟩ = some (.int .i64 y) ∧ w'.cell? ⟨w.heap.size + 1, 0, none⟩ = some (.int .i64 u) ∧ w'.cell? ⟨w.heap.size + 1, 1, none⟩ = some (.int .i64 v)) (exact ⟨(by first | exact cell_later hR (by first | assumption | (simp (maxDischargeDepth := 6) [go_sem, *]; done)) | (simp (maxDischargeDepth := 6) [go_sem, *]; done)), (by first | exact cell_later hR (by first | assumption | (simp (maxDischargeDepth := 6) [go_sem, *]; done)) | (simp (maxDischargeDepth := 6) [go_sem, *]; done)), (by first | exact cell_later hR (by first | assumption | (simp (maxDischargeDepth := 6) [go_sem, *]; done)) | (simp (maxDischargeDepth := 6) [go_sem, *]; done)), (by first | exact cell_later hR (by first | assumption | (simp (maxDischargeDepth := 6) [go_sem, *]; done)) | (simp (maxDischargeDepth := 6) [go_sem, *]; done))⟩) (first
      | (go_at_call 38; (with_reducible refine (k1 _).mono ?_); rintro e wr0 ⟨rfl, hR⟩; have hcR := bsome hR; have hzR := hR.size; (try simp at hzR); have nb0 := (show w.heap.size ≠ wr0.heap.size from by omega); have nc0 := nb0.symm; have nb1 := (show w.heap.size + 1 ≠ wr0.heap.size from by omega); have nc1 := nb1.symm; have nb2 := (show w.heap.size + 1 + 1 ≠ wr0.heap.size from by omega); have nc2 := nb2.symm; have rc0 := cell_later (a := ⟨w.heap.size + 1 + 1, 0, none⟩) (v := .int .i64 0) hR (by simp [go_sem]); have rf0 := frozen_later (a := ⟨w.heap.size + 1 + 1, 0, none⟩) (v := .int .i64 0) hR (by simp [go_sem]) (by simp [go_sem]); have rc1 := cell_later (a := ⟨w.heap.size + 1 + 1, 1, none⟩) (v := .int .u64 0) hR (by simp [go_sem]); have rf1 := frozen_later (a := ⟨w.heap.size + 1 + 1, 1, none⟩) (v := .int .u64 0) hR (by simp [go_sem]) (by simp [go_sem]); (first | (refine later_cf (a := ⟨w.heap.size + 1 + 1 + 1, 0, none⟩) (v := .int .i64 0) hR ?_ ?_ ?_; (focus (simp [go_sem]; done)); (focus (simp [go_sem]; done)); intro gcx00 gfx00; refine later_cf (a := ⟨w.heap.size + 1 + 1 + 1, 1, none⟩) (v := .int .u64 0) hR ?_ ?_ ?_; (focus (simp [go_sem]; done)); (focus (simp [go_sem]; done)); intro gcx01 gfx01; refine lt_k (m := w.heap.size + 1 + 1 + 1) (n := wr0.heap.size) ?_ ?_; (focus omega); intro nl na nb) | skip))
      | (go_at_call 38; (with_reducible refine (k2 _).mono ?_); rintro e wr1 ⟨rfl, hR⟩; have hcR := bsome hR; have hzR := hR.size; (try simp at hzR); have nb0 := (show w.heap.size ≠ wr1.heap.size from by omega); have nc0 := nb0.symm; have nb1 := (show w.heap.size + 1 ≠ wr1.heap.size from by omega); have nc1 := nb1.symm; have nb2 := (show w.heap.size + 1 + 1 ≠ wr1.heap.size from by omega); have nc2 := nb2.symm; have rf0 := frozen_later hR (by first | exact rc0 | exact ck rc0) (by first | exact rf0 | exact fk rc0 rf0); have rc0 := cell_later hR (by first | exact rc0 | exact ck rc0); have rf1 := frozen_later hR (by first | exact rc1 | exact ck rc1) (by first | exact rf1 | exact fk rc1 rf1); have rc1 := cell_later hR (by first | exact rc1 | exact ck rc1); (first | (refine carry_cf hR gcx00 gfx00 ?_; intro gcx00 gfx00; refine carry_cf hR gcx01 gfx01 ?_; intro gcx01 gfx01; refine lt_k (m := w.heap.size + 1 + 1 + 1) (n := wr1.heap.size) ?_ ?_; (focus omega); intro nl na nb) | skip); (first | (refine later_cf (a := ⟨wr0.heap.size, 0, none⟩) (v := .int .i64 0) hR ?_ ?_ ?_; (focus (simp [go_sem]; done)); (focus (simp [go_sem]; done)); intro gcx10 gfx10; refine later_cf (a := ⟨wr0.heap.size, 1, none⟩) (v := .int .u64 0) hR ?_ ?_ ?_; (focus (simp [go_sem]; done)); (focus (simp [go_sem]; done)); intro gcx11 gfx11; refine lt_k (m := wr0.heap.size) (n := wr1.heap.size) ?_ ?_; (focus omega); intro nl na nb) | skip))
      | (go_at_call 50; (with_reducible refine (k3 _).mono ?_); rintro e wr2 ⟨rfl, hR⟩; have hcR := bsome hR; have hzR := hR.size; (try simp at hzR); have nb0 := (show w.heap.size ≠ wr2.heap.size from by omega); have nc0 := nb0.symm; have nb1 := (show w.heap.size + 1 ≠ wr2.heap.size from by omega); have nc1 := nb1.symm; have nb2 := (show w.heap.size + 1 + 1 ≠ wr2.heap.size from by omega); have nc2 := nb2.symm; have rf0 := frozen_later hR (by first | exact rc0 | exact ck rc0) (by first | exact rf0 | exact fk rc0 rf0); have rc0 := cell_later hR (by first | exact rc0 | exact ck rc0); have rf1 := frozen_later hR (by first | exact rc1 | exact ck rc1) (by first | exact rf1 | exact fk rc1 rf1); have rc1 := cell_later hR (by first | exact rc1 | exact ck rc1); (first | (refine carry_cf hR gcx00 gfx00 ?_; intro gcx00 gfx00; refine carry_cf hR gcx01 gfx01 ?_; intro gcx01 gfx01; refine lt_k (m := w.heap.size + 1 + 1 + 1) (n := wr2.heap.size) ?_ ?_; (focus omega); intro nl na nb) | skip); (first | (refine carry_cf hR gcx10 gfx10 ?_; intro gcx10 gfx10; refine carry_cf hR gcx11 gfx11 ?_; intro gcx11 gfx11; refine lt_k (m := wr0.heap.size) (n := wr2.heap.size) ?_ ?_; (focus omega); intro nl na nb) | skip); (first | (refine later_cf (a := ⟨wr1.heap.size, 0, none⟩) (v := .int .i64 0) hR ?_ ?_ ?_; (focus (simp [go_sem]; done)); (focus (simp [go_sem]; done)); intro gcx20 gfx20; refine later_cf (a := ⟨wr1.heap.size, 1, none⟩) (v := .int .u64 0) hR ?_ ?_ ?_; (focus (simp [go_sem]; done)); (focus (simp [go_sem]; done)); intro gcx21 gfx21; refine lt_k (m := wr1.heap.size) (n := wr2.heap.size) ?_ ?_; (focus omega); intro nl na nb) | skip)))
    all_goals go_wp2
    all_goals go_meet
    all_goals refine ⟨_, rfl, by simp (maxDischargeDepth := 8) [go_sem, *], by simp (maxDischargeDepth := 8) [go_sem, *], by (repeat (first | with_reducible assumption | with_reducible exact Below.refl _ _ | ((with_reducible refine Below.setCell ?_ ?_ _); rotate_left; (first | exact Nat.le_refl _ | (dsimp only; omega) | (simp; done) | (simp; omega))) | with_reducible refine below_alloc ?_ _ | with_reducible apply below_drewN | with_reducible apply Below.drew | with_reducible refine below_step ?_ (by assumption))), ?_, ?_, ?_, ?_⟩
    all_goals first | assumption | ((refine ck ?_); assumption) | ((refine fk (v := .int .i64 0) ?_ ?_) <;> assumption) | ((refine fk (v := .int .u64 0) ?_ ?_) <;> assumption) | (simp (maxDischargeDepth := 8) [go_sem, *]; done)
  case rest =>
    obtain ⟨g, rfl, c0, c1, HB, r0, r1, f0, f1⟩ := hcut
    go_wp2
    simp (maxDischargeDepth := 8) [bodyPost, results, Try.results34, go_sem, *]
    (repeat (first | with_reducible assumption | with_reducible exact Below.refl _ _ | ((with_reducible refine Below.setCell ?_ ?_ _); rotate_left; (first | exact Nat.le_refl _ | (dsimp only; omega) | (simp; done) | (simp; omega))) | with_reducible refine below_alloc ?_ _ | with_reducible apply below_drewN | with_reducible apply Below.drew | with_reducible refine below_step ?_ (by assumption)))
set_option maxHeartbeats 2000000 in
theorem cArea (ax ay bx bY px py : Int) (w : World) (ha : pn ax ay = true) (hb : pn bx bY = true) (hp : pn px py = true) :
    Calls Try.prog 21 #[.agg #[.int .i64 ax, .int .i64 ay], .agg #[.int .i64 bx, .int .i64 bY], .agg #[.int .i64 px, .int .i64 py]] w fun e w' => e = .returned (.agg #[.int .i64 (hw (ar ax ay bx bY px py)), .int .u64 (lw (ar ax ay bx bY px py))]) ∧ Below w.heap.size w w' := by
  have k1 := fun W => cFrom ax ay bx bY W ha hb
  have k2 := fun W => cFrom ax ay px py W ha hp
  rw [pn_iff] at ha hb hp
  have k3 := fun W => cWCross (bx - ax) (bY - ay) (px - ax) (py - ay) W (by omega) (by omega) (by omega) (by omega) (by omega) (by omega) (by omega) (by omega)
  unfold ar
  generalize (bx - ax) * (py - ay) - (bY - ay) * (px - ax) = r at *
  generalize bx - ax = c1 at *
  generalize bY - ay = c2 at *
  generalize px - ax = c3 at *
  generalize py - ay = c4 at *
  go_enter Try.func21, Try.ntmps21
  go_upto_region 1 with (fail)
  (try refine wp_region_noPanic ?_)
  refine wp_region_held_drew (S := (fun (w' : World) => w'.cell? ⟨w.heap.size, 0, none⟩ = some (.int .i64 ax) ∧ w'.cell? ⟨w.heap.size, 1, none⟩ = some (.int .i64 ay) ∧ w'.cell? ⟨w.heap.size + 1, 0, none⟩ = some (.int .i64 bx) ∧ w'.cell? ⟨w.heap.size + 1, 1, none⟩ = some (.int .i64 bY) ∧ w'.cell? ⟨w.heap.size + 1 + 1, 0, none⟩ = some (.int .i64 px) ∧ w'.cell? ⟨w.heap.size + 1 + 1, 1, none⟩ = some (.int .i64 py))) (by kernel_rfl) ⟨(by first | (simp (maxDischargeDepth := 6) [go_sem, *]; done)), (by first | (simp (maxDischargeDepth := 6) [go_sem, *]; done)), (by first | (simp (maxDischargeDepth := 6) [go_sem, *]; done)), (by first | (simp (maxDischargeDepth := 6) [go_sem, *]; done)), (by first | (simp (maxDischargeDepth := 6) [go_sem, *]; done)), (by first | (simp (maxDischargeDepth := 6) [go_sem, *]; done))⟩ (fun hHeld => ?_)
  refine wpAnyH_take (i := 0) (v := ?_) (by simp only [List.getElem?_toArray, List.getElem?_cons_succ, List.getElem?_cons_zero]; rfl) (by kernel_rfl) (by kernel_rfl) (by kernel_rfl) (fun _ _ _ h => h) (Or.inl ⟨by rfl, ?_⟩) (by assumption) ?_
  rotate_left
  · intro w hSw; (try dsimp only at hSw); go_simp; try with_reducible rfl
  try simp only [Act.put, List.setIfInBounds_toArray, List.set_cons_zero, List.set_cons_succ]
  refine wpAnyH_take (i := 1) (v := ?_) (by simp only [List.getElem?_toArray, List.getElem?_cons_succ, List.getElem?_cons_zero]; rfl) (by kernel_rfl) (by kernel_rfl) (by kernel_rfl) (fun _ _ _ h => h) (Or.inl ⟨by rfl, ?_⟩) (by assumption) ?_
  rotate_left
  · intro w hSw; (try dsimp only at hSw); go_simp; try with_reducible rfl
  try simp only [Act.put, List.setIfInBounds_toArray, List.set_cons_zero, List.set_cons_succ]
  refine wpAnyH_take (i := 3) (v := ?_) (by simp only [List.getElem?_toArray, List.getElem?_cons_succ, List.getElem?_cons_zero]; rfl) (by kernel_rfl) (by kernel_rfl) (by kernel_rfl) (fun _ _ _ h => h) (Or.inl ⟨by rfl, ?_⟩) (by assumption) ?_
  rotate_left
  · intro w hSw; (try dsimp only at hSw); go_simp; try with_reducible rfl
  try simp only [Act.put, List.setIfInBounds_toArray, List.set_cons_zero, List.set_cons_succ]
  refine wpAnyH_take (i := 4) (v := ?_) (by simp only [List.getElem?_toArray, List.getElem?_cons_succ, List.getElem?_cons_zero]; rfl) (by kernel_rfl) (by kernel_rfl) (by kernel_rfl) (fun _ _ _ h => h) (Or.inl ⟨by rfl, ?_⟩) (by assumption) ?_
  rotate_left
  · intro w hSw; (try dsimp only at hSw); go_simp; try with_reducible rfl
  try simp only [Act.put, List.setIfInBounds_toArray, List.set_cons_zero, List.set_cons_succ]
  have hOld := hHeld; clear hHeld
  refine wpAnyH_ready (rs := [2]) (by kernel_rfl) (by simp) (AllReadyH.cons rfl (fun K hK => ?_) AllReadyH.nil)
  go_simp
  (go_at_call 32; (with_reducible refine (k1 _).mono ?_); rintro e w1 ⟨rfl, hM⟩; have hr := cell_later (a := ⟨w.heap.size + 1 + 1 + 1, 0, none⟩) (v := .int .i64 0) hM (by first | assumption | (simp (maxDischargeDepth := 6) [go_sem, *]; done)); have hg := frozen_later (a := ⟨w.heap.size + 1 + 1 + 1, 0, none⟩) (v := .int .i64 0) hM (by first | assumption | (simp (maxDischargeDepth := 6) [go_sem, *]; done)) (by first | assumption | (simp (maxDischargeDepth := 6) [go_sem, *]; done)); have hr := cell_later (a := ⟨w.heap.size + 1 + 1 + 1, 1, none⟩) (v := .int .u64 0) hM (by first | assumption | (simp (maxDischargeDepth := 6) [go_sem, *]; done)); have hg := frozen_later (a := ⟨w.heap.size + 1 + 1 + 1, 1, none⟩) (v := .int .u64 0) hM (by first | assumption | (simp (maxDischargeDepth := 6) [go_sem, *]; done)) (by first | assumption | (simp (maxDischargeDepth := 6) [go_sem, *]; done)))
  (try go_wp2_with (fail))
  refine hK.out _ _ ⟨(by first | exact mv_cell hM (by first | (dsimp only; omega) | (simp; omega)) hOld.1 | exact cell_later hM hOld.1 | exact HT.cb | exact HT.cc | (simp (maxDischargeDepth := 6) [go_sem, *]; done)), (by first | exact mv_cell hM (by first | (dsimp only; omega) | (simp; omega)) hOld.2.1 | exact cell_later hM hOld.2.1 | exact HT.cb | exact HT.cc | (simp (maxDischargeDepth := 6) [go_sem, *]; done)), (by first | exact mv_cell hM (by first | (dsimp only; omega) | (simp; omega)) hOld.2.2.1 | exact cell_later hM hOld.2.2.1 | exact HT.cb | exact HT.cc | (simp (maxDischargeDepth := 6) [go_sem, *]; done)), (by first | exact mv_cell hM (by first | (dsimp only; omega) | (simp; omega)) hOld.2.2.2.1 | exact cell_later hM hOld.2.2.2.1 | exact HT.cb | exact HT.cc | (simp (maxDischargeDepth := 6) [go_sem, *]; done)), (by first | exact mv_cell hM (by first | (dsimp only; omega) | (simp; omega)) hOld.2.2.2.2.1 | exact cell_later hM hOld.2.2.2.2.1 | exact HT.cb | exact HT.cc | (simp (maxDischargeDepth := 6) [go_sem, *]; done)), (by first | exact mv_cell hM (by first | (dsimp only; omega) | (simp; omega)) hOld.2.2.2.2.2 | exact cell_later hM hOld.2.2.2.2.2 | exact HT.cb | exact HT.cc | (simp (maxDischargeDepth := 6) [go_sem, *]; done))⟩ (fun hHeld => ?_)
  clear hK K hOld
  try simp only [Act.put, List.setIfInBounds_toArray, List.set_cons_zero, List.set_cons_succ]
  have hOld := hHeld; clear hHeld
  refine wpAnyH_ready (rs := [5]) (by kernel_rfl) (by simp) (AllReadyH.cons rfl (fun K hK => ?_) AllReadyH.nil)
  go_simp
  (go_at_call 32; (with_reducible refine (k2 _).mono ?_); rintro e w1 ⟨rfl, hM⟩; have hr := cell_later (a := ⟨w.heap.size + 1 + 1 + 1, 0, none⟩) (v := .int .i64 0) hM (by first | assumption | (simp (maxDischargeDepth := 6) [go_sem, *]; done)); have hg := frozen_later (a := ⟨w.heap.size + 1 + 1 + 1, 0, none⟩) (v := .int .i64 0) hM (by first | assumption | (simp (maxDischargeDepth := 6) [go_sem, *]; done)) (by first | assumption | (simp (maxDischargeDepth := 6) [go_sem, *]; done)); have hr := cell_later (a := ⟨w.heap.size + 1 + 1 + 1, 1, none⟩) (v := .int .u64 0) hM (by first | assumption | (simp (maxDischargeDepth := 6) [go_sem, *]; done)); have hg := frozen_later (a := ⟨w.heap.size + 1 + 1 + 1, 1, none⟩) (v := .int .u64 0) hM (by first | assumption | (simp (maxDischargeDepth := 6) [go_sem, *]; done)) (by first | assumption | (simp (maxDischargeDepth := 6) [go_sem, *]; done)))
  (try go_wp2_with (fail))
  refine hK.out _ _ ⟨(by first | exact mv_cell hM (by first | (dsimp only; omega) | (simp; omega)) hOld.1 | exact cell_later hM hOld.1 | exact HT.cb | exact HT.cc | (simp (maxDischargeDepth := 6) [go_sem, *]; done)), (by first | exact mv_cell hM (by first | (dsimp only; omega) | (simp; omega)) hOld.2.1 | exact cell_later hM hOld.2.1 | exact HT.cb | exact HT.cc | (simp (maxDischargeDepth := 6) [go_sem, *]; done)), (by first | exact mv_cell hM (by first | (dsimp only; omega) | (simp; omega)) hOld.2.2.1 | exact cell_later hM hOld.2.2.1 | exact HT.cb | exact HT.cc | (simp (maxDischargeDepth := 6) [go_sem, *]; done)), (by first | exact mv_cell hM (by first | (dsimp only; omega) | (simp; omega)) hOld.2.2.2.1 | exact cell_later hM hOld.2.2.2.1 | exact HT.cb | exact HT.cc | (simp (maxDischargeDepth := 6) [go_sem, *]; done)), (by first | exact mv_cell hM (by first | (dsimp only; omega) | (simp; omega)) hOld.2.2.2.2.1 | exact cell_later hM hOld.2.2.2.2.1 | exact HT.cb | exact HT.cc | (simp (maxDischargeDepth := 6) [go_sem, *]; done)), (by first | exact mv_cell hM (by first | (dsimp only; omega) | (simp; omega)) hOld.2.2.2.2.2 | exact cell_later hM hOld.2.2.2.2.2 | exact HT.cb | exact HT.cc | (simp (maxDischargeDepth := 6) [go_sem, *]; done))⟩ (fun hHeld => ?_)
  clear hK K hOld
  try simp only [Act.put, List.setIfInBounds_toArray, List.set_cons_zero, List.set_cons_succ]
  have hOld := hHeld; clear hHeld
  refine wpAnyH_ready (rs := [6]) (by kernel_rfl) (by simp) (AllReadyH.cons rfl (fun K hK => ?_) AllReadyH.nil)
  go_simp
  (go_at_call 46; (with_reducible refine (k3 _).mono ?_); rintro e w1 ⟨rfl, hM⟩; have hr := cell_later (a := ⟨w.heap.size + 1 + 1 + 1, 0, none⟩) (v := .int .i64 0) hM (by first | assumption | (simp (maxDischargeDepth := 6) [go_sem, *]; done)); have hg := frozen_later (a := ⟨w.heap.size + 1 + 1 + 1, 0, none⟩) (v := .int .i64 0) hM (by first | assumption | (simp (maxDischargeDepth := 6) [go_sem, *]; done)) (by first | assumption | (simp (maxDischargeDepth := 6) [go_sem, *]; done)); have hr := cell_later (a := ⟨w.heap.size + 1 + 1 + 1, 1, none⟩) (v := .int .u64 0) hM (by first | assumption | (simp (maxDischargeDepth := 6) [go_sem, *]; done)); have hg := frozen_later (a := ⟨w.heap.size + 1 + 1 + 1, 1, none⟩) (v := .int .u64 0) hM (by first | assumption | (simp (maxDischargeDepth := 6) [go_sem, *]; done)) (by first | assumption | (simp (maxDischargeDepth := 6) [go_sem, *]; done)))
  (try go_wp2_with (fail))
  refine hK.out _ _ ⟨(by first | exact mv_cell hM (by first | (dsimp only; omega) | (simp; omega)) hOld.1 | exact cell_later hM hOld.1 | exact HT.cb | exact HT.cc | (simp (maxDischargeDepth := 6) [go_sem, *]; done)), (by first | exact mv_cell hM (by first | (dsimp only; omega) | (simp; omega)) hOld.2.1 | exact cell_later hM hOld.2.1 | exact HT.cb | exact HT.cc | (simp (maxDischargeDepth := 6) [go_sem, *]; done)), (by first | exact mv_cell hM (by first | (dsimp only; omega) | (simp; omega)) hOld.2.2.1 | exact cell_later hM hOld.2.2.1 | exact HT.cb | exact HT.cc | (simp (maxDischargeDepth := 6) [go_sem, *]; done)), (by first | exact mv_cell hM (by first | (dsimp only; omega) | (simp; omega)) hOld.2.2.2.1 | exact cell_later hM hOld.2.2.2.1 | exact HT.cb | exact HT.cc | (simp (maxDischargeDepth := 6) [go_sem, *]; done)), (by first | exact mv_cell hM (by first | (dsimp only; omega) | (simp; omega)) hOld.2.2.2.2.1 | exact cell_later hM hOld.2.2.2.2.1 | exact HT.cb | exact HT.cc | (simp (maxDischargeDepth := 6) [go_sem, *]; done)), (by first | exact mv_cell hM (by first | (dsimp only; omega) | (simp; omega)) hOld.2.2.2.2.2 | exact cell_later hM hOld.2.2.2.2.2 | exact HT.cb | exact HT.cc | (simp (maxDischargeDepth := 6) [go_sem, *]; done))⟩ (fun hHeld => ?_)
  clear hK K hOld
  try simp only [Act.put, List.setIfInBounds_toArray, List.set_cons_zero, List.set_cons_succ]
  have hOld := hHeld; clear hHeld
  refine wpAnyH_ready (rs := [7]) (by kernel_rfl) (by simp) (AllReadyH.cons rfl (fun K hK => ?_) AllReadyH.nil)
  go_simp
  (try go_wp2_with (fail))
  refine hK.out _ _ ⟨(by first | exact mv_cell hM (by first | (dsimp only; omega) | (simp; omega)) hOld.1 | exact cell_later hM hOld.1 | exact HT.cb | exact HT.cc | (simp (maxDischargeDepth := 6) [go_sem, *]; done)), (by first | exact mv_cell hM (by first | (dsimp only; omega) | (simp; omega)) hOld.2.1 | exact cell_later hM hOld.2.1 | exact HT.cb | exact HT.cc | (simp (maxDischargeDepth := 6) [go_sem, *]; done)), (by first | exact mv_cell hM (by first | (dsimp only; omega) | (simp; omega)) hOld.2.2.1 | exact cell_later hM hOld.2.2.1 | exact HT.cb | exact HT.cc | (simp (maxDischargeDepth := 6) [go_sem, *]; done)), (by first | exact mv_cell hM (by first | (dsimp only; omega) | (simp; omega)) hOld.2.2.2.1 | exact cell_later hM hOld.2.2.2.1 | exact HT.cb | exact HT.cc | (simp (maxDischargeDepth := 6) [go_sem, *]; done)), (by first | exact mv_cell hM (by first | (dsimp only; omega) | (simp; omega)) hOld.2.2.2.2.1 | exact cell_later hM hOld.2.2.2.2.1 | exact HT.cb | exact HT.cc | (simp (maxDischargeDepth := 6) [go_sem, *]; done)), (by first | exact mv_cell hM (by first | (dsimp only; omega) | (simp; omega)) hOld.2.2.2.2.2 | exact cell_later hM hOld.2.2.2.2.2 | exact HT.cb | exact HT.cc | (simp (maxDischargeDepth := 6) [go_sem, *]; done))⟩ (fun hHeld => ?_)
  clear hK K hOld
  try simp only [Act.put, List.setIfInBounds_toArray, List.set_cons_zero, List.set_cons_succ]
  refine wpAnyH_done (by kernel_rfl) ?_ _
  (try refine NoPanic.normal ?_)
  (try clear q0); (try clear q1); (try clear q2); (try clear q3); (try clear q4); (try clear q5); obtain ⟨q0, q1, q2, q3, q4, q5⟩ := hHeld
  go_wp2
  simp (maxDischargeDepth := 8) [bodyPost, results, Try.results21, go_sem, *]
  (repeat (first | with_reducible assumption | with_reducible exact Below.refl _ _ | ((with_reducible refine Below.setCell ?_ ?_ _); rotate_left; (first | exact Nat.le_refl _ | (dsimp only; omega) | (simp; done) | (simp; omega))) | with_reducible refine below_alloc ?_ _ | with_reducible apply below_drewN | with_reducible apply Below.drew | with_reducible refine below_step ?_ (by assumption)))
end Go.Proofs.Ytcijddjfadcanaa
