/- X4, X5, X6, X7, X9, XA, L6e in one text. -/
import Derived.Test.YtjpkkpflamkjkaaX3
import Derived.Test.YtjpkkpflamkjkaaV5
import Derived.Test.YtjpkkpflamkjkaaU0
import Derived.Laws.EntriesVeiled
import Derived.Test.YtjpkkpflamkjkaaQ2
import Derived.Test.YtjpkkpflamkjkaaR4
import Derived.Test.YtjpkkpflamkjkaaX2
import Derived.Test.YtjpkkpflamkjkaaT3
import Derived.Test.YtjpkkpflamkjkaaK1
import Derived.Test.YtjpkkpflamkjkaaK2
import Derived.Test.YtjpkkpflamkjkaaBT
set_option linter.unusedSimpArgs false
set_option linter.unusedVariables false
namespace Go.Proofs.Ytjpkkpflamkjkaa
open Go.RowKit
section
set_option linter.unusedVariables false
set_option maxHeartbeats 8000000 in
set_option maxRecDepth 20000 in
theorem cApply (r0 r1 r2 r3 r4 r5 r6 r7 r8 v0 v1 v2 : Int) (b : Nat) (o : Bool) (w : World) (r0_0 : -9223372036854775808 ≤ r0) (r0_1 : r0 ≤ 9223372036854775807) (r1_0 : -9223372036854775808 ≤ r1) (r1_1 : r1 ≤ 9223372036854775807) (r2_0 : -9223372036854775808 ≤ r2) (r2_1 : r2 ≤ 9223372036854775807) (r3_0 : -9223372036854775808 ≤ r3) (r3_1 : r3 ≤ 9223372036854775807) (r4_0 : -9223372036854775808 ≤ r4) (r4_1 : r4 ≤ 9223372036854775807) (r5_0 : -9223372036854775808 ≤ r5) (r5_1 : r5 ≤ 9223372036854775807) (r6_0 : -9223372036854775808 ≤ r6) (r6_1 : r6 ≤ 9223372036854775807) (r7_0 : -9223372036854775808 ≤ r7) (r7_1 : r7 ≤ 9223372036854775807) (r8_0 : -9223372036854775808 ≤ r8) (r8_1 : r8 ≤ 9223372036854775807) (v0_0 : -9223372036854775808 ≤ v0) (v0_1 : v0 ≤ 9223372036854775807) (v1_0 : -9223372036854775808 ≤ v1) (v1_1 : v1 ≤ 9223372036854775807) (v2_0 : -9223372036854775808 ≤ v2) (v2_1 : v2 ≤ 9223372036854775807) (hc : w.cell? ⟨b, 0, none⟩ = some (.bool o)) (hf : w.frozen? ⟨b, 0, none⟩ = false) :
    Calls Try.prog 11 #[.pointer (some ⟨b, 0, none⟩), .agg #[.int .i64 r0, .int .i64 r1, .int .i64 r2, .int .i64 r3, .int .i64 r4, .int .i64 r5, .int .i64 r6, .int .i64 r7, .int .i64 r8], .agg #[.int .i64 v0, .int .i64 v1, .int .i64 v2]] w fun e w' =>
      e = .returned (.agg #[.int .i64 (dt r0 r1 r2 v0 v1 v2), .int .i64 (dt r3 r4 r5 v0 v1 v2), .int .i64 (dt r6 r7 r8 v0 v1 v2)]) ∧ Mv b (o || !dtok r0 r1 r2 v0 v1 v2 || !dtok r3 r4 r5 v0 v1 v2 || !dtok r6 r7 r8 v0 v1 v2) w w' := by
  have hb := lt_of_cell hc
  have HM := Mv.refl hc hf
  clear hc hf
  have k0 := fun O W => cVDot r0 r1 r2 v0 v1 v2 b O W r0_0 r0_1 r1_0 r1_1 r2_0 r2_1 v0_0 v0_1 v1_0 v1_1 v2_0 v2_1
  have k1 := fun O W => cVDot r3 r4 r5 v0 v1 v2 b O W r3_0 r3_1 r4_0 r4_1 r5_0 r5_1 v0_0 v0_1 v1_0 v1_1 v2_0 v2_1
  have k2 := fun O W => cVDot r6 r7 r8 v0 v1 v2 b O W r6_0 r6_1 r7_0 r7_1 r8_0 r8_1 v0_0 v0_1 v1_0 v1_1 v2_0 v2_1
  generalize dt r0 r1 r2 v0 v1 v2 = d0 at *
  generalize dt r3 r4 r5 v0 v1 v2 = d1 at *
  generalize dt r6 r7 r8 v0 v1 v2 = d2 at *
  generalize dtok r0 r1 r2 v0 v1 v2 = f0 at *
  generalize dtok r3 r4 r5 v0 v1 v2 = f1 at *
  generalize dtok r6 r7 r8 v0 v1 v2 = f2 at *
  clear r0_0 r0_1 r1_0 r1_1 r2_0 r2_1 r3_0 r3_1 r4_0 r4_1 r5_0 r5_1 r6_0 r6_1 r7_0 r7_1 r8_0 r8_1 v0_0 v0_1 v1_0 v1_1 v2_0 v2_1
  go_enter Try.func11, Try.ntmps11
  go_upto_region 1 with (fail)
  generalize hW : World.alloc _ _ = W1
  have hR : W1.heap[w.heap.size + 1 + 1]? = some (.cells #[.int .i64 0, .int .i64 0, .int .i64 0] 26 (0, 0)) := by
    rw [← hW]
    have := row_new ((w.alloc (.cells #[.int .i64 r0, .int .i64 r1, .int .i64 r2, .int .i64 r3, .int .i64 r4, .int .i64 r5, .int .i64 r6, .int .i64 r7, .int .i64 r8] 33)).alloc (.cells #[.int .i64 v0, .int .i64 v1, .int .i64 v2] 26)) (.cells #[.int .i64 0, .int .i64 0, .int .i64 0] 26)
    simpa only [World.size_alloc] using this
  have c0 : W1.cell? ⟨w.heap.size, 0, none⟩ = some (.int .i64 r0) := by rw [← hW]; simp [go_sem]
  have c1 : W1.cell? ⟨w.heap.size, 1, none⟩ = some (.int .i64 r1) := by rw [← hW]; simp [go_sem]
  have c2 : W1.cell? ⟨w.heap.size, 2, none⟩ = some (.int .i64 r2) := by rw [← hW]; simp [go_sem]
  have c3 : W1.cell? ⟨w.heap.size, 3, none⟩ = some (.int .i64 r3) := by rw [← hW]; simp [go_sem]
  have c4 : W1.cell? ⟨w.heap.size, 4, none⟩ = some (.int .i64 r4) := by rw [← hW]; simp [go_sem]
  have c5 : W1.cell? ⟨w.heap.size, 5, none⟩ = some (.int .i64 r5) := by rw [← hW]; simp [go_sem]
  have c6 : W1.cell? ⟨w.heap.size, 6, none⟩ = some (.int .i64 r6) := by rw [← hW]; simp [go_sem]
  have c7 : W1.cell? ⟨w.heap.size, 7, none⟩ = some (.int .i64 r7) := by rw [← hW]; simp [go_sem]
  have c8 : W1.cell? ⟨w.heap.size, 8, none⟩ = some (.int .i64 r8) := by rw [← hW]; simp [go_sem]
  have d0' : W1.cell? ⟨w.heap.size + 1, 0, none⟩ = some (.int .i64 v0) := by rw [← hW]; simp [go_sem]
  have d1' : W1.cell? ⟨w.heap.size + 1, 1, none⟩ = some (.int .i64 v1) := by rw [← hW]; simp [go_sem]
  have d2' : W1.cell? ⟨w.heap.size + 1, 2, none⟩ = some (.int .i64 v2) := by rw [← hW]; simp [go_sem]
  have HM : Mv b o w W1 := by rw [← hW]; exact ((HM.alloc _).alloc _).alloc _
  clear hW
  (try refine wp_region_noPanic ?_)
  refine wp_region_ssa (S := (fun (w' : World) => w'.cell? ⟨w.heap.size, 0, none⟩ = some (.int .i64 r0) ∧ w'.cell? ⟨w.heap.size, 1, none⟩ = some (.int .i64 r1) ∧ w'.cell? ⟨w.heap.size, 2, none⟩ = some (.int .i64 r2) ∧ w'.cell? ⟨w.heap.size, 3, none⟩ = some (.int .i64 r3) ∧ w'.cell? ⟨w.heap.size, 4, none⟩ = some (.int .i64 r4) ∧ w'.cell? ⟨w.heap.size, 5, none⟩ = some (.int .i64 r5) ∧ w'.cell? ⟨w.heap.size, 6, none⟩ = some (.int .i64 r6) ∧ w'.cell? ⟨w.heap.size, 7, none⟩ = some (.int .i64 r7) ∧ w'.cell? ⟨w.heap.size, 8, none⟩ = some (.int .i64 r8) ∧ w'.cell? ⟨w.heap.size + 1, 0, none⟩ = some (.int .i64 v0) ∧ w'.cell? ⟨w.heap.size + 1, 1, none⟩ = some (.int .i64 v1) ∧ w'.cell? ⟨w.heap.size + 1, 2, none⟩ = some (.int .i64 v2))) (#[none, none, none, none, none, none, none, some 0, some 1, some 2, some 3, some 4, some 5, some 6, some 7, some 8, some 9, some 10, some 11, some 12, some 13, some 14, some 15] : Array (Option Nat)) (by kernel_rfl) (by kernel_rfl) (by kernel_rfl) ⟨(by first | (simp (maxDischargeDepth := 6) [go_sem, *]; done)), (by first | (simp (maxDischargeDepth := 6) [go_sem, *]; done)), (by first | (simp (maxDischargeDepth := 6) [go_sem, *]; done)), (by first | (simp (maxDischargeDepth := 6) [go_sem, *]; done)), (by first | (simp (maxDischargeDepth := 6) [go_sem, *]; done)), (by first | (simp (maxDischargeDepth := 6) [go_sem, *]; done)), (by first | (simp (maxDischargeDepth := 6) [go_sem, *]; done)), (by first | (simp (maxDischargeDepth := 6) [go_sem, *]; done)), (by first | (simp (maxDischargeDepth := 6) [go_sem, *]; done)), (by first | (simp (maxDischargeDepth := 6) [go_sem, *]; done)), (by first | (simp (maxDischargeDepth := 6) [go_sem, *]; done)), (by first | (simp (maxDischargeDepth := 6) [go_sem, *]; done))⟩ (fun hSSA hHeld => ?_)
  refine wpAnyH_sl (n := 8) (l' := (#[true, true, false, true, false, true, true, false, true, false, true, true, false, true, false, false, false] : Array Bool)) [0, 1, 3, 5, 6, 8, 10, 11, 13] [some 7, some 8, some 10, some 12, some 13, some 15, some 17, some 18, some 20] hSSA (
    LvY.take (by rfl) (by intro w hSw; (try dsimp only at hSw); go_simp; try with_reducible rfl) <|
    LvY.take (by rfl) (by intro w hSw; (try dsimp only at hSw); go_simp; try with_reducible rfl) <|
    LvY.skip <|
    LvY.take (by rfl) (by intro w hSw; (try dsimp only at hSw); go_simp; try with_reducible rfl) <|
    LvY.skip <|
    LvY.take (by rfl) (by intro w hSw; (try dsimp only at hSw); go_simp; try with_reducible rfl) <|
    LvY.take (by rfl) (by intro w hSw; (try dsimp only at hSw); go_simp; try with_reducible rfl) <|
    LvY.skip <|
    LvY.take (by rfl) (by intro w hSw; (try dsimp only at hSw); go_simp; try with_reducible rfl) <|
    LvY.skip <|
    LvY.take (by rfl) (by intro w hSw; (try dsimp only at hSw); go_simp; try with_reducible rfl) <|
    LvY.take (by rfl) (by intro w hSw; (try dsimp only at hSw); go_simp; try with_reducible rfl) <|
    LvY.skip <|
    LvY.take (by rfl) (by intro w hSw; (try dsimp only at hSw); go_simp; try with_reducible rfl) <|
    LvY.skip <|
    LvY.skip <|
    LvY.skip <|
    LvY.nil) (by rfl) (by rfl) (by kernel_rfl) (fun _ _ _ _ _ h => h) (by kernel_rfl) (by kernel_rfl) (by kernel_rfl) (by assumption) ?_
  simp only [lvVs, putDs, Act.put, List.setIfInBounds_toArray, List.set_cons_zero, List.set_cons_succ]
  refine wpAnyH_sl (n := 5) (l' := (#[true, true, true, true, false, true, true, true, true, false, true, true, true, true, false, false, false] : Array Bool)) [2, 7, 12] [some 9, some 14, some 19] hSSA (
    LvY.skip <|
    LvY.skip <|
    LvY.take (by rfl) (by intro w hSw; (try dsimp only at hSw); go_simp; try with_reducible rfl) <|
    LvY.skip <|
    LvY.skip <|
    LvY.skip <|
    LvY.skip <|
    LvY.take (by rfl) (by intro w hSw; (try dsimp only at hSw); go_simp; try with_reducible rfl) <|
    LvY.skip <|
    LvY.skip <|
    LvY.skip <|
    LvY.skip <|
    LvY.take (by rfl) (by intro w hSw; (try dsimp only at hSw); go_simp; try with_reducible rfl) <|
    LvY.skip <|
    LvY.skip <|
    LvY.skip <|
    LvY.skip <|
    LvY.nil) (by rfl) (by rfl) (by kernel_rfl) (fun _ _ _ _ _ h => h) (by kernel_rfl) (by kernel_rfl) (by kernel_rfl) (by assumption) ?_
  simp only [lvVs, putDs, Act.put, List.setIfInBounds_toArray, List.set_cons_zero, List.set_cons_succ]
  have hOld := hHeld; clear hHeld
  refine wpAnyH_on (i := 4) (n := 4) (l' := (#[true, true, true, true, true, true, true, true, true, false, true, true, true, true, false, false, false] : Array Bool)) (by kernel_rfl) (by kernel_rfl) (by kernel_rfl) (by simp only [List.getElem?_toArray, List.getElem?_cons_succ, List.getElem?_cons_zero]; rfl) (by rfl) (fun K hK => ?_)
  go_simp
  (go_at_call 39; (with_reducible refine (mvCall (b := b) (w0 := w) (by (repeat (first | with_reducible assumption | with_reducible exact Mv.refl (by assumption) (by assumption) | with_reducible apply Mv.alloc | with_reducible apply Mv.drew | with_reducible apply Mv.drewN | ((with_reducible apply Mv.setCell); rotate_left; (first | (dsimp only; omega) | omega | (simp; omega)); (first | (dsimp only; omega) | omega | (simp; omega))) | ((with_reducible apply Mv.below); rotate_left; (with_reducible assumption)) | ((with_reducible apply Mv.trans); rotate_left; (with_reducible assumption))))) (k0 _ _)).mono ?_); rintro e w1 ⟨rfl, hM, HM⟩)
  (try go_wp2_with (fail))
  refine hK.out _ _ ⟨(by first | exact mv_cell hM (by first | (dsimp only; omega) | (simp; omega)) hOld.1 | exact cell_later hM hOld.1 | exact HT.cb | exact HT.cc | (simp (maxDischargeDepth := 6) [go_sem, *]; done)), (by first | exact mv_cell hM (by first | (dsimp only; omega) | (simp; omega)) hOld.2.1 | exact cell_later hM hOld.2.1 | exact HT.cb | exact HT.cc | (simp (maxDischargeDepth := 6) [go_sem, *]; done)), (by first | exact mv_cell hM (by first | (dsimp only; omega) | (simp; omega)) hOld.2.2.1 | exact cell_later hM hOld.2.2.1 | exact HT.cb | exact HT.cc | (simp (maxDischargeDepth := 6) [go_sem, *]; done)), (by first | exact mv_cell hM (by first | (dsimp only; omega) | (simp; omega)) hOld.2.2.2.1 | exact cell_later hM hOld.2.2.2.1 | exact HT.cb | exact HT.cc | (simp (maxDischargeDepth := 6) [go_sem, *]; done)), (by first | exact mv_cell hM (by first | (dsimp only; omega) | (simp; omega)) hOld.2.2.2.2.1 | exact cell_later hM hOld.2.2.2.2.1 | exact HT.cb | exact HT.cc | (simp (maxDischargeDepth := 6) [go_sem, *]; done)), (by first | exact mv_cell hM (by first | (dsimp only; omega) | (simp; omega)) hOld.2.2.2.2.2.1 | exact cell_later hM hOld.2.2.2.2.2.1 | exact HT.cb | exact HT.cc | (simp (maxDischargeDepth := 6) [go_sem, *]; done)), (by first | exact mv_cell hM (by first | (dsimp only; omega) | (simp; omega)) hOld.2.2.2.2.2.2.1 | exact cell_later hM hOld.2.2.2.2.2.2.1 | exact HT.cb | exact HT.cc | (simp (maxDischargeDepth := 6) [go_sem, *]; done)), (by first | exact mv_cell hM (by first | (dsimp only; omega) | (simp; omega)) hOld.2.2.2.2.2.2.2.1 | exact cell_later hM hOld.2.2.2.2.2.2.2.1 | exact HT.cb | exact HT.cc | (simp (maxDischargeDepth := 6) [go_sem, *]; done)), (by first | exact mv_cell hM (by first | (dsimp only; omega) | (simp; omega)) hOld.2.2.2.2.2.2.2.2.1 | exact cell_later hM hOld.2.2.2.2.2.2.2.2.1 | exact HT.cb | exact HT.cc | (simp (maxDischargeDepth := 6) [go_sem, *]; done)), (by first | exact mv_cell hM (by first | (dsimp only; omega) | (simp; omega)) hOld.2.2.2.2.2.2.2.2.2.1 | exact cell_later hM hOld.2.2.2.2.2.2.2.2.2.1 | exact HT.cb | exact HT.cc | (simp (maxDischargeDepth := 6) [go_sem, *]; done)), (by first | exact mv_cell hM (by first | (dsimp only; omega) | (simp; omega)) hOld.2.2.2.2.2.2.2.2.2.2.1 | exact cell_later hM hOld.2.2.2.2.2.2.2.2.2.2.1 | exact HT.cb | exact HT.cc | (simp (maxDischargeDepth := 6) [go_sem, *]; done)), (by first | exact mv_cell hM (by first | (dsimp only; omega) | (simp; omega)) hOld.2.2.2.2.2.2.2.2.2.2.2 | exact cell_later hM hOld.2.2.2.2.2.2.2.2.2.2.2 | exact HT.cb | exact HT.cc | (simp (maxDischargeDepth := 6) [go_sem, *]; done))⟩ (fun hHeld => ?_)
  clear hK K hOld
  try simp only [Act.put, List.setIfInBounds_toArray, List.set_cons_zero, List.set_cons_succ]
  have hR := row_mv (g := w.heap.size + 1 + 1) hM hR (by omega); clear hM
  have hOld := hHeld; clear hHeld
  refine wpAnyH_on (i := 9) (n := 3) (l' := (#[true, true, true, true, true, true, true, true, true, true, true, true, true, true, false, false, false] : Array Bool)) (by kernel_rfl) (by kernel_rfl) (by kernel_rfl) (by simp only [List.getElem?_toArray, List.getElem?_cons_succ, List.getElem?_cons_zero]; rfl) (by rfl) (fun K hK => ?_)
  go_simp
  (go_at_call 39; (with_reducible refine (mvCall (b := b) (w0 := w) (by (repeat (first | with_reducible assumption | with_reducible exact Mv.refl (by assumption) (by assumption) | with_reducible apply Mv.alloc | with_reducible apply Mv.drew | with_reducible apply Mv.drewN | ((with_reducible apply Mv.setCell); rotate_left; (first | (dsimp only; omega) | omega | (simp; omega)); (first | (dsimp only; omega) | omega | (simp; omega))) | ((with_reducible apply Mv.below); rotate_left; (with_reducible assumption)) | ((with_reducible apply Mv.trans); rotate_left; (with_reducible assumption))))) (k1 _ _)).mono ?_); rintro e w1 ⟨rfl, hM, HM⟩)
  (try go_wp2_with (fail))
  refine hK.out _ _ ⟨(by first | exact mv_cell hM (by first | (dsimp only; omega) | (simp; omega)) hOld.1 | exact cell_later hM hOld.1 | exact HT.cb | exact HT.cc | (simp (maxDischargeDepth := 6) [go_sem, *]; done)), (by first | exact mv_cell hM (by first | (dsimp only; omega) | (simp; omega)) hOld.2.1 | exact cell_later hM hOld.2.1 | exact HT.cb | exact HT.cc | (simp (maxDischargeDepth := 6) [go_sem, *]; done)), (by first | exact mv_cell hM (by first | (dsimp only; omega) | (simp; omega)) hOld.2.2.1 | exact cell_later hM hOld.2.2.1 | exact HT.cb | exact HT.cc | (simp (maxDischargeDepth := 6) [go_sem, *]; done)), (by first | exact mv_cell hM (by first | (dsimp only; omega) | (simp; omega)) hOld.2.2.2.1 | exact cell_later hM hOld.2.2.2.1 | exact HT.cb | exact HT.cc | (simp (maxDischargeDepth := 6) [go_sem, *]; done)), (by first | exact mv_cell hM (by first | (dsimp only; omega) | (simp; omega)) hOld.2.2.2.2.1 | exact cell_later hM hOld.2.2.2.2.1 | exact HT.cb | exact HT.cc | (simp (maxDischargeDepth := 6) [go_sem, *]; done)), (by first | exact mv_cell hM (by first | (dsimp only; omega) | (simp; omega)) hOld.2.2.2.2.2.1 | exact cell_later hM hOld.2.2.2.2.2.1 | exact HT.cb | exact HT.cc | (simp (maxDischargeDepth := 6) [go_sem, *]; done)), (by first | exact mv_cell hM (by first | (dsimp only; omega) | (simp; omega)) hOld.2.2.2.2.2.2.1 | exact cell_later hM hOld.2.2.2.2.2.2.1 | exact HT.cb | exact HT.cc | (simp (maxDischargeDepth := 6) [go_sem, *]; done)), (by first | exact mv_cell hM (by first | (dsimp only; omega) | (simp; omega)) hOld.2.2.2.2.2.2.2.1 | exact cell_later hM hOld.2.2.2.2.2.2.2.1 | exact HT.cb | exact HT.cc | (simp (maxDischargeDepth := 6) [go_sem, *]; done)), (by first | exact mv_cell hM (by first | (dsimp only; omega) | (simp; omega)) hOld.2.2.2.2.2.2.2.2.1 | exact cell_later hM hOld.2.2.2.2.2.2.2.2.1 | exact HT.cb | exact HT.cc | (simp (maxDischargeDepth := 6) [go_sem, *]; done)), (by first | exact mv_cell hM (by first | (dsimp only; omega) | (simp; omega)) hOld.2.2.2.2.2.2.2.2.2.1 | exact cell_later hM hOld.2.2.2.2.2.2.2.2.2.1 | exact HT.cb | exact HT.cc | (simp (maxDischargeDepth := 6) [go_sem, *]; done)), (by first | exact mv_cell hM (by first | (dsimp only; omega) | (simp; omega)) hOld.2.2.2.2.2.2.2.2.2.2.1 | exact cell_later hM hOld.2.2.2.2.2.2.2.2.2.2.1 | exact HT.cb | exact HT.cc | (simp (maxDischargeDepth := 6) [go_sem, *]; done)), (by first | exact mv_cell hM (by first | (dsimp only; omega) | (simp; omega)) hOld.2.2.2.2.2.2.2.2.2.2.2 | exact cell_later hM hOld.2.2.2.2.2.2.2.2.2.2.2 | exact HT.cb | exact HT.cc | (simp (maxDischargeDepth := 6) [go_sem, *]; done))⟩ (fun hHeld => ?_)
  clear hK K hOld
  try simp only [Act.put, List.setIfInBounds_toArray, List.set_cons_zero, List.set_cons_succ]
  have hR := row_mv (g := w.heap.size + 1 + 1) hM hR (by omega); clear hM
  have hOld := hHeld; clear hHeld
  refine wpAnyH_on (i := 14) (n := 2) (l' := (#[true, true, true, true, true, true, true, true, true, true, true, true, true, true, true, false, false] : Array Bool)) (by kernel_rfl) (by kernel_rfl) (by kernel_rfl) (by simp only [List.getElem?_toArray, List.getElem?_cons_succ, List.getElem?_cons_zero]; rfl) (by rfl) (fun K hK => ?_)
  go_simp
  (go_at_call 39; (with_reducible refine (mvCall (b := b) (w0 := w) (by (repeat (first | with_reducible assumption | with_reducible exact Mv.refl (by assumption) (by assumption) | with_reducible apply Mv.alloc | with_reducible apply Mv.drew | with_reducible apply Mv.drewN | ((with_reducible apply Mv.setCell); rotate_left; (first | (dsimp only; omega) | omega | (simp; omega)); (first | (dsimp only; omega) | omega | (simp; omega))) | ((with_reducible apply Mv.below); rotate_left; (with_reducible assumption)) | ((with_reducible apply Mv.trans); rotate_left; (with_reducible assumption))))) (k2 _ _)).mono ?_); rintro e w1 ⟨rfl, hM, HM⟩)
  (try go_wp2_with (fail))
  refine hK.out _ _ ⟨(by first | exact mv_cell hM (by first | (dsimp only; omega) | (simp; omega)) hOld.1 | exact cell_later hM hOld.1 | exact HT.cb | exact HT.cc | (simp (maxDischargeDepth := 6) [go_sem, *]; done)), (by first | exact mv_cell hM (by first | (dsimp only; omega) | (simp; omega)) hOld.2.1 | exact cell_later hM hOld.2.1 | exact HT.cb | exact HT.cc | (simp (maxDischargeDepth := 6) [go_sem, *]; done)), (by first | exact mv_cell hM (by first | (dsimp only; omega) | (simp; omega)) hOld.2.2.1 | exact cell_later hM hOld.2.2.1 | exact HT.cb | exact HT.cc | (simp (maxDischargeDepth := 6) [go_sem, *]; done)), (by first | exact mv_cell hM (by first | (dsimp only; omega) | (simp; omega)) hOld.2.2.2.1 | exact cell_later hM hOld.2.2.2.1 | exact HT.cb | exact HT.cc | (simp (maxDischargeDepth := 6) [go_sem, *]; done)), (by first | exact mv_cell hM (by first | (dsimp only; omega) | (simp; omega)) hOld.2.2.2.2.1 | exact cell_later hM hOld.2.2.2.2.1 | exact HT.cb | exact HT.cc | (simp (maxDischargeDepth := 6) [go_sem, *]; done)), (by first | exact mv_cell hM (by first | (dsimp only; omega) | (simp; omega)) hOld.2.2.2.2.2.1 | exact cell_later hM hOld.2.2.2.2.2.1 | exact HT.cb | exact HT.cc | (simp (maxDischargeDepth := 6) [go_sem, *]; done)), (by first | exact mv_cell hM (by first | (dsimp only; omega) | (simp; omega)) hOld.2.2.2.2.2.2.1 | exact cell_later hM hOld.2.2.2.2.2.2.1 | exact HT.cb | exact HT.cc | (simp (maxDischargeDepth := 6) [go_sem, *]; done)), (by first | exact mv_cell hM (by first | (dsimp only; omega) | (simp; omega)) hOld.2.2.2.2.2.2.2.1 | exact cell_later hM hOld.2.2.2.2.2.2.2.1 | exact HT.cb | exact HT.cc | (simp (maxDischargeDepth := 6) [go_sem, *]; done)), (by first | exact mv_cell hM (by first | (dsimp only; omega) | (simp; omega)) hOld.2.2.2.2.2.2.2.2.1 | exact cell_later hM hOld.2.2.2.2.2.2.2.2.1 | exact HT.cb | exact HT.cc | (simp (maxDischargeDepth := 6) [go_sem, *]; done)), (by first | exact mv_cell hM (by first | (dsimp only; omega) | (simp; omega)) hOld.2.2.2.2.2.2.2.2.2.1 | exact cell_later hM hOld.2.2.2.2.2.2.2.2.2.1 | exact HT.cb | exact HT.cc | (simp (maxDischargeDepth := 6) [go_sem, *]; done)), (by first | exact mv_cell hM (by first | (dsimp only; omega) | (simp; omega)) hOld.2.2.2.2.2.2.2.2.2.2.1 | exact cell_later hM hOld.2.2.2.2.2.2.2.2.2.2.1 | exact HT.cb | exact HT.cc | (simp (maxDischargeDepth := 6) [go_sem, *]; done)), (by first | exact mv_cell hM (by first | (dsimp only; omega) | (simp; omega)) hOld.2.2.2.2.2.2.2.2.2.2.2 | exact cell_later hM hOld.2.2.2.2.2.2.2.2.2.2.2 | exact HT.cb | exact HT.cc | (simp (maxDischargeDepth := 6) [go_sem, *]; done))⟩ (fun hHeld => ?_)
  clear hK K hOld
  try simp only [Act.put, List.setIfInBounds_toArray, List.set_cons_zero, List.set_cons_succ]
  have hR := row_mv (g := w.heap.size + 1 + 1) hM hR (by omega); clear hM
  refine wpAnyH_sl (n := 1) (l' := (#[true, true, true, true, true, true, true, true, true, true, true, true, true, true, true, true, false] : Array Bool)) [15] [some 22] hSSA (
    LvY.skip <|
    LvY.skip <|
    LvY.skip <|
    LvY.skip <|
    LvY.skip <|
    LvY.skip <|
    LvY.skip <|
    LvY.skip <|
    LvY.skip <|
    LvY.skip <|
    LvY.skip <|
    LvY.skip <|
    LvY.skip <|
    LvY.skip <|
    LvY.skip <|
    LvY.take (by rfl) (by intro w hSw; (try dsimp only at hSw); go_simp; try with_reducible rfl) <|
    LvY.skip <|
    LvY.nil) (by rfl) (by rfl) (by kernel_rfl) (fun _ _ _ _ _ h => h) (by kernel_rfl) (by kernel_rfl) (by kernel_rfl) (by assumption) ?_
  simp only [lvVs, putDs, Act.put, List.setIfInBounds_toArray, List.set_cons_zero, List.set_cons_succ]
  have hOld := hHeld; clear hHeld
  refine wpAnyH_on (i := 16) (n := 0) (l' := (#[true, true, true, true, true, true, true, true, true, true, true, true, true, true, true, true, true] : Array Bool)) (by kernel_rfl) (by kernel_rfl) (by kernel_rfl) (by simp only [List.getElem?_toArray, List.getElem?_cons_succ, List.getElem?_cons_zero]; rfl) (by rfl) (fun K hK => ?_)
  refine wp_store_row 26 _ _ rfl (w.heap.size + 1 + 1) #[.int .i64 d0, .int .i64 d1, .int .i64 d2] (by rfl) (by rfl) 26 _ hR (by kernel_rfl) rfl (by simp [Value.oneCell']) ?_
  refine hK.out _ _ ⟨cell_row hOld.1 (by dsimp only; omega), cell_row hOld.2.1 (by dsimp only; omega), cell_row hOld.2.2.1 (by dsimp only; omega), cell_row hOld.2.2.2.1 (by dsimp only; omega), cell_row hOld.2.2.2.2.1 (by dsimp only; omega), cell_row hOld.2.2.2.2.2.1 (by dsimp only; omega), cell_row hOld.2.2.2.2.2.2.1 (by dsimp only; omega), cell_row hOld.2.2.2.2.2.2.2.1 (by dsimp only; omega), cell_row hOld.2.2.2.2.2.2.2.2.1 (by dsimp only; omega), cell_row hOld.2.2.2.2.2.2.2.2.2.1 (by dsimp only; omega), cell_row hOld.2.2.2.2.2.2.2.2.2.2.1 (by dsimp only; omega), cell_row hOld.2.2.2.2.2.2.2.2.2.2.2 (by dsimp only; omega)⟩ (fun hHeld => ?_)
  clear hK K hOld
  try simp only [Act.put, List.setIfInBounds_toArray, List.set_cons_zero, List.set_cons_succ]
  refine wpAnyH_done (by kernel_rfl) ?_ _
  (try refine NoPanic.normal ?_)
  (try clear q0); (try clear q1); (try clear q2); (try clear q3); (try clear q4); (try clear q5); (try clear q6); (try clear q7); (try clear q8); (try clear q9); (try clear q10); (try clear q11); obtain ⟨q0, q1, q2, q3, q4, q5, q6, q7, q8, q9, q10, q11⟩ := hHeld
  have hR := row_put #[.int .i64 d0, .int .i64 d1, .int .i64 d2] hR
  go_wp2
  refine bodyPost_ret (results_cell_row rfl _ _ (w.heap.size + 1 + 1) 26 #[.int .i64 d0, .int .i64 d1, .int .i64 d2] (0, 0) _ (by rfl) hR Try.underlying26 rfl (by kernel_rfl)) rfl ⟨rfl, ?_⟩
  exact HM.row (by omega) (by omega) _
set_option maxHeartbeats 8000000 in
set_option maxRecDepth 20000 in
theorem rApply (r0 r1 r2 r3 r4 r5 r6 r7 r8 v0 v1 v2 : Int) (b : Nat) (o : Bool) (w : World) (r0_0 : -9223372036854775808 ≤ r0) (r0_1 : r0 ≤ 9223372036854775807) (r1_0 : -9223372036854775808 ≤ r1) (r1_1 : r1 ≤ 9223372036854775807) (r2_0 : -9223372036854775808 ≤ r2) (r2_1 : r2 ≤ 9223372036854775807) (r3_0 : -9223372036854775808 ≤ r3) (r3_1 : r3 ≤ 9223372036854775807) (r4_0 : -9223372036854775808 ≤ r4) (r4_1 : r4 ≤ 9223372036854775807) (r5_0 : -9223372036854775808 ≤ r5) (r5_1 : r5 ≤ 9223372036854775807) (r6_0 : -9223372036854775808 ≤ r6) (r6_1 : r6 ≤ 9223372036854775807) (r7_0 : -9223372036854775808 ≤ r7) (r7_1 : r7 ≤ 9223372036854775807) (r8_0 : -9223372036854775808 ≤ r8) (r8_1 : r8 ≤ 9223372036854775807) (v0_0 : -9223372036854775808 ≤ v0) (v0_1 : v0 ≤ 9223372036854775807) (v1_0 : -9223372036854775808 ≤ v1) (v1_1 : v1 ≤ 9223372036854775807) (v2_0 : -9223372036854775808 ≤ v2) (v2_1 : v2 ≤ 9223372036854775807) (hc : w.cell? ⟨b, 0, none⟩ = some (.bool o)) (hf : w.frozen? ⟨b, 0, none⟩ = false) :
    Calls Try.prog 12 #[.pointer (some ⟨b, 0, none⟩), .agg #[.int .i64 r0, .int .i64 r1, .int .i64 r2, .int .i64 r3, .int .i64 r4, .int .i64 r5, .int .i64 r6, .int .i64 r7, .int .i64 r8], .agg #[.int .i64 v0, .int .i64 v1, .int .i64 v2]] w fun e w' =>
      e = .returned (.agg #[.int .i64 (dt r0 r1 r2 v0 v1 v2), .int .i64 (dt r3 r4 r5 v0 v1 v2), .int .i64 (dt r6 r7 r8 v0 v1 v2)]) ∧ Mv b (o || !dtok r0 r1 r2 v0 v1 v2 || !dtok r3 r4 r5 v0 v1 v2 || !dtok r6 r7 r8 v0 v1 v2) w w' := by
  have hb := lt_of_cell hc
  have HM := Mv.refl hc hf
  clear hc hf
  have k0 := fun O W => rVDot r0 r1 r2 v0 v1 v2 b O W r0_0 r0_1 r1_0 r1_1 r2_0 r2_1 v0_0 v0_1 v1_0 v1_1 v2_0 v2_1
  have k1 := fun O W => rVDot r3 r4 r5 v0 v1 v2 b O W r3_0 r3_1 r4_0 r4_1 r5_0 r5_1 v0_0 v0_1 v1_0 v1_1 v2_0 v2_1
  have k2 := fun O W => rVDot r6 r7 r8 v0 v1 v2 b O W r6_0 r6_1 r7_0 r7_1 r8_0 r8_1 v0_0 v0_1 v1_0 v1_1 v2_0 v2_1
  generalize dt r0 r1 r2 v0 v1 v2 = d0 at *
  generalize dt r3 r4 r5 v0 v1 v2 = d1 at *
  generalize dt r6 r7 r8 v0 v1 v2 = d2 at *
  generalize dtok r0 r1 r2 v0 v1 v2 = f0 at *
  generalize dtok r3 r4 r5 v0 v1 v2 = f1 at *
  generalize dtok r6 r7 r8 v0 v1 v2 = f2 at *
  clear r0_0 r0_1 r1_0 r1_1 r2_0 r2_1 r3_0 r3_1 r4_0 r4_1 r5_0 r5_1 r6_0 r6_1 r7_0 r7_1 r8_0 r8_1 v0_0 v0_1 v1_0 v1_1 v2_0 v2_1
  go_enter Try.func12, Try.ntmps12
  go_upto_region 1 with (fail)
  generalize hW : World.alloc _ _ = W1
  have hR : W1.heap[w.heap.size + 1 + 1]? = some (.cells #[.int .i64 0, .int .i64 0, .int .i64 0] 26 (0, 0)) := by
    rw [← hW]
    have := row_new ((w.alloc (.cells #[.int .i64 r0, .int .i64 r1, .int .i64 r2, .int .i64 r3, .int .i64 r4, .int .i64 r5, .int .i64 r6, .int .i64 r7, .int .i64 r8] 33)).alloc (.cells #[.int .i64 v0, .int .i64 v1, .int .i64 v2] 26)) (.cells #[.int .i64 0, .int .i64 0, .int .i64 0] 26)
    simpa only [World.size_alloc] using this
  have c0 : W1.cell? ⟨w.heap.size, 0, none⟩ = some (.int .i64 r0) := by rw [← hW]; simp [go_sem]
  have c1 : W1.cell? ⟨w.heap.size, 1, none⟩ = some (.int .i64 r1) := by rw [← hW]; simp [go_sem]
  have c2 : W1.cell? ⟨w.heap.size, 2, none⟩ = some (.int .i64 r2) := by rw [← hW]; simp [go_sem]
  have c3 : W1.cell? ⟨w.heap.size, 3, none⟩ = some (.int .i64 r3) := by rw [← hW]; simp [go_sem]
  have c4 : W1.cell? ⟨w.heap.size, 4, none⟩ = some (.int .i64 r4) := by rw [← hW]; simp [go_sem]
  have c5 : W1.cell? ⟨w.heap.size, 5, none⟩ = some (.int .i64 r5) := by rw [← hW]; simp [go_sem]
  have c6 : W1.cell? ⟨w.heap.size, 6, none⟩ = some (.int .i64 r6) := by rw [← hW]; simp [go_sem]
  have c7 : W1.cell? ⟨w.heap.size, 7, none⟩ = some (.int .i64 r7) := by rw [← hW]; simp [go_sem]
  have c8 : W1.cell? ⟨w.heap.size, 8, none⟩ = some (.int .i64 r8) := by rw [← hW]; simp [go_sem]
  have d0' : W1.cell? ⟨w.heap.size + 1, 0, none⟩ = some (.int .i64 v0) := by rw [← hW]; simp [go_sem]
  have d1' : W1.cell? ⟨w.heap.size + 1, 1, none⟩ = some (.int .i64 v1) := by rw [← hW]; simp [go_sem]
  have d2' : W1.cell? ⟨w.heap.size + 1, 2, none⟩ = some (.int .i64 v2) := by rw [← hW]; simp [go_sem]
  have HM : Mv b o w W1 := by rw [← hW]; exact ((HM.alloc _).alloc _).alloc _
  clear hW
  (try refine wp_region_noPanic ?_)
  refine wp_region_ssa (S := (fun (w' : World) => w'.cell? ⟨w.heap.size, 0, none⟩ = some (.int .i64 r0) ∧ w'.cell? ⟨w.heap.size, 1, none⟩ = some (.int .i64 r1) ∧ w'.cell? ⟨w.heap.size, 2, none⟩ = some (.int .i64 r2) ∧ w'.cell? ⟨w.heap.size, 3, none⟩ = some (.int .i64 r3) ∧ w'.cell? ⟨w.heap.size, 4, none⟩ = some (.int .i64 r4) ∧ w'.cell? ⟨w.heap.size, 5, none⟩ = some (.int .i64 r5) ∧ w'.cell? ⟨w.heap.size, 6, none⟩ = some (.int .i64 r6) ∧ w'.cell? ⟨w.heap.size, 7, none⟩ = some (.int .i64 r7) ∧ w'.cell? ⟨w.heap.size, 8, none⟩ = some (.int .i64 r8) ∧ w'.cell? ⟨w.heap.size + 1, 0, none⟩ = some (.int .i64 v0) ∧ w'.cell? ⟨w.heap.size + 1, 1, none⟩ = some (.int .i64 v1) ∧ w'.cell? ⟨w.heap.size + 1, 2, none⟩ = some (.int .i64 v2))) (#[none, none, none, none, none, none, none, some 0, some 1, some 2, some 3, some 4, some 5, some 6, some 7, some 8, some 9, some 10, some 11, some 12, some 13, some 14, some 15] : Array (Option Nat)) (by kernel_rfl) (by kernel_rfl) (by kernel_rfl) ⟨(by first | (simp (maxDischargeDepth := 6) [go_sem, *]; done)), (by first | (simp (maxDischargeDepth := 6) [go_sem, *]; done)), (by first | (simp (maxDischargeDepth := 6) [go_sem, *]; done)), (by first | (simp (maxDischargeDepth := 6) [go_sem, *]; done)), (by first | (simp (maxDischargeDepth := 6) [go_sem, *]; done)), (by first | (simp (maxDischargeDepth := 6) [go_sem, *]; done)), (by first | (simp (maxDischargeDepth := 6) [go_sem, *]; done)), (by first | (simp (maxDischargeDepth := 6) [go_sem, *]; done)), (by first | (simp (maxDischargeDepth := 6) [go_sem, *]; done)), (by first | (simp (maxDischargeDepth := 6) [go_sem, *]; done)), (by first | (simp (maxDischargeDepth := 6) [go_sem, *]; done)), (by first | (simp (maxDischargeDepth := 6) [go_sem, *]; done))⟩ (fun hSSA hHeld => ?_)
  refine wpAnyH_sl (n := 8) (l' := (#[true, true, false, true, false, true, true, false, true, false, true, true, false, true, false, false, false] : Array Bool)) [0, 1, 3, 5, 6, 8, 10, 11, 13] [some 7, some 8, some 10, some 12, some 13, some 15, some 17, some 18, some 20] hSSA (
    LvY.take (by rfl) (by intro w hSw; (try dsimp only at hSw); go_simp; try with_reducible rfl) <|
    LvY.take (by rfl) (by intro w hSw; (try dsimp only at hSw); go_simp; try with_reducible rfl) <|
    LvY.skip <|
    LvY.take (by rfl) (by intro w hSw; (try dsimp only at hSw); go_simp; try with_reducible rfl) <|
    LvY.skip <|
    LvY.take (by rfl) (by intro w hSw; (try dsimp only at hSw); go_simp; try with_reducible rfl) <|
    LvY.take (by rfl) (by intro w hSw; (try dsimp only at hSw); go_simp; try with_reducible rfl) <|
    LvY.skip <|
    LvY.take (by rfl) (by intro w hSw; (try dsimp only at hSw); go_simp; try with_reducible rfl) <|
    LvY.skip <|
    LvY.take (by rfl) (by intro w hSw; (try dsimp only at hSw); go_simp; try with_reducible rfl) <|
    LvY.take (by rfl) (by intro w hSw; (try dsimp only at hSw); go_simp; try with_reducible rfl) <|
    LvY.skip <|
    LvY.take (by rfl) (by intro w hSw; (try dsimp only at hSw); go_simp; try with_reducible rfl) <|
    LvY.skip <|
    LvY.skip <|
    LvY.skip <|
    LvY.nil) (by rfl) (by rfl) (by kernel_rfl) (fun _ _ _ _ _ h => h) (by kernel_rfl) (by kernel_rfl) (by kernel_rfl) (by assumption) ?_
  simp only [lvVs, putDs, Act.put, List.setIfInBounds_toArray, List.set_cons_zero, List.set_cons_succ]
  refine wpAnyH_sl (n := 5) (l' := (#[true, true, true, true, false, true, true, true, true, false, true, true, true, true, false, false, false] : Array Bool)) [2, 7, 12] [some 9, some 14, some 19] hSSA (
    LvY.skip <|
    LvY.skip <|
    LvY.take (by rfl) (by intro w hSw; (try dsimp only at hSw); go_simp; try with_reducible rfl) <|
    LvY.skip <|
    LvY.skip <|
    LvY.skip <|
    LvY.skip <|
    LvY.take (by rfl) (by intro w hSw; (try dsimp only at hSw); go_simp; try with_reducible rfl) <|
    LvY.skip <|
    LvY.skip <|
    LvY.skip <|
    LvY.skip <|
    LvY.take (by rfl) (by intro w hSw; (try dsimp only at hSw); go_simp; try with_reducible rfl) <|
    LvY.skip <|
    LvY.skip <|
    LvY.skip <|
    LvY.skip <|
    LvY.nil) (by rfl) (by rfl) (by kernel_rfl) (fun _ _ _ _ _ h => h) (by kernel_rfl) (by kernel_rfl) (by kernel_rfl) (by assumption) ?_
  simp only [lvVs, putDs, Act.put, List.setIfInBounds_toArray, List.set_cons_zero, List.set_cons_succ]
  have hOld := hHeld; clear hHeld
  refine wpAnyH_on (i := 4) (n := 4) (l' := (#[true, true, true, true, true, true, true, true, true, false, true, true, true, true, false, false, false] : Array Bool)) (by kernel_rfl) (by kernel_rfl) (by kernel_rfl) (by simp only [List.getElem?_toArray, List.getElem?_cons_succ, List.getElem?_cons_zero]; rfl) (by rfl) (fun K hK => ?_)
  go_simp
  (go_at_call 40; (with_reducible refine (mvCall (b := b) (w0 := w) (by (repeat (first | with_reducible assumption | with_reducible exact Mv.refl (by assumption) (by assumption) | with_reducible apply Mv.alloc | with_reducible apply Mv.drew | with_reducible apply Mv.drewN | ((with_reducible apply Mv.setCell); rotate_left; (first | (dsimp only; omega) | omega | (simp; omega)); (first | (dsimp only; omega) | omega | (simp; omega))) | ((with_reducible apply Mv.below); rotate_left; (with_reducible assumption)) | ((with_reducible apply Mv.trans); rotate_left; (with_reducible assumption))))) (k0 _ _)).mono ?_); rintro e w1 ⟨rfl, hM, HM⟩)
  (try go_wp2_with (fail))
  refine hK.out _ _ ⟨(by first | exact mv_cell hM (by first | (dsimp only; omega) | (simp; omega)) hOld.1 | exact cell_later hM hOld.1 | exact HT.cb | exact HT.cc | (simp (maxDischargeDepth := 6) [go_sem, *]; done)), (by first | exact mv_cell hM (by first | (dsimp only; omega) | (simp; omega)) hOld.2.1 | exact cell_later hM hOld.2.1 | exact HT.cb | exact HT.cc | (simp (maxDischargeDepth := 6) [go_sem, *]; done)), (by first | exact mv_cell hM (by first | (dsimp only; omega) | (simp; omega)) hOld.2.2.1 | exact cell_later hM hOld.2.2.1 | exact HT.cb | exact HT.cc | (simp (maxDischargeDepth := 6) [go_sem, *]; done)), (by first | exact mv_cell hM (by first | (dsimp only; omega) | (simp; omega)) hOld.2.2.2.1 | exact cell_later hM hOld.2.2.2.1 | exact HT.cb | exact HT.cc | (simp (maxDischargeDepth := 6) [go_sem, *]; done)), (by first | exact mv_cell hM (by first | (dsimp only; omega) | (simp; omega)) hOld.2.2.2.2.1 | exact cell_later hM hOld.2.2.2.2.1 | exact HT.cb | exact HT.cc | (simp (maxDischargeDepth := 6) [go_sem, *]; done)), (by first | exact mv_cell hM (by first | (dsimp only; omega) | (simp; omega)) hOld.2.2.2.2.2.1 | exact cell_later hM hOld.2.2.2.2.2.1 | exact HT.cb | exact HT.cc | (simp (maxDischargeDepth := 6) [go_sem, *]; done)), (by first | exact mv_cell hM (by first | (dsimp only; omega) | (simp; omega)) hOld.2.2.2.2.2.2.1 | exact cell_later hM hOld.2.2.2.2.2.2.1 | exact HT.cb | exact HT.cc | (simp (maxDischargeDepth := 6) [go_sem, *]; done)), (by first | exact mv_cell hM (by first | (dsimp only; omega) | (simp; omega)) hOld.2.2.2.2.2.2.2.1 | exact cell_later hM hOld.2.2.2.2.2.2.2.1 | exact HT.cb | exact HT.cc | (simp (maxDischargeDepth := 6) [go_sem, *]; done)), (by first | exact mv_cell hM (by first | (dsimp only; omega) | (simp; omega)) hOld.2.2.2.2.2.2.2.2.1 | exact cell_later hM hOld.2.2.2.2.2.2.2.2.1 | exact HT.cb | exact HT.cc | (simp (maxDischargeDepth := 6) [go_sem, *]; done)), (by first | exact mv_cell hM (by first | (dsimp only; omega) | (simp; omega)) hOld.2.2.2.2.2.2.2.2.2.1 | exact cell_later hM hOld.2.2.2.2.2.2.2.2.2.1 | exact HT.cb | exact HT.cc | (simp (maxDischargeDepth := 6) [go_sem, *]; done)), (by first | exact mv_cell hM (by first | (dsimp only; omega) | (simp; omega)) hOld.2.2.2.2.2.2.2.2.2.2.1 | exact cell_later hM hOld.2.2.2.2.2.2.2.2.2.2.1 | exact HT.cb | exact HT.cc | (simp (maxDischargeDepth := 6) [go_sem, *]; done)), (by first | exact mv_cell hM (by first | (dsimp only; omega) | (simp; omega)) hOld.2.2.2.2.2.2.2.2.2.2.2 | exact cell_later hM hOld.2.2.2.2.2.2.2.2.2.2.2 | exact HT.cb | exact HT.cc | (simp (maxDischargeDepth := 6) [go_sem, *]; done))⟩ (fun hHeld => ?_)
  clear hK K hOld
  try simp only [Act.put, List.setIfInBounds_toArray, List.set_cons_zero, List.set_cons_succ]
  have hR := row_mv (g := w.heap.size + 1 + 1) hM hR (by omega); clear hM
  have hOld := hHeld; clear hHeld
  refine wpAnyH_on (i := 9) (n := 3) (l' := (#[true, true, true, true, true, true, true, true, true, true, true, true, true, true, false, false, false] : Array Bool)) (by kernel_rfl) (by kernel_rfl) (by kernel_rfl) (by simp only [List.getElem?_toArray, List.getElem?_cons_succ, List.getElem?_cons_zero]; rfl) (by rfl) (fun K hK => ?_)
  go_simp
  (go_at_call 40; (with_reducible refine (mvCall (b := b) (w0 := w) (by (repeat (first | with_reducible assumption | with_reducible exact Mv.refl (by assumption) (by assumption) | with_reducible apply Mv.alloc | with_reducible apply Mv.drew | with_reducible apply Mv.drewN | ((with_reducible apply Mv.setCell); rotate_left; (first | (dsimp only; omega) | omega | (simp; omega)); (first | (dsimp only; omega) | omega | (simp; omega))) | ((with_reducible apply Mv.below); rotate_left; (with_reducible assumption)) | ((with_reducible apply Mv.trans); rotate_left; (with_reducible assumption))))) (k1 _ _)).mono ?_); rintro e w1 ⟨rfl, hM, HM⟩)
  (try go_wp2_with (fail))
  refine hK.out _ _ ⟨(by first | exact mv_cell hM (by first | (dsimp only; omega) | (simp; omega)) hOld.1 | exact cell_later hM hOld.1 | exact HT.cb | exact HT.cc | (simp (maxDischargeDepth := 6) [go_sem, *]; done)), (by first | exact mv_cell hM (by first | (dsimp only; omega) | (simp; omega)) hOld.2.1 | exact cell_later hM hOld.2.1 | exact HT.cb | exact HT.cc | (simp (maxDischargeDepth := 6) [go_sem, *]; done)), (by first | exact mv_cell hM (by first | (dsimp only; omega) | (simp; omega)) hOld.2.2.1 | exact cell_later hM hOld.2.2.1 | exact HT.cb | exact HT.cc | (simp (maxDischargeDepth := 6) [go_sem, *]; done)), (by first | exact mv_cell hM (by first | (dsimp only; omega) | (simp; omega)) hOld.2.2.2.1 | exact cell_later hM hOld.2.2.2.1 | exact HT.cb | exact HT.cc | (simp (maxDischargeDepth := 6) [go_sem, *]; done)), (by first | exact mv_cell hM (by first | (dsimp only; omega) | (simp; omega)) hOld.2.2.2.2.1 | exact cell_later hM hOld.2.2.2.2.1 | exact HT.cb | exact HT.cc | (simp (maxDischargeDepth := 6) [go_sem, *]; done)), (by first | exact mv_cell hM (by first | (dsimp only; omega) | (simp; omega)) hOld.2.2.2.2.2.1 | exact cell_later hM hOld.2.2.2.2.2.1 | exact HT.cb | exact HT.cc | (simp (maxDischargeDepth := 6) [go_sem, *]; done)), (by first | exact mv_cell hM (by first | (dsimp only; omega) | (simp; omega)) hOld.2.2.2.2.2.2.1 | exact cell_later hM hOld.2.2.2.2.2.2.1 | exact HT.cb | exact HT.cc | (simp (maxDischargeDepth := 6) [go_sem, *]; done)), (by first | exact mv_cell hM (by first | (dsimp only; omega) | (simp; omega)) hOld.2.2.2.2.2.2.2.1 | exact cell_later hM hOld.2.2.2.2.2.2.2.1 | exact HT.cb | exact HT.cc | (simp (maxDischargeDepth := 6) [go_sem, *]; done)), (by first | exact mv_cell hM (by first | (dsimp only; omega) | (simp; omega)) hOld.2.2.2.2.2.2.2.2.1 | exact cell_later hM hOld.2.2.2.2.2.2.2.2.1 | exact HT.cb | exact HT.cc | (simp (maxDischargeDepth := 6) [go_sem, *]; done)), (by first | exact mv_cell hM (by first | (dsimp only; omega) | (simp; omega)) hOld.2.2.2.2.2.2.2.2.2.1 | exact cell_later hM hOld.2.2.2.2.2.2.2.2.2.1 | exact HT.cb | exact HT.cc | (simp (maxDischargeDepth := 6) [go_sem, *]; done)), (by first | exact mv_cell hM (by first | (dsimp only; omega) | (simp; omega)) hOld.2.2.2.2.2.2.2.2.2.2.1 | exact cell_later hM hOld.2.2.2.2.2.2.2.2.2.2.1 | exact HT.cb | exact HT.cc | (simp (maxDischargeDepth := 6) [go_sem, *]; done)), (by first | exact mv_cell hM (by first | (dsimp only; omega) | (simp; omega)) hOld.2.2.2.2.2.2.2.2.2.2.2 | exact cell_later hM hOld.2.2.2.2.2.2.2.2.2.2.2 | exact HT.cb | exact HT.cc | (simp (maxDischargeDepth := 6) [go_sem, *]; done))⟩ (fun hHeld => ?_)
  clear hK K hOld
  try simp only [Act.put, List.setIfInBounds_toArray, List.set_cons_zero, List.set_cons_succ]
  have hR := row_mv (g := w.heap.size + 1 + 1) hM hR (by omega); clear hM
  have hOld := hHeld; clear hHeld
  refine wpAnyH_on (i := 14) (n := 2) (l' := (#[true, true, true, true, true, true, true, true, true, true, true, true, true, true, true, false, false] : Array Bool)) (by kernel_rfl) (by kernel_rfl) (by kernel_rfl) (by simp only [List.getElem?_toArray, List.getElem?_cons_succ, List.getElem?_cons_zero]; rfl) (by rfl) (fun K hK => ?_)
  go_simp
  (go_at_call 40; (with_reducible refine (mvCall (b := b) (w0 := w) (by (repeat (first | with_reducible assumption | with_reducible exact Mv.refl (by assumption) (by assumption) | with_reducible apply Mv.alloc | with_reducible apply Mv.drew | with_reducible apply Mv.drewN | ((with_reducible apply Mv.setCell); rotate_left; (first | (dsimp only; omega) | omega | (simp; omega)); (first | (dsimp only; omega) | omega | (simp; omega))) | ((with_reducible apply Mv.below); rotate_left; (with_reducible assumption)) | ((with_reducible apply Mv.trans); rotate_left; (with_reducible assumption))))) (k2 _ _)).mono ?_); rintro e w1 ⟨rfl, hM, HM⟩)
  (try go_wp2_with (fail))
  refine hK.out _ _ ⟨(by first | exact mv_cell hM (by first | (dsimp only; omega) | (simp; omega)) hOld.1 | exact cell_later hM hOld.1 | exact HT.cb | exact HT.cc | (simp (maxDischargeDepth := 6) [go_sem, *]; done)), (by first | exact mv_cell hM (by first | (dsimp only; omega) | (simp; omega)) hOld.2.1 | exact cell_later hM hOld.2.1 | exact HT.cb | exact HT.cc | (simp (maxDischargeDepth := 6) [go_sem, *]; done)), (by first | exact mv_cell hM (by first | (dsimp only; omega) | (simp; omega)) hOld.2.2.1 | exact cell_later hM hOld.2.2.1 | exact HT.cb | exact HT.cc | (simp (maxDischargeDepth := 6) [go_sem, *]; done)), (by first | exact mv_cell hM (by first | (dsimp only; omega) | (simp; omega)) hOld.2.2.2.1 | exact cell_later hM hOld.2.2.2.1 | exact HT.cb | exact HT.cc | (simp (maxDischargeDepth := 6) [go_sem, *]; done)), (by first | exact mv_cell hM (by first | (dsimp only; omega) | (simp; omega)) hOld.2.2.2.2.1 | exact cell_later hM hOld.2.2.2.2.1 | exact HT.cb | exact HT.cc | (simp (maxDischargeDepth := 6) [go_sem, *]; done)), (by first | exact mv_cell hM (by first | (dsimp only; omega) | (simp; omega)) hOld.2.2.2.2.2.1 | exact cell_later hM hOld.2.2.2.2.2.1 | exact HT.cb | exact HT.cc | (simp (maxDischargeDepth := 6) [go_sem, *]; done)), (by first | exact mv_cell hM (by first | (dsimp only; omega) | (simp; omega)) hOld.2.2.2.2.2.2.1 | exact cell_later hM hOld.2.2.2.2.2.2.1 | exact HT.cb | exact HT.cc | (simp (maxDischargeDepth := 6) [go_sem, *]; done)), (by first | exact mv_cell hM (by first | (dsimp only; omega) | (simp; omega)) hOld.2.2.2.2.2.2.2.1 | exact cell_later hM hOld.2.2.2.2.2.2.2.1 | exact HT.cb | exact HT.cc | (simp (maxDischargeDepth := 6) [go_sem, *]; done)), (by first | exact mv_cell hM (by first | (dsimp only; omega) | (simp; omega)) hOld.2.2.2.2.2.2.2.2.1 | exact cell_later hM hOld.2.2.2.2.2.2.2.2.1 | exact HT.cb | exact HT.cc | (simp (maxDischargeDepth := 6) [go_sem, *]; done)), (by first | exact mv_cell hM (by first | (dsimp only; omega) | (simp; omega)) hOld.2.2.2.2.2.2.2.2.2.1 | exact cell_later hM hOld.2.2.2.2.2.2.2.2.2.1 | exact HT.cb | exact HT.cc | (simp (maxDischargeDepth := 6) [go_sem, *]; done)), (by first | exact mv_cell hM (by first | (dsimp only; omega) | (simp; omega)) hOld.2.2.2.2.2.2.2.2.2.2.1 | exact cell_later hM hOld.2.2.2.2.2.2.2.2.2.2.1 | exact HT.cb | exact HT.cc | (simp (maxDischargeDepth := 6) [go_sem, *]; done)), (by first | exact mv_cell hM (by first | (dsimp only; omega) | (simp; omega)) hOld.2.2.2.2.2.2.2.2.2.2.2 | exact cell_later hM hOld.2.2.2.2.2.2.2.2.2.2.2 | exact HT.cb | exact HT.cc | (simp (maxDischargeDepth := 6) [go_sem, *]; done))⟩ (fun hHeld => ?_)
  clear hK K hOld
  try simp only [Act.put, List.setIfInBounds_toArray, List.set_cons_zero, List.set_cons_succ]
  have hR := row_mv (g := w.heap.size + 1 + 1) hM hR (by omega); clear hM
  refine wpAnyH_sl (n := 1) (l' := (#[true, true, true, true, true, true, true, true, true, true, true, true, true, true, true, true, false] : Array Bool)) [15] [some 22] hSSA (
    LvY.skip <|
    LvY.skip <|
    LvY.skip <|
    LvY.skip <|
    LvY.skip <|
    LvY.skip <|
    LvY.skip <|
    LvY.skip <|
    LvY.skip <|
    LvY.skip <|
    LvY.skip <|
    LvY.skip <|
    LvY.skip <|
    LvY.skip <|
    LvY.skip <|
    LvY.take (by rfl) (by intro w hSw; (try dsimp only at hSw); go_simp; try with_reducible rfl) <|
    LvY.skip <|
    LvY.nil) (by rfl) (by rfl) (by kernel_rfl) (fun _ _ _ _ _ h => h) (by kernel_rfl) (by kernel_rfl) (by kernel_rfl) (by assumption) ?_
  simp only [lvVs, putDs, Act.put, List.setIfInBounds_toArray, List.set_cons_zero, List.set_cons_succ]
  have hOld := hHeld; clear hHeld
  refine wpAnyH_on (i := 16) (n := 0) (l' := (#[true, true, true, true, true, true, true, true, true, true, true, true, true, true, true, true, true] : Array Bool)) (by kernel_rfl) (by kernel_rfl) (by kernel_rfl) (by simp only [List.getElem?_toArray, List.getElem?_cons_succ, List.getElem?_cons_zero]; rfl) (by rfl) (fun K hK => ?_)
  refine wp_store_row 26 _ _ rfl (w.heap.size + 1 + 1) #[.int .i64 d0, .int .i64 d1, .int .i64 d2] (by rfl) (by rfl) 26 _ hR (by kernel_rfl) rfl (by simp [Value.oneCell']) ?_
  refine hK.out _ _ ⟨cell_row hOld.1 (by dsimp only; omega), cell_row hOld.2.1 (by dsimp only; omega), cell_row hOld.2.2.1 (by dsimp only; omega), cell_row hOld.2.2.2.1 (by dsimp only; omega), cell_row hOld.2.2.2.2.1 (by dsimp only; omega), cell_row hOld.2.2.2.2.2.1 (by dsimp only; omega), cell_row hOld.2.2.2.2.2.2.1 (by dsimp only; omega), cell_row hOld.2.2.2.2.2.2.2.1 (by dsimp only; omega), cell_row hOld.2.2.2.2.2.2.2.2.1 (by dsimp only; omega), cell_row hOld.2.2.2.2.2.2.2.2.2.1 (by dsimp only; omega), cell_row hOld.2.2.2.2.2.2.2.2.2.2.1 (by dsimp only; omega), cell_row hOld.2.2.2.2.2.2.2.2.2.2.2 (by dsimp only; omega)⟩ (fun hHeld => ?_)
  clear hK K hOld
  try simp only [Act.put, List.setIfInBounds_toArray, List.set_cons_zero, List.set_cons_succ]
  refine wpAnyH_done (by kernel_rfl) ?_ _
  (try refine NoPanic.normal ?_)
  (try clear q0); (try clear q1); (try clear q2); (try clear q3); (try clear q4); (try clear q5); (try clear q6); (try clear q7); (try clear q8); (try clear q9); (try clear q10); (try clear q11); obtain ⟨q0, q1, q2, q3, q4, q5, q6, q7, q8, q9, q10, q11⟩ := hHeld
  have hR := row_put #[.int .i64 d0, .int .i64 d1, .int .i64 d2] hR
  go_wp2
  refine bodyPost_ret (results_cell_row rfl _ _ (w.heap.size + 1 + 1) 26 #[.int .i64 d0, .int .i64 d1, .int .i64 d2] (0, 0) _ (by rfl) hR Try.underlying26 rfl (by kernel_rfl)) rfl ⟨rfl, ?_⟩
  exact HM.row (by omega) (by omega) _
set_option maxHeartbeats 8000000 in
set_option maxRecDepth 20000 in
theorem rTurned (r0 r1 r2 r3 r4 r5 r6 r7 r8 : Int) (w : World) :
    Calls Try.prog 43 #[.agg #[.int .i64 r0, .int .i64 r1, .int .i64 r2, .int .i64 r3, .int .i64 r4, .int .i64 r5, .int .i64 r6, .int .i64 r7, .int .i64 r8]] w fun e w' => e = .returned (.agg #[.int .i64 r0, .int .i64 r3, .int .i64 r6, .int .i64 r1, .int .i64 r4, .int .i64 r7, .int .i64 r2, .int .i64 r5, .int .i64 r8]) ∧ Below w.heap.size w w' := by
  go_enter Try.func43, Try.ntmps43
  go_wp2
  simp [bodyPost, results, Try.results43, go_sem]
  (repeat (first | with_reducible assumption | with_reducible exact Below.refl _ _ | ((with_reducible refine Below.setCell ?_ ?_ _); rotate_left; (first | exact Nat.le_refl _ | (dsimp only; omega) | (simp; done) | (simp; omega))) | with_reducible refine below_alloc ?_ _ | with_reducible apply below_drewN | with_reducible apply Below.drew | with_reducible refine below_step ?_ (by assumption)))
end
section
set_option linter.unusedVariables false
/-- The upright part of an attitude made one. -/
def uw (x n : Int) : Int := if n = 0 then 4294967296 else fq x n
theorem uw_no (x n : Int) (h : n ≠ 0) : uw x n = fq x n := if_neg h
theorem uq_no (x n : Int) (h : n ≠ 0) : uq x n = fq x n := if_neg h
theorem uok_no (x n : Int) (h : n ≠ 0) : uok x n = fqok x n := by unfold uok; simp [h]
theorem uok_0 (x : Int) : uok x 0 = true := by unfold uok; simp
/-- A mat's, an attitude's row in memory. -/
def q4 (x0 x1 x2 x3 : Int) : Array Value := #[.int .i64 x0, .int .i64 x1, .int .i64 x2, .int .i64 x3]
theorem cUFUnit (x s : Int) (pm ps b : Nat) (o : Bool) (w : World) (x_0 : -9223372036854775808 ≤ x) (x_1 : x ≤ 9223372036854775807) (s_0 : -9223372036854775808 ≤ s) (s_1 : s ≤ 9223372036854775807) (hpm : w.cell? ⟨pm, 0, none⟩ = some (.pointer (some ⟨b, 0, none⟩))) (hps : w.cell? ⟨ps, 0, none⟩ = some (.int .i64 s)) (hc : w.cell? ⟨b, 0, none⟩ = some (.bool o)) (hf : w.frozen? ⟨b, 0, none⟩ = false) :
    Calls Try.prog 47 #[.int .i64 x, .pointer (some ⟨pm, 0, none⟩), .pointer (some ⟨ps, 0, none⟩)] w fun e w' => e = .returned (.int .i64 (fq x s)) ∧ Mv b (o || !fqok x s) w w' := by
  have HM := Mv.refl hc hf
  clear hc hf
  go_enter Try.func47, Try.ntmps47
  go_wp2_with ((go_at_call 48; (with_reducible refine (mvCall (b := b) (w0 := w) (by (repeat (first | with_reducible assumption | with_reducible exact Mv.refl (by assumption) (by assumption) | with_reducible apply Mv.alloc | with_reducible apply Mv.drew | with_reducible apply Mv.drewN | ((with_reducible apply Mv.setCell); rotate_left; (first | (dsimp only; omega) | omega | (simp; omega)); (first | (dsimp only; omega) | omega | (simp; omega))) | ((with_reducible apply Mv.below); rotate_left; (with_reducible assumption)) | ((with_reducible apply Mv.trans); rotate_left; (with_reducible assumption))))) (cFDiv _ _ b _ _ (by omega) (by omega) (by omega) (by omega))).mono ?_); rintro e w1 ⟨rfl, hM, HM⟩))
  go_ret
  exact ⟨rfl, HM⟩
set_option maxHeartbeats 8000000 in
set_option maxRecDepth 20000 in
/-- quat.each, at a closure over a reckoner and a number: whatever it reckons. -/
theorem cQEachUnit (V : Int → Int) (O : Int → Bool) (x0 x1 x2 x3 s : Int) (pm ps b : Nat) (o : Bool) (w : World) (x0_0 : -9223372036854775808 ≤ x0) (x0_1 : x0 ≤ 9223372036854775807) (x1_0 : -9223372036854775808 ≤ x1) (x1_1 : x1 ≤ 9223372036854775807) (x2_0 : -9223372036854775808 ≤ x2) (x2_1 : x2 ≤ 9223372036854775807) (x3_0 : -9223372036854775808 ≤ x3) (x3_1 : x3 ≤ 9223372036854775807) (n1 : pm ≠ b) (n2 : ps ≠ b)
    (hk : ∀ (x : Int) (o : Bool) (W : World), -9223372036854775808 ≤ x → x ≤ 9223372036854775807 → W.cell? ⟨pm, 0, none⟩ = some (.pointer (some ⟨b, 0, none⟩)) → W.cell? ⟨ps, 0, none⟩ = some (.int .i64 s) → W.cell? ⟨b, 0, none⟩ = some (.bool o) → W.frozen? ⟨b, 0, none⟩ = false →
      Calls Try.prog 47 #[.int .i64 x, .pointer (some ⟨pm, 0, none⟩), .pointer (some ⟨ps, 0, none⟩)] W fun e w' => e = .returned (.int .i64 (V x)) ∧ Mv b (o || !O x) W w')
    (hpm : w.cell? ⟨pm, 0, none⟩ = some (.pointer (some ⟨b, 0, none⟩))) (hps : w.cell? ⟨ps, 0, none⟩ = some (.int .i64 s)) (hc : w.cell? ⟨b, 0, none⟩ = some (.bool o)) (hf : w.frozen? ⟨b, 0, none⟩ = false) :
    Calls Try.prog 46 #[.agg #[.int .i64 x0, .int .i64 x1, .int .i64 x2, .int .i64 x3], .func (.func 47) #[] #[.pointer (some ⟨pm, 0, none⟩), .pointer (some ⟨ps, 0, none⟩)]] w fun e w' =>
      e = .returned (.agg #[.int .i64 (V x0), .int .i64 (V x1), .int .i64 (V x2), .int .i64 (V x3)]) ∧ Mv b (o || !O x0 || !O x1 || !O x2 || !O x3) w w' := by
  have hb := lt_of_cell hc
  have HM := Mv.refl hc hf
  have hp1 := World.block_lt_of_cell? w _ hpm
  have hp2 := World.block_lt_of_cell? w _ hps
  dsimp only at hp1 hp2
  have k0 := fun o W => hk x0 o W x0_0 x0_1
  have k1 := fun o W => hk x1 o W x1_0 x1_1
  have k2 := fun o W => hk x2 o W x2_0 x2_1
  have k3 := fun o W => hk x3 o W x3_0 x3_1
  generalize V x0 = d0 at *
  generalize V x1 = d1 at *
  generalize V x2 = d2 at *
  generalize V x3 = d3 at *
  generalize O x0 = f0 at *
  generalize O x1 = f1 at *
  generalize O x2 = f2 at *
  generalize O x3 = f3 at *
  clear hc hf hk
  go_enter Try.func46, Try.ntmps46
  go_upto_region 1 with (fail)
  generalize hW : World.alloc _ _ = W1
  have hR : W1.heap[w.heap.size + 1]? = some (.cells #[.int .i64 0, .int .i64 0, .int .i64 0, .int .i64 0] 24 (0, 0)) := by
    rw [← hW]
    have := row_new (w.alloc (.cells #[.int .i64 x0, .int .i64 x1, .int .i64 x2, .int .i64 x3] 24)) (.cells #[.int .i64 0, .int .i64 0, .int .i64 0, .int .i64 0] 24)
    simpa only [World.size_alloc] using this
  have c0 : W1.cell? ⟨w.heap.size, 0, none⟩ = some (.int .i64 x0) := by rw [← hW]; simp [go_sem]
  have c1 : W1.cell? ⟨w.heap.size, 1, none⟩ = some (.int .i64 x1) := by rw [← hW]; simp [go_sem]
  have c2 : W1.cell? ⟨w.heap.size, 2, none⟩ = some (.int .i64 x2) := by rw [← hW]; simp [go_sem]
  have c3 : W1.cell? ⟨w.heap.size, 3, none⟩ = some (.int .i64 x3) := by rw [← hW]; simp [go_sem]
  have hpm : W1.cell? ⟨pm, 0, none⟩ = some (.pointer (some ⟨b, 0, none⟩)) := by rw [← hW]; exact cell_later (by (repeat (first | with_reducible assumption | with_reducible exact Below.refl _ _ | ((with_reducible refine Below.setCell ?_ ?_ _); rotate_left; (first | exact Nat.le_refl _ | (dsimp only; omega) | (simp; done) | (simp; omega))) | with_reducible refine below_alloc ?_ _ | with_reducible apply below_drewN | with_reducible apply Below.drew | with_reducible refine below_step ?_ (by assumption)))) hpm
  have hps : W1.cell? ⟨ps, 0, none⟩ = some (.int .i64 s) := by rw [← hW]; exact cell_later (by (repeat (first | with_reducible assumption | with_reducible exact Below.refl _ _ | ((with_reducible refine Below.setCell ?_ ?_ _); rotate_left; (first | exact Nat.le_refl _ | (dsimp only; omega) | (simp; done) | (simp; omega))) | with_reducible refine below_alloc ?_ _ | with_reducible apply below_drewN | with_reducible apply Below.drew | with_reducible refine below_step ?_ (by assumption)))) hps
  have HM : Mv b o w W1 := by rw [← hW]; exact (HM.alloc _).alloc _
  clear hW
  (try refine wp_region_noPanic ?_)
  refine wp_region_ssa (S := (fun (w' : World) => w'.cell? ⟨w.heap.size, 0, none⟩ = some (.int .i64 x0) ∧ w'.cell? ⟨w.heap.size, 1, none⟩ = some (.int .i64 x1) ∧ w'.cell? ⟨w.heap.size, 2, none⟩ = some (.int .i64 x2) ∧ w'.cell? ⟨w.heap.size, 3, none⟩ = some (.int .i64 x3) ∧ w'.cell? ⟨pm, 0, none⟩ = some (.pointer (some ⟨b, 0, none⟩)) ∧ w'.cell? ⟨ps, 0, none⟩ = some (.int .i64 s))) (#[none, none, none, none, none, some 0, some 1, some 2, some 3, some 4, some 5, some 6, some 7, some 8, some 9, some 10, some 11, some 12, some 13, some 14, some 15, some 16] : Array (Option Nat)) (by kernel_rfl) (by kernel_rfl) (by kernel_rfl) ⟨(by first | (simp (maxDischargeDepth := 6) [go_sem, *]; done)), (by first | (simp (maxDischargeDepth := 6) [go_sem, *]; done)), (by first | (simp (maxDischargeDepth := 6) [go_sem, *]; done)), (by first | (simp (maxDischargeDepth := 6) [go_sem, *]; done)), (by first | (simp (maxDischargeDepth := 6) [go_sem, *]; done)), (by first | (simp (maxDischargeDepth := 6) [go_sem, *]; done))⟩ (fun hSSA hHeld => ?_)
  refine wpAnyH_sl (n := 10) (l' := (#[true, true, false, false, true, true, false, false, true, true, false, false, true, true, false, false, false, false] : Array Bool)) [0, 1, 4, 5, 8, 9, 12, 13] [some 5, some 6, some 9, some 10, some 13, some 14, some 17, some 18] hSSA (
    LvY.take (by rfl) (by intro w hSw; (try dsimp only at hSw); go_simp; try with_reducible rfl) <|
    LvY.take (by rfl) (by intro w hSw; (try dsimp only at hSw); go_simp; try with_reducible rfl) <|
    LvY.skip <|
    LvY.skip <|
    LvY.take (by rfl) (by intro w hSw; (try dsimp only at hSw); go_simp; try with_reducible rfl) <|
    LvY.take (by rfl) (by intro w hSw; (try dsimp only at hSw); go_simp; try with_reducible rfl) <|
    LvY.skip <|
    LvY.skip <|
    LvY.take (by rfl) (by intro w hSw; (try dsimp only at hSw); go_simp; try with_reducible rfl) <|
    LvY.take (by rfl) (by intro w hSw; (try dsimp only at hSw); go_simp; try with_reducible rfl) <|
    LvY.skip <|
    LvY.skip <|
    LvY.take (by rfl) (by intro w hSw; (try dsimp only at hSw); go_simp; try with_reducible rfl) <|
    LvY.take (by rfl) (by intro w hSw; (try dsimp only at hSw); go_simp; try with_reducible rfl) <|
    LvY.skip <|
    LvY.skip <|
    LvY.skip <|
    LvY.skip <|
    LvY.nil) (by rfl) (by rfl) (by kernel_rfl) (fun _ _ _ _ _ h => h) (by kernel_rfl) (by kernel_rfl) (by kernel_rfl) (by assumption) ?_
  simp only [lvVs, putDs, Act.put, List.setIfInBounds_toArray, List.set_cons_zero, List.set_cons_succ]
  refine wpAnyH_sl (n := 6) (l' := (#[true, true, true, false, true, true, true, false, true, true, true, false, true, true, true, false, false, false] : Array Bool)) [2, 6, 10, 14] [some 7, some 11, some 15, some 19] hSSA (
    LvY.skip <|
    LvY.skip <|
    LvY.take (by rfl) (by intro w hSw; (try dsimp only at hSw); go_simp; try with_reducible rfl) <|
    LvY.skip <|
    LvY.skip <|
    LvY.skip <|
    LvY.take (by rfl) (by intro w hSw; (try dsimp only at hSw); go_simp; try with_reducible rfl) <|
    LvY.skip <|
    LvY.skip <|
    LvY.skip <|
    LvY.take (by rfl) (by intro w hSw; (try dsimp only at hSw); go_simp; try with_reducible rfl) <|
    LvY.skip <|
    LvY.skip <|
    LvY.skip <|
    LvY.take (by rfl) (by intro w hSw; (try dsimp only at hSw); go_simp; try with_reducible rfl) <|
    LvY.skip <|
    LvY.skip <|
    LvY.skip <|
    LvY.nil) (by rfl) (by rfl) (by kernel_rfl) (fun _ _ _ _ _ h => h) (by kernel_rfl) (by kernel_rfl) (by kernel_rfl) (by assumption) ?_
  simp only [lvVs, putDs, Act.put, List.setIfInBounds_toArray, List.set_cons_zero, List.set_cons_succ]
  have hOld := hHeld; clear hHeld
  refine wpAnyH_on (i := 3) (n := 5) (l' := (#[true, true, true, true, true, true, true, false, true, true, true, false, true, true, true, false, false, false] : Array Bool)) (by kernel_rfl) (by kernel_rfl) (by kernel_rfl) (by simp only [List.getElem?_toArray, List.getElem?_cons_succ, List.getElem?_cons_zero]; rfl) (by rfl) (fun K hK => ?_)
  go_simp
  ((with_reducible refine (mvCall (b := b) (w0 := w) (by (repeat (first | with_reducible assumption | with_reducible exact Mv.refl (by assumption) (by assumption) | with_reducible apply Mv.alloc | with_reducible apply Mv.drew | with_reducible apply Mv.drewN | ((with_reducible apply Mv.setCell); rotate_left; (first | (dsimp only; omega) | omega | (simp; omega)); (first | (dsimp only; omega) | omega | (simp; omega))) | ((with_reducible apply Mv.below); rotate_left; (with_reducible assumption)) | ((with_reducible apply Mv.trans); rotate_left; (with_reducible assumption))))) (k0 _ _ hOld.2.2.2.2.1 hOld.2.2.2.2.2)).mono ?_); rintro e w1 ⟨rfl, hM, HM⟩)
  (try go_wp2_with (fail))
  refine hK.out _ _ ⟨(by first | exact mv_cell hM (by first | (dsimp only; omega) | (simp; omega)) hOld.1 | exact cell_later hM hOld.1 | exact HT.cb | exact HT.cc | (simp (maxDischargeDepth := 6) [go_sem, *]; done)), (by first | exact mv_cell hM (by first | (dsimp only; omega) | (simp; omega)) hOld.2.1 | exact cell_later hM hOld.2.1 | exact HT.cb | exact HT.cc | (simp (maxDischargeDepth := 6) [go_sem, *]; done)), (by first | exact mv_cell hM (by first | (dsimp only; omega) | (simp; omega)) hOld.2.2.1 | exact cell_later hM hOld.2.2.1 | exact HT.cb | exact HT.cc | (simp (maxDischargeDepth := 6) [go_sem, *]; done)), (by first | exact mv_cell hM (by first | (dsimp only; omega) | (simp; omega)) hOld.2.2.2.1 | exact cell_later hM hOld.2.2.2.1 | exact HT.cb | exact HT.cc | (simp (maxDischargeDepth := 6) [go_sem, *]; done)), (by first | exact mv_cell hM (by first | (dsimp only; omega) | (simp; omega)) hOld.2.2.2.2.1 | exact cell_later hM hOld.2.2.2.2.1 | exact HT.cb | exact HT.cc | (simp (maxDischargeDepth := 6) [go_sem, *]; done)), (by first | exact mv_cell hM (by first | (dsimp only; omega) | (simp; omega)) hOld.2.2.2.2.2 | exact cell_later hM hOld.2.2.2.2.2 | exact HT.cb | exact HT.cc | (simp (maxDischargeDepth := 6) [go_sem, *]; done))⟩ (fun hHeld => ?_)
  clear hK K hOld
  try simp only [Act.put, List.setIfInBounds_toArray, List.set_cons_zero, List.set_cons_succ]
  have hR := row_mv (g := w.heap.size + 1) hM hR (by omega); clear hM
  have hOld := hHeld; clear hHeld
  refine wpAnyH_on (i := 7) (n := 4) (l' := (#[true, true, true, true, true, true, true, true, true, true, true, false, true, true, true, false, false, false] : Array Bool)) (by kernel_rfl) (by kernel_rfl) (by kernel_rfl) (by simp only [List.getElem?_toArray, List.getElem?_cons_succ, List.getElem?_cons_zero]; rfl) (by rfl) (fun K hK => ?_)
  go_simp
  ((with_reducible refine (mvCall (b := b) (w0 := w) (by (repeat (first | with_reducible assumption | with_reducible exact Mv.refl (by assumption) (by assumption) | with_reducible apply Mv.alloc | with_reducible apply Mv.drew | with_reducible apply Mv.drewN | ((with_reducible apply Mv.setCell); rotate_left; (first | (dsimp only; omega) | omega | (simp; omega)); (first | (dsimp only; omega) | omega | (simp; omega))) | ((with_reducible apply Mv.below); rotate_left; (with_reducible assumption)) | ((with_reducible apply Mv.trans); rotate_left; (with_reducible assumption))))) (k1 _ _ hOld.2.2.2.2.1 hOld.2.2.2.2.2)).mono ?_); rintro e w1 ⟨rfl, hM, HM⟩)
  (try go_wp2_with (fail))
  refine hK.out _ _ ⟨(by first | exact mv_cell hM (by first | (dsimp only; omega) | (simp; omega)) hOld.1 | exact cell_later hM hOld.1 | exact HT.cb | exact HT.cc | (simp (maxDischargeDepth := 6) [go_sem, *]; done)), (by first | exact mv_cell hM (by first | (dsimp only; omega) | (simp; omega)) hOld.2.1 | exact cell_later hM hOld.2.1 | exact HT.cb | exact HT.cc | (simp (maxDischargeDepth := 6) [go_sem, *]; done)), (by first | exact mv_cell hM (by first | (dsimp only; omega) | (simp; omega)) hOld.2.2.1 | exact cell_later hM hOld.2.2.1 | exact HT.cb | exact HT.cc | (simp (maxDischargeDepth := 6) [go_sem, *]; done)), (by first | exact mv_cell hM (by first | (dsimp only; omega) | (simp; omega)) hOld.2.2.2.1 | exact cell_later hM hOld.2.2.2.1 | exact HT.cb | exact HT.cc | (simp (maxDischargeDepth := 6) [go_sem, *]; done)), (by first | exact mv_cell hM (by first | (dsimp only; omega) | (simp; omega)) hOld.2.2.2.2.1 | exact cell_later hM hOld.2.2.2.2.1 | exact HT.cb | exact HT.cc | (simp (maxDischargeDepth := 6) [go_sem, *]; done)), (by first | exact mv_cell hM (by first | (dsimp only; omega) | (simp; omega)) hOld.2.2.2.2.2 | exact cell_later hM hOld.2.2.2.2.2 | exact HT.cb | exact HT.cc | (simp (maxDischargeDepth := 6) [go_sem, *]; done))⟩ (fun hHeld => ?_)
  clear hK K hOld
  try simp only [Act.put, List.setIfInBounds_toArray, List.set_cons_zero, List.set_cons_succ]
  have hR := row_mv (g := w.heap.size + 1) hM hR (by omega); clear hM
  have hOld := hHeld; clear hHeld
  refine wpAnyH_on (i := 11) (n := 3) (l' := (#[true, true, true, true, true, true, true, true, true, true, true, true, true, true, true, false, false, false] : Array Bool)) (by kernel_rfl) (by kernel_rfl) (by kernel_rfl) (by simp only [List.getElem?_toArray, List.getElem?_cons_succ, List.getElem?_cons_zero]; rfl) (by rfl) (fun K hK => ?_)
  go_simp
  ((with_reducible refine (mvCall (b := b) (w0 := w) (by (repeat (first | with_reducible assumption | with_reducible exact Mv.refl (by assumption) (by assumption) | with_reducible apply Mv.alloc | with_reducible apply Mv.drew | with_reducible apply Mv.drewN | ((with_reducible apply Mv.setCell); rotate_left; (first | (dsimp only; omega) | omega | (simp; omega)); (first | (dsimp only; omega) | omega | (simp; omega))) | ((with_reducible apply Mv.below); rotate_left; (with_reducible assumption)) | ((with_reducible apply Mv.trans); rotate_left; (with_reducible assumption))))) (k2 _ _ hOld.2.2.2.2.1 hOld.2.2.2.2.2)).mono ?_); rintro e w1 ⟨rfl, hM, HM⟩)
  (try go_wp2_with (fail))
  refine hK.out _ _ ⟨(by first | exact mv_cell hM (by first | (dsimp only; omega) | (simp; omega)) hOld.1 | exact cell_later hM hOld.1 | exact HT.cb | exact HT.cc | (simp (maxDischargeDepth := 6) [go_sem, *]; done)), (by first | exact mv_cell hM (by first | (dsimp only; omega) | (simp; omega)) hOld.2.1 | exact cell_later hM hOld.2.1 | exact HT.cb | exact HT.cc | (simp (maxDischargeDepth := 6) [go_sem, *]; done)), (by first | exact mv_cell hM (by first | (dsimp only; omega) | (simp; omega)) hOld.2.2.1 | exact cell_later hM hOld.2.2.1 | exact HT.cb | exact HT.cc | (simp (maxDischargeDepth := 6) [go_sem, *]; done)), (by first | exact mv_cell hM (by first | (dsimp only; omega) | (simp; omega)) hOld.2.2.2.1 | exact cell_later hM hOld.2.2.2.1 | exact HT.cb | exact HT.cc | (simp (maxDischargeDepth := 6) [go_sem, *]; done)), (by first | exact mv_cell hM (by first | (dsimp only; omega) | (simp; omega)) hOld.2.2.2.2.1 | exact cell_later hM hOld.2.2.2.2.1 | exact HT.cb | exact HT.cc | (simp (maxDischargeDepth := 6) [go_sem, *]; done)), (by first | exact mv_cell hM (by first | (dsimp only; omega) | (simp; omega)) hOld.2.2.2.2.2 | exact cell_later hM hOld.2.2.2.2.2 | exact HT.cb | exact HT.cc | (simp (maxDischargeDepth := 6) [go_sem, *]; done))⟩ (fun hHeld => ?_)
  clear hK K hOld
  try simp only [Act.put, List.setIfInBounds_toArray, List.set_cons_zero, List.set_cons_succ]
  have hR := row_mv (g := w.heap.size + 1) hM hR (by omega); clear hM
  have hOld := hHeld; clear hHeld
  refine wpAnyH_on (i := 15) (n := 2) (l' := (#[true, true, true, true, true, true, true, true, true, true, true, true, true, true, true, true, false, false] : Array Bool)) (by kernel_rfl) (by kernel_rfl) (by kernel_rfl) (by simp only [List.getElem?_toArray, List.getElem?_cons_succ, List.getElem?_cons_zero]; rfl) (by rfl) (fun K hK => ?_)
  go_simp
  ((with_reducible refine (mvCall (b := b) (w0 := w) (by (repeat (first | with_reducible assumption | with_reducible exact Mv.refl (by assumption) (by assumption) | with_reducible apply Mv.alloc | with_reducible apply Mv.drew | with_reducible apply Mv.drewN | ((with_reducible apply Mv.setCell); rotate_left; (first | (dsimp only; omega) | omega | (simp; omega)); (first | (dsimp only; omega) | omega | (simp; omega))) | ((with_reducible apply Mv.below); rotate_left; (with_reducible assumption)) | ((with_reducible apply Mv.trans); rotate_left; (with_reducible assumption))))) (k3 _ _ hOld.2.2.2.2.1 hOld.2.2.2.2.2)).mono ?_); rintro e w1 ⟨rfl, hM, HM⟩)
  (try go_wp2_with (fail))
  refine hK.out _ _ ⟨(by first | exact mv_cell hM (by first | (dsimp only; omega) | (simp; omega)) hOld.1 | exact cell_later hM hOld.1 | exact HT.cb | exact HT.cc | (simp (maxDischargeDepth := 6) [go_sem, *]; done)), (by first | exact mv_cell hM (by first | (dsimp only; omega) | (simp; omega)) hOld.2.1 | exact cell_later hM hOld.2.1 | exact HT.cb | exact HT.cc | (simp (maxDischargeDepth := 6) [go_sem, *]; done)), (by first | exact mv_cell hM (by first | (dsimp only; omega) | (simp; omega)) hOld.2.2.1 | exact cell_later hM hOld.2.2.1 | exact HT.cb | exact HT.cc | (simp (maxDischargeDepth := 6) [go_sem, *]; done)), (by first | exact mv_cell hM (by first | (dsimp only; omega) | (simp; omega)) hOld.2.2.2.1 | exact cell_later hM hOld.2.2.2.1 | exact HT.cb | exact HT.cc | (simp (maxDischargeDepth := 6) [go_sem, *]; done)), (by first | exact mv_cell hM (by first | (dsimp only; omega) | (simp; omega)) hOld.2.2.2.2.1 | exact cell_later hM hOld.2.2.2.2.1 | exact HT.cb | exact HT.cc | (simp (maxDischargeDepth := 6) [go_sem, *]; done)), (by first | exact mv_cell hM (by first | (dsimp only; omega) | (simp; omega)) hOld.2.2.2.2.2 | exact cell_later hM hOld.2.2.2.2.2 | exact HT.cb | exact HT.cc | (simp (maxDischargeDepth := 6) [go_sem, *]; done))⟩ (fun hHeld => ?_)
  clear hK K hOld
  try simp only [Act.put, List.setIfInBounds_toArray, List.set_cons_zero, List.set_cons_succ]
  have hR := row_mv (g := w.heap.size + 1) hM hR (by omega); clear hM
  refine wpAnyH_sl (n := 1) (l' := (#[true, true, true, true, true, true, true, true, true, true, true, true, true, true, true, true, true, false] : Array Bool)) [16] [some 21] hSSA (
    LvY.skip <|
    LvY.skip <|
    LvY.skip <|
    LvY.skip <|
    LvY.skip <|
    LvY.skip <|
    LvY.skip <|
    LvY.skip <|
    LvY.skip <|
    LvY.skip <|
    LvY.skip <|
    LvY.skip <|
    LvY.skip <|
    LvY.skip <|
    LvY.skip <|
    LvY.skip <|
    LvY.take (by rfl) (by intro w hSw; (try dsimp only at hSw); go_simp; try with_reducible rfl) <|
    LvY.skip <|
    LvY.nil) (by rfl) (by rfl) (by kernel_rfl) (fun _ _ _ _ _ h => h) (by kernel_rfl) (by kernel_rfl) (by kernel_rfl) (by assumption) ?_
  simp only [lvVs, putDs, Act.put, List.setIfInBounds_toArray, List.set_cons_zero, List.set_cons_succ]
  have hOld := hHeld; clear hHeld
  refine wpAnyH_on (i := 17) (n := 0) (l' := (#[true, true, true, true, true, true, true, true, true, true, true, true, true, true, true, true, true, true] : Array Bool)) (by kernel_rfl) (by kernel_rfl) (by kernel_rfl) (by simp only [List.getElem?_toArray, List.getElem?_cons_succ, List.getElem?_cons_zero]; rfl) (by rfl) (fun K hK => ?_)
  refine wp_store_row 24 _ _ rfl (w.heap.size + 1) #[.int .i64 d0, .int .i64 d1, .int .i64 d2, .int .i64 d3] (by rfl) (by rfl) 24 _ hR (by kernel_rfl) rfl (by simp [Value.oneCell']) ?_
  refine hK.out _ _ ⟨cell_row hOld.1 (by dsimp only; omega), cell_row hOld.2.1 (by dsimp only; omega), cell_row hOld.2.2.1 (by dsimp only; omega), cell_row hOld.2.2.2.1 (by dsimp only; omega), cell_row hOld.2.2.2.2.1 (by dsimp only; omega), cell_row hOld.2.2.2.2.2 (by dsimp only; omega)⟩ (fun hHeld => ?_)
  clear hK K hOld
  try simp only [Act.put, List.setIfInBounds_toArray, List.set_cons_zero, List.set_cons_succ]
  refine wpAnyH_done (by kernel_rfl) ?_ _
  (try refine NoPanic.normal ?_)
  (try clear q0); (try clear q1); (try clear q2); (try clear q3); (try clear q4); (try clear q5); obtain ⟨q0, q1, q2, q3, q4, q5⟩ := hHeld
  have hR := row_put #[.int .i64 d0, .int .i64 d1, .int .i64 d2, .int .i64 d3] hR
  go_wp2
  refine bodyPost_ret (results_cell_row rfl _ _ (w.heap.size + 1) 24 #[.int .i64 d0, .int .i64 d1, .int .i64 d2, .int .i64 d3] (0, 0) _ (by rfl) hR Try.underlying24 rfl (by kernel_rfl)) rfl ⟨rfl, ?_⟩
  exact HM.row (by omega) (by omega) _
set_option maxHeartbeats 8000000 in
set_option maxRecDepth 20000 in
theorem cUnit4 (x0 x1 x2 x3 : Int) (b : Nat) (o : Bool) (w : World) (x0_0 : -9223372036854775808 ≤ x0) (x0_1 : x0 ≤ 9223372036854775807) (x1_0 : -9223372036854775808 ≤ x1) (x1_1 : x1 ≤ 9223372036854775807) (x2_0 : -9223372036854775808 ≤ x2) (x2_1 : x2 ≤ 9223372036854775807) (x3_0 : -9223372036854775808 ≤ x3) (x3_1 : x3 ≤ 9223372036854775807) (hc : w.cell? ⟨b, 0, none⟩ = some (.bool o)) (hf : w.frozen? ⟨b, 0, none⟩ = false) :
    Calls Try.prog 18 #[.pointer (some ⟨b, 0, none⟩), .agg #[.int .i64 x0, .int .i64 x1, .int .i64 x2, .int .i64 x3]] w fun e w' =>
      e = .returned (.agg #[.int .i64 (uw x0 (ln (x0 * x0 + x1 * x1 + x2 * x2 + x3 * x3))), .int .i64 (uq x1 (ln (x0 * x0 + x1 * x1 + x2 * x2 + x3 * x3))), .int .i64 (uq x2 (ln (x0 * x0 + x1 * x1 + x2 * x2 + x3 * x3))), .int .i64 (uq x3 (ln (x0 * x0 + x1 * x1 + x2 * x2 + x3 * x3)))]) ∧
        Mv b (o || !lnok (x0 * x0 + x1 * x1 + x2 * x2 + x3 * x3) || !uok x0 (ln (x0 * x0 + x1 * x1 + x2 * x2 + x3 * x3)) || !uok x1 (ln (x0 * x0 + x1 * x1 + x2 * x2 + x3 * x3)) || !uok x2 (ln (x0 * x0 + x1 * x1 + x2 * x2 + x3 * x3)) || !uok x3 (ln (x0 * x0 + x1 * x1 + x2 * x2 + x3 * x3))) w w' := by
  have k1 := fun O W => cLen4 x0 x1 x2 x3 b O W x0_0 x0_1 x1_0 x1_1 x2_0 x2_1 x3_0 x3_1
  have m0 := ln_lo (x0 * x0 + x1 * x1 + x2 * x2 + x3 * x3)
  have m1 := ln_hi (x0 * x0 + x1 * x1 + x2 * x2 + x3 * x3)
  generalize ln (x0 * x0 + x1 * x1 + x2 * x2 + x3 * x3) = n at *
  generalize lnok (x0 * x0 + x1 * x1 + x2 * x2 + x3 * x3) = p at *
  have hb := lt_of_cell hc
  have HM := Mv.refl hc hf
  clear hc hf
  have k2 := fun ps O W n1 n2 => cQEachUnit (fun x => fq x n) (fun x => fqok x n) x0 x1 x2 x3 n w.heap.size ps b O W x0_0 x0_1 x1_0 x1_1 x2_0 x2_1 x3_0 x3_1 n1 n2
    (fun x o W a1 a2 h1 h2 h3 h4 => cUFUnit x n w.heap.size ps b o W a1 a2 (by omega) (by omega) h1 h2 h3 h4)
  generalize hu0 : uw x0 n = u0 at *
  generalize hu1 : uq x1 n = u1 at *
  generalize hu2 : uq x2 n = u2 at *
  generalize hu3 : uq x3 n = u3 at *
  generalize hp0 : uok x0 n = p0 at *
  generalize hp1 : uok x1 n = p1 at *
  generalize hp2 : uok x2 n = p2 at *
  generalize hp3 : uok x3 n = p3 at *
  go_enter Try.func18, Try.ntmps18
  go_wp2_with (fail)
  generalize hW : World.alloc _ _ = W1
  have hR : W1.heap[w.heap.size + 1 + 1]? = some (.cells #[.int .i64 0, .int .i64 0, .int .i64 0, .int .i64 0] 24 (0, 0)) := by
    rw [← hW]
    have := row_new ((w.alloc (.cells #[.pointer (some ⟨b, 0, none⟩)] 27)).alloc (.cells #[.int .i64 x0, .int .i64 x1, .int .i64 x2, .int .i64 x3] 24)) (.cells #[.int .i64 0, .int .i64 0, .int .i64 0, .int .i64 0] 24)
    simpa only [World.size_alloc] using this
  have c0 : W1.cell? ⟨w.heap.size + 1, 0, none⟩ = some (.int .i64 x0) := by rw [← hW]; simp [go_sem]
  have c1 : W1.cell? ⟨w.heap.size + 1, 1, none⟩ = some (.int .i64 x1) := by rw [← hW]; simp [go_sem]
  have c2 : W1.cell? ⟨w.heap.size + 1, 2, none⟩ = some (.int .i64 x2) := by rw [← hW]; simp [go_sem]
  have c3 : W1.cell? ⟨w.heap.size + 1, 3, none⟩ = some (.int .i64 x3) := by rw [← hW]; simp [go_sem]
  have hpm : W1.cell? ⟨w.heap.size, 0, none⟩ = some (.pointer (some ⟨b, 0, none⟩)) := by rw [← hW]; simp [go_sem]
  have HM : Mv b o w W1 := by rw [← hW]; exact ((HM.alloc _).alloc _).alloc _
  have hz : W1.heap.size = w.heap.size + 3 := by rw [← hW]; simp
  clear hW
  (with_reducible refine (mvCall (b := b) (w0 := w) HM (k1 _ _)).mono ?_); rintro e w1 ⟨rfl, hM, HM⟩
  have c0 := mv_cell hM (by dsimp only; omega) c0
  have c1 := mv_cell hM (by dsimp only; omega) c1
  have c2 := mv_cell hM (by dsimp only; omega) c2
  have c3 := mv_cell hM (by dsimp only; omega) c3
  have hpm := mv_cell hM (by dsimp only; omega) hpm
  have hR := row_mv (g := w.heap.size + 1 + 1) hM hR (by omega)
  have hz1 := hM.size
  clear hM k1
  have HA := HM.alloc (.cells #[.int .i64 n] 22)
  have hRA := row_later hR ((Below.refl _ _).alloc (Nat.le_refl _) (.cells #[.int .i64 n] 22))
  by_cases hn : n = 0
  · subst hn
    simp only [uw, if_pos rfl, if_true] at hu0; subst hu0
    rw [uok_0] at hp0; subst hp0
    simp only [uq, if_pos rfl, if_true] at hu1; subst hu1
    rw [uok_0] at hp1; subst hp1
    simp only [uq, if_pos rfl, if_true] at hu2; subst hu2
    rw [uok_0] at hp2; subst hp2
    simp only [uq, if_pos rfl, if_true] at hu3; subst hu3
    rw [uok_0] at hp3; subst hp3
    go_wp2_with (refine wpList_store_row rfl 24 _ _ rfl (w.heap.size + 1 + 1) #[.int .i64 4294967296, .int .i64 0, .int .i64 0, .int .i64 0] (by rfl) (by rfl) 24 _ hRA (by kernel_rfl) rfl (by simp [Value.oneCell']) ?_)
    have hR := row_put #[.int .i64 4294967296, .int .i64 0, .int .i64 0, .int .i64 0] hRA
    refine bodyPost_ret (results_cell_row rfl _ _ (w.heap.size + 1 + 1) 24 #[.int .i64 4294967296, .int .i64 0, .int .i64 0, .int .i64 0] (0, 0) _ (by rfl) hR Try.underlying24 rfl (by kernel_rfl)) rfl ⟨rfl, ?_⟩
    simp only [Bool.not_true, Bool.or_false]
    exact HA.row (by omega) (by omega) _
  · rw [uw_no _ _ hn] at hu0; subst hu0
    rw [uok_no _ _ hn] at hp0; subst hp0
    rw [uq_no _ _ hn] at hu1; subst hu1
    rw [uok_no _ _ hn] at hp1; subst hp1
    rw [uq_no _ _ hn] at hu2; subst hu2
    rw [uok_no _ _ hn] at hp2; subst hp2
    rw [uq_no _ _ hn] at hu3; subst hu3
    rw [uok_no _ _ hn] at hp3; subst hp3
    have hps : (w1.alloc (.cells #[.int .i64 n] 22)).cell? ⟨w1.heap.size, 0, none⟩ = some (.int .i64 n) := by simp [go_sem]
    have hpm := cell_later ((Below.refl _ _).alloc (Nat.le_refl _) (.cells #[.int .i64 n] 22)) hpm
    have k3 := k2 w1.heap.size _ (w1.alloc (.cells #[.int .i64 n] 22)) (by omega) (by have := lt_of_cell HM.cell; omega) hpm hps HA.cell HA.free
    clear k2
    go_wp2_with (first
      | (go_at_call 46; (with_reducible refine k3.mono ?_); rintro e w2 ⟨rfl, hM⟩; have HM2 := HA.trans hM; have hRB := row_mv (g := w.heap.size + 1 + 1) hM hRA (by omega))
      | (refine wpList_store_row rfl 24 _ _ rfl (w.heap.size + 1 + 1) #[.int .i64 (fq x0 n), .int .i64 (fq x1 n), .int .i64 (fq x2 n), .int .i64 (fq x3 n)] (by rfl) (by rfl) 24 _ hRB (by kernel_rfl) rfl (by simp [Value.oneCell']) ?_))
    have hR := row_put #[.int .i64 (fq x0 n), .int .i64 (fq x1 n), .int .i64 (fq x2 n), .int .i64 (fq x3 n)] hRB
    refine bodyPost_ret (results_cell_row rfl _ _ (w.heap.size + 1 + 1) 24 #[.int .i64 (fq x0 n), .int .i64 (fq x1 n), .int .i64 (fq x2 n), .int .i64 (fq x3 n)] (0, 0) _ (by rfl) hR Try.underlying24 rfl (by kernel_rfl)) rfl ⟨rfl, ?_⟩
    exact HM2.row (by omega) (by omega) _
end
section
set_option linter.unusedVariables false
set_option maxHeartbeats 8000000 in
set_option maxRecDepth 20000 in
theorem rUnit4 (x0 x1 x2 x3 : Int) (b : Nat) (o : Bool) (w : World) (x0_0 : -9223372036854775808 ≤ x0) (x0_1 : x0 ≤ 9223372036854775807) (x1_0 : -9223372036854775808 ≤ x1) (x1_1 : x1 ≤ 9223372036854775807) (x2_0 : -9223372036854775808 ≤ x2) (x2_1 : x2 ≤ 9223372036854775807) (x3_0 : -9223372036854775808 ≤ x3) (x3_1 : x3 ≤ 9223372036854775807) (hc : w.cell? ⟨b, 0, none⟩ = some (.bool o)) (hf : w.frozen? ⟨b, 0, none⟩ = false) :
    Calls Try.prog 19 #[.pointer (some ⟨b, 0, none⟩), .agg #[.int .i64 x0, .int .i64 x1, .int .i64 x2, .int .i64 x3]] w fun e w' =>
      e = .returned (.agg #[.int .i64 (uw x0 (ln (x0 * x0 + x1 * x1 + x2 * x2 + x3 * x3))), .int .i64 (uq x1 (ln (x0 * x0 + x1 * x1 + x2 * x2 + x3 * x3))), .int .i64 (uq x2 (ln (x0 * x0 + x1 * x1 + x2 * x2 + x3 * x3))), .int .i64 (uq x3 (ln (x0 * x0 + x1 * x1 + x2 * x2 + x3 * x3)))]) ∧
        Mv b (o || !lnok (x0 * x0 + x1 * x1 + x2 * x2 + x3 * x3) || !uok x0 (ln (x0 * x0 + x1 * x1 + x2 * x2 + x3 * x3)) || !uok x1 (ln (x0 * x0 + x1 * x1 + x2 * x2 + x3 * x3)) || !uok x2 (ln (x0 * x0 + x1 * x1 + x2 * x2 + x3 * x3)) || !uok x3 (ln (x0 * x0 + x1 * x1 + x2 * x2 + x3 * x3))) w w' := by
  have k1 := fun O W => c3Len4 x0 x1 x2 x3 b O W x0_0 x0_1 x1_0 x1_1 x2_0 x2_1 x3_0 x3_1
  have m0 := ln_lo (x0 * x0 + x1 * x1 + x2 * x2 + x3 * x3)
  have m1 := ln_hi (x0 * x0 + x1 * x1 + x2 * x2 + x3 * x3)
  generalize ln (x0 * x0 + x1 * x1 + x2 * x2 + x3 * x3) = n at *
  generalize lnok (x0 * x0 + x1 * x1 + x2 * x2 + x3 * x3) = p at *
  have hb := lt_of_cell hc
  have HM := Mv.refl hc hf
  clear hc hf
  have k2 := fun O W => rDiv x0 n b O W x0_0 x0_1 (by omega) (by omega)
  have k3 := fun O W => rDiv x1 n b O W x1_0 x1_1 (by omega) (by omega)
  have k4 := fun O W => rDiv x2 n b O W x2_0 x2_1 (by omega) (by omega)
  have k5 := fun O W => rDiv x3 n b O W x3_0 x3_1 (by omega) (by omega)
  generalize hu0 : uw x0 n = u0 at *
  generalize hu1 : uq x1 n = u1 at *
  generalize hu2 : uq x2 n = u2 at *
  generalize hu3 : uq x3 n = u3 at *
  generalize hp0 : uok x0 n = p0 at *
  generalize hp1 : uok x1 n = p1 at *
  generalize hp2 : uok x2 n = p2 at *
  generalize hp3 : uok x3 n = p3 at *
  go_enter Try.func19, Try.ntmps19
  go_wp2_with (fail)
  generalize hW : World.alloc _ _ = W1
  have hR : W1.heap[w.heap.size + 1]? = some (.cells #[.int .i64 0, .int .i64 0, .int .i64 0, .int .i64 0] 24 (0, 0)) := by
    rw [← hW]
    have := row_new (w.alloc (.cells #[.int .i64 x0, .int .i64 x1, .int .i64 x2, .int .i64 x3] 24)) (.cells #[.int .i64 0, .int .i64 0, .int .i64 0, .int .i64 0] 24)
    simpa only [World.size_alloc] using this
  have c0 : W1.cell? ⟨w.heap.size, 0, none⟩ = some (.int .i64 x0) := by rw [← hW]; simp [go_sem]
  have c1 : W1.cell? ⟨w.heap.size, 1, none⟩ = some (.int .i64 x1) := by rw [← hW]; simp [go_sem]
  have c2 : W1.cell? ⟨w.heap.size, 2, none⟩ = some (.int .i64 x2) := by rw [← hW]; simp [go_sem]
  have c3 : W1.cell? ⟨w.heap.size, 3, none⟩ = some (.int .i64 x3) := by rw [← hW]; simp [go_sem]
  have HM : Mv b o w W1 := by rw [← hW]; exact (HM.alloc _).alloc _
  clear hW
  (with_reducible refine (mvCall (b := b) (w0 := w) HM (k1 _ _)).mono ?_); rintro e w1 ⟨rfl, hM, HM⟩
  have c0 := mv_cell hM (by dsimp only; omega) c0
  have c1 := mv_cell hM (by dsimp only; omega) c1
  have c2 := mv_cell hM (by dsimp only; omega) c2
  have c3 := mv_cell hM (by dsimp only; omega) c3
  have hR := row_mv (g := w.heap.size + 1) hM hR (by omega)
  clear hM k1
  by_cases hn : n = 0
  · subst hn
    simp only [uw, if_pos rfl, if_true] at hu0; subst hu0
    rw [uok_0] at hp0; subst hp0
    simp only [uq, if_pos rfl, if_true] at hu1; subst hu1
    rw [uok_0] at hp1; subst hp1
    simp only [uq, if_pos rfl, if_true] at hu2; subst hu2
    rw [uok_0] at hp2; subst hp2
    simp only [uq, if_pos rfl, if_true] at hu3; subst hu3
    rw [uok_0] at hp3; subst hp3
    go_wp2_with (refine wpList_store_row rfl 24 _ _ rfl (w.heap.size + 1) #[.int .i64 4294967296, .int .i64 0, .int .i64 0, .int .i64 0] (by rfl) (by rfl) 24 _ hR (by kernel_rfl) rfl (by simp [Value.oneCell']) ?_)
    have hR := row_put #[.int .i64 4294967296, .int .i64 0, .int .i64 0, .int .i64 0] hR
    refine bodyPost_ret (results_cell_row rfl _ _ (w.heap.size + 1) 24 #[.int .i64 4294967296, .int .i64 0, .int .i64 0, .int .i64 0] (0, 0) _ (by rfl) hR Try.underlying24 rfl (by kernel_rfl)) rfl ⟨rfl, ?_⟩
    simp only [Bool.not_true, Bool.or_false]
    exact HM.row (by omega) (by omega) _
  · rw [uw_no _ _ hn] at hu0; rw [uok_no _ _ hn] at hp0; simp only [hu0, hp0] at k2
    rw [uq_no _ _ hn] at hu1; rw [uok_no _ _ hn] at hp1; simp only [hu1, hp1] at k3
    rw [uq_no _ _ hn] at hu2; rw [uok_no _ _ hn] at hp2; simp only [hu2, hp2] at k4
    rw [uq_no _ _ hn] at hu3; rw [uok_no _ _ hn] at hp3; simp only [hu3, hp3] at k5
    clear hu0 hu1 hu2 hu3 hp0 hp1 hp2 hp3
    go_upto_region 4 with (fail)
    (try refine wp_region_noPanic ?_)
    refine wp_region_ssa (S := (fun (w' : World) => w'.cell? ⟨w.heap.size, 0, none⟩ = some (.int .i64 x0) ∧ w'.cell? ⟨w.heap.size, 1, none⟩ = some (.int .i64 x1) ∧ w'.cell? ⟨w.heap.size, 2, none⟩ = some (.int .i64 x2) ∧ w'.cell? ⟨w.heap.size, 3, none⟩ = some (.int .i64 x3))) (#[none, none, none, none, none, none, none, none, none, none, none, none, none, none, none, none, none, none, none, some 0, some 1, some 2, some 3, some 4, some 5, some 6, some 7, some 8, some 9, some 10, some 11, some 12, some 13, some 14, some 15, some 16, some 17, some 18, some 19, some 20] : Array (Option Nat)) (by kernel_rfl) (by kernel_rfl) (by kernel_rfl) ⟨(by first | (simp (maxDischargeDepth := 6) [go_sem, *]; done)), (by first | (simp (maxDischargeDepth := 6) [go_sem, *]; done)), (by first | (simp (maxDischargeDepth := 6) [go_sem, *]; done)), (by first | (simp (maxDischargeDepth := 6) [go_sem, *]; done))⟩ (fun hSSA hHeld => ?_)
    refine wpAnyH_sl (n := 10) (l' := (#[true, true, false, true, false, true, true, false, true, false, true, true, false, true, false, true, true, false, true, false, false, false] : Array Bool)) [0, 1, 3, 5, 6, 8, 10, 11, 13, 15, 16, 18] [some 19, some 20, some 22, some 24, some 25, some 27, some 29, some 30, some 32, some 34, some 35, some 37] hSSA (
      LvY.take (by rfl) (by intro w hSw; (try dsimp only at hSw); go_simp; try with_reducible rfl) <|
      LvY.take (by rfl) (by intro w hSw; (try dsimp only at hSw); go_simp; try with_reducible rfl) <|
      LvY.skip <|
      LvY.take (by rfl) (by intro w hSw; (try dsimp only at hSw); go_simp; try with_reducible rfl) <|
      LvY.skip <|
      LvY.take (by rfl) (by intro w hSw; (try dsimp only at hSw); go_simp; try with_reducible rfl) <|
      LvY.take (by rfl) (by intro w hSw; (try dsimp only at hSw); go_simp; try with_reducible rfl) <|
      LvY.skip <|
      LvY.take (by rfl) (by intro w hSw; (try dsimp only at hSw); go_simp; try with_reducible rfl) <|
      LvY.skip <|
      LvY.take (by rfl) (by intro w hSw; (try dsimp only at hSw); go_simp; try with_reducible rfl) <|
      LvY.take (by rfl) (by intro w hSw; (try dsimp only at hSw); go_simp; try with_reducible rfl) <|
      LvY.skip <|
      LvY.take (by rfl) (by intro w hSw; (try dsimp only at hSw); go_simp; try with_reducible rfl) <|
      LvY.skip <|
      LvY.take (by rfl) (by intro w hSw; (try dsimp only at hSw); go_simp; try with_reducible rfl) <|
      LvY.take (by rfl) (by intro w hSw; (try dsimp only at hSw); go_simp; try with_reducible rfl) <|
      LvY.skip <|
      LvY.take (by rfl) (by intro w hSw; (try dsimp only at hSw); go_simp; try with_reducible rfl) <|
      LvY.skip <|
      LvY.skip <|
      LvY.skip <|
      LvY.nil) (by rfl) (by rfl) (by kernel_rfl) (fun _ _ _ _ _ h => h) (by kernel_rfl) (by kernel_rfl) (by kernel_rfl) (by assumption) ?_
    simp only [lvVs, putDs, Act.put, List.setIfInBounds_toArray, List.set_cons_zero, List.set_cons_succ]
    refine wpAnyH_sl (n := 6) (l' := (#[true, true, true, true, false, true, true, true, true, false, true, true, true, true, false, true, true, true, true, false, false, false] : Array Bool)) [2, 7, 12, 17] [some 21, some 26, some 31, some 36] hSSA (
      LvY.skip <|
      LvY.skip <|
      LvY.take (by rfl) (by intro w hSw; (try dsimp only at hSw); go_simp; try with_reducible rfl) <|
      LvY.skip <|
      LvY.skip <|
      LvY.skip <|
      LvY.skip <|
      LvY.take (by rfl) (by intro w hSw; (try dsimp only at hSw); go_simp; try with_reducible rfl) <|
      LvY.skip <|
      LvY.skip <|
      LvY.skip <|
      LvY.skip <|
      LvY.take (by rfl) (by intro w hSw; (try dsimp only at hSw); go_simp; try with_reducible rfl) <|
      LvY.skip <|
      LvY.skip <|
      LvY.skip <|
      LvY.skip <|
      LvY.take (by rfl) (by intro w hSw; (try dsimp only at hSw); go_simp; try with_reducible rfl) <|
      LvY.skip <|
      LvY.skip <|
      LvY.skip <|
      LvY.skip <|
      LvY.nil) (by rfl) (by rfl) (by kernel_rfl) (fun _ _ _ _ _ h => h) (by kernel_rfl) (by kernel_rfl) (by kernel_rfl) (by assumption) ?_
    simp only [lvVs, putDs, Act.put, List.setIfInBounds_toArray, List.set_cons_zero, List.set_cons_succ]
    have hOld := hHeld; clear hHeld
    refine wpAnyH_on (i := 4) (n := 5) (l' := (#[true, true, true, true, true, true, true, true, true, false, true, true, true, true, false, true, true, true, true, false, false, false] : Array Bool)) (by kernel_rfl) (by kernel_rfl) (by kernel_rfl) (by simp only [List.getElem?_toArray, List.getElem?_cons_succ, List.getElem?_cons_zero]; rfl) (by rfl) (fun K hK => ?_)
    go_simp
    (go_at_call 50; (with_reducible refine (mvCall (b := b) (w0 := w) (by (repeat (first | with_reducible assumption | with_reducible exact Mv.refl (by assumption) (by assumption) | with_reducible apply Mv.alloc | with_reducible apply Mv.drew | with_reducible apply Mv.drewN | ((with_reducible apply Mv.setCell); rotate_left; (first | (dsimp only; omega) | omega | (simp; omega)); (first | (dsimp only; omega) | omega | (simp; omega))) | ((with_reducible apply Mv.below); rotate_left; (with_reducible assumption)) | ((with_reducible apply Mv.trans); rotate_left; (with_reducible assumption))))) (k2 _ _)).mono ?_); rintro e w1 ⟨rfl, hM, HM⟩)
    (try go_wp2_with (fail))
    refine hK.out _ _ ⟨(by first | exact mv_cell hM (by first | (dsimp only; omega) | (simp; omega)) hOld.1 | exact cell_later hM hOld.1 | exact HT.cb | exact HT.cc | (simp (maxDischargeDepth := 6) [go_sem, *]; done)), (by first | exact mv_cell hM (by first | (dsimp only; omega) | (simp; omega)) hOld.2.1 | exact cell_later hM hOld.2.1 | exact HT.cb | exact HT.cc | (simp (maxDischargeDepth := 6) [go_sem, *]; done)), (by first | exact mv_cell hM (by first | (dsimp only; omega) | (simp; omega)) hOld.2.2.1 | exact cell_later hM hOld.2.2.1 | exact HT.cb | exact HT.cc | (simp (maxDischargeDepth := 6) [go_sem, *]; done)), (by first | exact mv_cell hM (by first | (dsimp only; omega) | (simp; omega)) hOld.2.2.2 | exact cell_later hM hOld.2.2.2 | exact HT.cb | exact HT.cc | (simp (maxDischargeDepth := 6) [go_sem, *]; done))⟩ (fun hHeld => ?_)
    clear hK K hOld
    try simp only [Act.put, List.setIfInBounds_toArray, List.set_cons_zero, List.set_cons_succ]
    have hR := row_mv (g := w.heap.size + 1) hM hR (by omega); clear hM
    have hOld := hHeld; clear hHeld
    refine wpAnyH_on (i := 9) (n := 4) (l' := (#[true, true, true, true, true, true, true, true, true, true, true, true, true, true, false, true, true, true, true, false, false, false] : Array Bool)) (by kernel_rfl) (by kernel_rfl) (by kernel_rfl) (by simp only [List.getElem?_toArray, List.getElem?_cons_succ, List.getElem?_cons_zero]; rfl) (by rfl) (fun K hK => ?_)
    go_simp
    (go_at_call 50; (with_reducible refine (mvCall (b := b) (w0 := w) (by (repeat (first | with_reducible assumption | with_reducible exact Mv.refl (by assumption) (by assumption) | with_reducible apply Mv.alloc | with_reducible apply Mv.drew | with_reducible apply Mv.drewN | ((with_reducible apply Mv.setCell); rotate_left; (first | (dsimp only; omega) | omega | (simp; omega)); (first | (dsimp only; omega) | omega | (simp; omega))) | ((with_reducible apply Mv.below); rotate_left; (with_reducible assumption)) | ((with_reducible apply Mv.trans); rotate_left; (with_reducible assumption))))) (k3 _ _)).mono ?_); rintro e w1 ⟨rfl, hM, HM⟩)
    (try go_wp2_with (fail))
    refine hK.out _ _ ⟨(by first | exact mv_cell hM (by first | (dsimp only; omega) | (simp; omega)) hOld.1 | exact cell_later hM hOld.1 | exact HT.cb | exact HT.cc | (simp (maxDischargeDepth := 6) [go_sem, *]; done)), (by first | exact mv_cell hM (by first | (dsimp only; omega) | (simp; omega)) hOld.2.1 | exact cell_later hM hOld.2.1 | exact HT.cb | exact HT.cc | (simp (maxDischargeDepth := 6) [go_sem, *]; done)), (by first | exact mv_cell hM (by first | (dsimp only; omega) | (simp; omega)) hOld.2.2.1 | exact cell_later hM hOld.2.2.1 | exact HT.cb | exact HT.cc | (simp (maxDischargeDepth := 6) [go_sem, *]; done)), (by first | exact mv_cell hM (by first | (dsimp only; omega) | (simp; omega)) hOld.2.2.2 | exact cell_later hM hOld.2.2.2 | exact HT.cb | exact HT.cc | (simp (maxDischargeDepth := 6) [go_sem, *]; done))⟩ (fun hHeld => ?_)
    clear hK K hOld
    try simp only [Act.put, List.setIfInBounds_toArray, List.set_cons_zero, List.set_cons_succ]
    have hR := row_mv (g := w.heap.size + 1) hM hR (by omega); clear hM
    have hOld := hHeld; clear hHeld
    refine wpAnyH_on (i := 14) (n := 3) (l' := (#[true, true, true, true, true, true, true, true, true, true, true, true, true, true, true, true, true, true, true, false, false, false] : Array Bool)) (by kernel_rfl) (by kernel_rfl) (by kernel_rfl) (by simp only [List.getElem?_toArray, List.getElem?_cons_succ, List.getElem?_cons_zero]; rfl) (by rfl) (fun K hK => ?_)
    go_simp
    (go_at_call 50; (with_reducible refine (mvCall (b := b) (w0 := w) (by (repeat (first | with_reducible assumption | with_reducible exact Mv.refl (by assumption) (by assumption) | with_reducible apply Mv.alloc | with_reducible apply Mv.drew | with_reducible apply Mv.drewN | ((with_reducible apply Mv.setCell); rotate_left; (first | (dsimp only; omega) | omega | (simp; omega)); (first | (dsimp only; omega) | omega | (simp; omega))) | ((with_reducible apply Mv.below); rotate_left; (with_reducible assumption)) | ((with_reducible apply Mv.trans); rotate_left; (with_reducible assumption))))) (k4 _ _)).mono ?_); rintro e w1 ⟨rfl, hM, HM⟩)
    (try go_wp2_with (fail))
    refine hK.out _ _ ⟨(by first | exact mv_cell hM (by first | (dsimp only; omega) | (simp; omega)) hOld.1 | exact cell_later hM hOld.1 | exact HT.cb | exact HT.cc | (simp (maxDischargeDepth := 6) [go_sem, *]; done)), (by first | exact mv_cell hM (by first | (dsimp only; omega) | (simp; omega)) hOld.2.1 | exact cell_later hM hOld.2.1 | exact HT.cb | exact HT.cc | (simp (maxDischargeDepth := 6) [go_sem, *]; done)), (by first | exact mv_cell hM (by first | (dsimp only; omega) | (simp; omega)) hOld.2.2.1 | exact cell_later hM hOld.2.2.1 | exact HT.cb | exact HT.cc | (simp (maxDischargeDepth := 6) [go_sem, *]; done)), (by first | exact mv_cell hM (by first | (dsimp only; omega) | (simp; omega)) hOld.2.2.2 | exact cell_later hM hOld.2.2.2 | exact HT.cb | exact HT.cc | (simp (maxDischargeDepth := 6) [go_sem, *]; done))⟩ (fun hHeld => ?_)
    clear hK K hOld
    try simp only [Act.put, List.setIfInBounds_toArray, List.set_cons_zero, List.set_cons_succ]
    have hR := row_mv (g := w.heap.size + 1) hM hR (by omega); clear hM
    have hOld := hHeld; clear hHeld
    refine wpAnyH_on (i := 19) (n := 2) (l' := (#[true, true, true, true, true, true, true, true, true, true, true, true, true, true, true, true, true, true, true, true, false, false] : Array Bool)) (by kernel_rfl) (by kernel_rfl) (by kernel_rfl) (by simp only [List.getElem?_toArray, List.getElem?_cons_succ, List.getElem?_cons_zero]; rfl) (by rfl) (fun K hK => ?_)
    go_simp
    (go_at_call 50; (with_reducible refine (mvCall (b := b) (w0 := w) (by (repeat (first | with_reducible assumption | with_reducible exact Mv.refl (by assumption) (by assumption) | with_reducible apply Mv.alloc | with_reducible apply Mv.drew | with_reducible apply Mv.drewN | ((with_reducible apply Mv.setCell); rotate_left; (first | (dsimp only; omega) | omega | (simp; omega)); (first | (dsimp only; omega) | omega | (simp; omega))) | ((with_reducible apply Mv.below); rotate_left; (with_reducible assumption)) | ((with_reducible apply Mv.trans); rotate_left; (with_reducible assumption))))) (k5 _ _)).mono ?_); rintro e w1 ⟨rfl, hM, HM⟩)
    (try go_wp2_with (fail))
    refine hK.out _ _ ⟨(by first | exact mv_cell hM (by first | (dsimp only; omega) | (simp; omega)) hOld.1 | exact cell_later hM hOld.1 | exact HT.cb | exact HT.cc | (simp (maxDischargeDepth := 6) [go_sem, *]; done)), (by first | exact mv_cell hM (by first | (dsimp only; omega) | (simp; omega)) hOld.2.1 | exact cell_later hM hOld.2.1 | exact HT.cb | exact HT.cc | (simp (maxDischargeDepth := 6) [go_sem, *]; done)), (by first | exact mv_cell hM (by first | (dsimp only; omega) | (simp; omega)) hOld.2.2.1 | exact cell_later hM hOld.2.2.1 | exact HT.cb | exact HT.cc | (simp (maxDischargeDepth := 6) [go_sem, *]; done)), (by first | exact mv_cell hM (by first | (dsimp only; omega) | (simp; omega)) hOld.2.2.2 | exact cell_later hM hOld.2.2.2 | exact HT.cb | exact HT.cc | (simp (maxDischargeDepth := 6) [go_sem, *]; done))⟩ (fun hHeld => ?_)
    clear hK K hOld
    try simp only [Act.put, List.setIfInBounds_toArray, List.set_cons_zero, List.set_cons_succ]
    have hR := row_mv (g := w.heap.size + 1) hM hR (by omega); clear hM
    refine wpAnyH_sl (n := 1) (l' := (#[true, true, true, true, true, true, true, true, true, true, true, true, true, true, true, true, true, true, true, true, true, false] : Array Bool)) [20] [some 39] hSSA (
      LvY.skip <|
      LvY.skip <|
      LvY.skip <|
      LvY.skip <|
      LvY.skip <|
      LvY.skip <|
      LvY.skip <|
      LvY.skip <|
      LvY.skip <|
      LvY.skip <|
      LvY.skip <|
      LvY.skip <|
      LvY.skip <|
      LvY.skip <|
      LvY.skip <|
      LvY.skip <|
      LvY.skip <|
      LvY.skip <|
      LvY.skip <|
      LvY.skip <|
      LvY.take (by rfl) (by intro w hSw; (try dsimp only at hSw); go_simp; try with_reducible rfl) <|
      LvY.skip <|
      LvY.nil) (by rfl) (by rfl) (by kernel_rfl) (fun _ _ _ _ _ h => h) (by kernel_rfl) (by kernel_rfl) (by kernel_rfl) (by assumption) ?_
    simp only [lvVs, putDs, Act.put, List.setIfInBounds_toArray, List.set_cons_zero, List.set_cons_succ]
    have hOld := hHeld; clear hHeld
    refine wpAnyH_on (i := 21) (n := 0) (l' := (#[true, true, true, true, true, true, true, true, true, true, true, true, true, true, true, true, true, true, true, true, true, true] : Array Bool)) (by kernel_rfl) (by kernel_rfl) (by kernel_rfl) (by simp only [List.getElem?_toArray, List.getElem?_cons_succ, List.getElem?_cons_zero]; rfl) (by rfl) (fun K hK => ?_)
    refine wp_store_row 24 _ _ rfl (w.heap.size + 1) #[.int .i64 u0, .int .i64 u1, .int .i64 u2, .int .i64 u3] (by rfl) (by rfl) 24 _ hR (by kernel_rfl) rfl (by simp [Value.oneCell']) ?_
    refine hK.out _ _ ⟨cell_row hOld.1 (by dsimp only; omega), cell_row hOld.2.1 (by dsimp only; omega), cell_row hOld.2.2.1 (by dsimp only; omega), cell_row hOld.2.2.2 (by dsimp only; omega)⟩ (fun hHeld => ?_)
    clear hK K hOld
    try simp only [Act.put, List.setIfInBounds_toArray, List.set_cons_zero, List.set_cons_succ]
    refine wpAnyH_done (by kernel_rfl) ?_ _
    (try refine NoPanic.normal ?_)
    (try clear q0); (try clear q1); (try clear q2); (try clear q3); obtain ⟨q0, q1, q2, q3⟩ := hHeld
    have hR := row_put #[.int .i64 u0, .int .i64 u1, .int .i64 u2, .int .i64 u3] hR
    go_wp2
    refine bodyPost_ret (results_cell_row rfl _ _ (w.heap.size + 1) 24 #[.int .i64 u0, .int .i64 u1, .int .i64 u2, .int .i64 u3] (0, 0) _ (by rfl) hR Try.underlying24 rfl (by kernel_rfl)) rfl ⟨rfl, ?_⟩
    exact HM.row (by omega) (by omega) _
end
section
set_option linter.unusedVariables false
theorem below_row {w w1 : World} {N : Nat} (h : Below N w w1) {g : Nat} (hg : N ≤ g) (c : Array Value) : Below N w (w1.setRow g c) :=
  ⟨h.os, h.tape, h.output, by rw [show (w1.setRow g c).heap.size = w1.heap.size by simp [World.setRow]]; exact h.size, fun k hk => (setRow_other w1 g k c (by omega)).trans (h.block k hk)⟩
set_option maxHeartbeats 4000000 in
theorem cAbout (t : Int) (pm : Option Addr) (w : World) (t0 : 0 ≤ t) (t1 : t ≤ 4294967295) :
    Calls Try.prog 27 #[.pointer pm, .int .u32 t] w fun e w' => e = .returned (.agg #[.int .i64 (cosv (t / 2)), .int .i64 0, .int .i64 0, .int .i64 (sinv (t / 2))]) ∧ Below w.heap.size w w' := by
  have k1 := fun W => cCos (t / 2) W (by omega) (by omega)
  have k2 := fun W => cSin (t / 2) W (by omega) (by omega)
  generalize cosv (t / 2) = c at *
  generalize sinv (t / 2) = s at *
  have hd : t.tdiv 2 = t / 2 := Int.tdiv_eq_ediv_of_nonneg t0
  go_enter Try.func27, Try.ntmps27
  go_wp2_with (fail)
  generalize hW : World.alloc _ _ = W1
  have hR : W1.heap[w.heap.size]? = some (.cells #[.int .i64 0, .int .i64 0, .int .i64 0, .int .i64 0] 24 (0, 0)) := by
    rw [← hW]
    exact row_new w (.cells #[.int .i64 0, .int .i64 0, .int .i64 0, .int .i64 0] 24)
  have HB : Below w.heap.size w W1 := by rw [← hW]; (repeat (first | with_reducible assumption | with_reducible exact Below.refl _ _ | ((with_reducible refine Below.setCell ?_ ?_ _); rotate_left; (first | exact Nat.le_refl _ | (dsimp only; omega) | (simp; done) | (simp; omega))) | with_reducible refine below_alloc ?_ _ | with_reducible apply below_drewN | with_reducible apply Below.drew | with_reducible refine below_step ?_ (by assumption)))
  clear hW
  (with_reducible refine (k1 _).mono ?_); rintro e w1 ⟨rfl, hM⟩
  have hR := row_later hR hM
  have HB := below_step HB hM
  go_wp2_with (fail)
  (with_reducible refine (k2 _).mono ?_); rintro e w2 ⟨rfl, hM⟩
  have hR := row_later hR hM
  have HB := below_step HB hM
  go_wp2_with (refine wpList_store_row rfl 24 _ _ rfl (w.heap.size) #[.int .i64 c, .int .i64 0, .int .i64 0, .int .i64 s] (by rfl) (by rfl) 24 _ hR (by kernel_rfl) rfl (by simp [Value.oneCell']) ?_)
  have hR := row_put #[.int .i64 c, .int .i64 0, .int .i64 0, .int .i64 s] hR
  refine bodyPost_ret (results_cell_row rfl _ _ (w.heap.size) 24 #[.int .i64 c, .int .i64 0, .int .i64 0, .int .i64 s] (0, 0) _ (by rfl) hR Try.underlying24 rfl (by kernel_rfl)) rfl ⟨rfl, ?_⟩
  exact below_row HB (Nat.le_refl _) _
theorem cosv_8 : cosv 536870912 = 3037000500 := by decide +kernel
theorem cMatrixQ (b : Nat) (w : World) (hc : w.cell? ⟨b, 0, none⟩ = some (.bool false)) (hf : w.frozen? ⟨b, 0, none⟩ = false) :
    Calls Try.prog 9 #[.pointer (some ⟨b, 0, none⟩), .agg #[.int .i64 3037000500, .int .i64 0, .int .i64 0, .int .i64 3037000500]] w fun e w' => e = .returned (.agg #[.int .i64 0, .int .i64 (-4294967296), .int .i64 0, .int .i64 4294967296, .int .i64 0, .int .i64 0, .int .i64 0, .int .i64 0, .int .i64 4294967296]) ∧ Mv b false w w' := by
  have k := cMatrix 3037000500 0 0 3037000500 b false w (by decide) (by decide) (by decide) (by decide) (by decide) (by decide) (by decide) (by decide) hc hf
  have e1 : mo 0 3037000500 = 0 := by decide +kernel
  have e2 : mn 0 0 3037000500 3037000500 = -4294967296 := by decide +kernel
  have e3 : mp 0 3037000500 3037000500 0 = 0 := by decide +kernel
  have e4 : mp 0 0 3037000500 3037000500 = 4294967296 := by decide +kernel
  have e5 : mn 0 3037000500 3037000500 0 = 0 := by decide +kernel
  have e6 : mo 0 0 = 4294967296 := by decide +kernel
  have g1 : mok 0 3037000500 = true := by decide +kernel
  have g2 : mnk 0 0 3037000500 3037000500 = true := by decide +kernel
  have g3 : mpk 0 3037000500 3037000500 0 = true := by decide +kernel
  have g4 : mpk 0 0 3037000500 3037000500 = true := by decide +kernel
  have g5 : mnk 0 3037000500 3037000500 0 = true := by decide +kernel
  have g6 : mok 0 0 = true := by decide +kernel
  simpa only [e1, e2, e3, e4, e5, e6, g1, g2, g3, g4, g5, g6, Bool.not_true, Bool.or_false] using k
theorem cApplyQ (b : Nat) (w : World) (hc : w.cell? ⟨b, 0, none⟩ = some (.bool false)) (hf : w.frozen? ⟨b, 0, none⟩ = false) :
    Calls Try.prog 11 #[.pointer (some ⟨b, 0, none⟩), .agg #[.int .i64 0, .int .i64 (-4294967296), .int .i64 0, .int .i64 4294967296, .int .i64 0, .int .i64 0, .int .i64 0, .int .i64 0, .int .i64 4294967296], .agg #[.int .i64 4294967296, .int .i64 0, .int .i64 0]] w fun e w' => e = .returned (.agg #[.int .i64 0, .int .i64 4294967296, .int .i64 0]) ∧ Mv b false w w' := by
  have k := cApply 0 (-4294967296) 0 4294967296 0 0 0 0 4294967296 4294967296 0 0 b false w (by decide) (by decide) (by decide) (by decide) (by decide) (by decide) (by decide) (by decide) (by decide) (by decide) (by decide) (by decide) (by decide) (by decide) (by decide) (by decide) (by decide) (by decide) (by decide) (by decide) (by decide) (by decide) (by decide) (by decide) hc hf
  have e1 : dt 0 (-4294967296) 0 4294967296 0 0 = 0 := by decide +kernel
  have e2 : dt 4294967296 0 0 4294967296 0 0 = 4294967296 := by decide +kernel
  have e3 : dt 0 0 4294967296 4294967296 0 0 = 0 := by decide +kernel
  have g1 : dtok 0 (-4294967296) 0 4294967296 0 0 = true := by decide +kernel
  have g2 : dtok 4294967296 0 0 4294967296 0 0 = true := by decide +kernel
  have g3 : dtok 0 0 4294967296 4294967296 0 0 = true := by decide +kernel
  simpa only [e1, e2, e3, g1, g2, g3, Bool.not_true, Bool.or_false] using k
set_option maxHeartbeats 4000000 in
theorem cAwake6 (w : World) : Calls Try.prog 15 #[] w fun e w' => e = .returned (.bool true) ∧ Below w.heap.size w w' := by
  have k1 := fun pm W => cAbout 1073741824 pm W (by decide) (by decide)
  rw [show (1073741824 : Int) / 2 = 536870912 from rfl, cosv_8, sinv_45] at k1
  go_enter Try.func15, Try.ntmps15
  go_wp2_with (fail)
  have HM : Mv w.heap.size false (w.alloc (.cells #[.bool false] 29)) (w.alloc (.cells #[.bool false] 29)) := Mv.refl (by simp [go_sem]) (by simp [go_sem])
  have HB : Below w.heap.size w (w.alloc (.cells #[.bool false] 29)) := by (repeat (first | with_reducible assumption | with_reducible exact Below.refl _ _ | ((with_reducible refine Below.setCell ?_ ?_ _); rotate_left; (first | exact Nat.le_refl _ | (dsimp only; omega) | (simp; done) | (simp; omega))) | with_reducible refine below_alloc ?_ _ | with_reducible apply below_drewN | with_reducible apply Below.drew | with_reducible refine below_step ?_ (by assumption)))
  (with_reducible refine (k1 _ _).mono ?_); rintro e w1 ⟨rfl, hM⟩
  have HM := HM.below hM
  go_wp2_with (fail)
  (with_reducible refine (cMatrixQ _ _ HM.cell HM.free).mono ?_); rintro e w2 ⟨rfl, hM⟩
  have HM := HM.trans hM
  go_wp2_with (fail)
  (with_reducible refine (cApplyQ _ _ HM.cell HM.free).mono ?_); rintro e w3 ⟨rfl, hM⟩
  have HM := HM.trans hM
  have hc := HM.cell
  have hB := below_mv HB HM (Nat.le_refl _)
  clear HM hM HB
  have hc' := fun x => cell_later ((Below.refl w3.heap.size w3).alloc (Nat.le_refl _) x) hc
  go_wp2_with (fail)
  go_ret
  exact ⟨rfl, by (repeat (first | with_reducible assumption | with_reducible exact Below.refl _ _ | ((with_reducible refine Below.setCell ?_ ?_ _); rotate_left; (first | exact Nat.le_refl _ | (dsimp only; omega) | (simp; done) | (simp; omega))) | with_reducible refine below_alloc ?_ _ | with_reducible apply below_drewN | with_reducible apply Below.drew | with_reducible refine below_step ?_ (by assumption)))⟩
end
section
set_option linter.unusedVariables false
/-- Half of what comes in a time. -/
def hl (n d : Int) : Int := ml (ml n d) 2147483648
def hlk (n d : Int) : Bool := mlok n d && mlok (ml n d) 2147483648
theorem cStepF (x s : Int) (pm ps b : Nat) (o : Bool) (w : World) (x_0 : -9223372036854775808 ≤ x) (x_1 : x ≤ 9223372036854775807) (s_0 : -9223372036854775808 ≤ s) (s_1 : s ≤ 9223372036854775807) (n1 : pm ≠ b) (n2 : ps ≠ b) (hpm : w.cell? ⟨pm, 0, none⟩ = some (.pointer (some ⟨b, 0, none⟩))) (hps : w.cell? ⟨ps, 0, none⟩ = some (.int .i64 s)) (hc : w.cell? ⟨b, 0, none⟩ = some (.bool o)) (hf : w.frozen? ⟨b, 0, none⟩ = false) :
    Calls Try.prog 61 #[.int .i64 x, .pointer (some ⟨pm, 0, none⟩), .pointer (some ⟨ps, 0, none⟩)] w fun e w' => e = .returned (.int .i64 (hl x s)) ∧ Mv b (o || !hlk x s) w w' := by
  have hb := lt_of_cell hc
  have HM := Mv.refl hc hf
  clear hc hf
  have k0 := fun O W => cMl x s b O W x_0 x_1 s_0 s_1
  have k1 := fun O W => cMl (ml x s) 2147483648 b O W (ml_lo _ _) (ml_hi _ _) (by decide) (by decide)
  unfold hl hlk
  generalize ml (ml x s) 2147483648 = y at *
  generalize mlok (ml x s) 2147483648 = g1 at *
  generalize ml x s = z at *
  generalize mlok x s = g0 at *
  go_enter Try.func61, Try.ntmps61
  go_upto_region 1 with (fail)
  (try refine wp_region_noPanic ?_)
  refine wp_region_ssa (S := (fun (w' : World) => w'.cell? ⟨pm, 0, none⟩ = some (.pointer (some ⟨b, 0, none⟩)) ∧ w'.cell? ⟨ps, 0, none⟩ = some (.int .i64 s))) (#[none, none, none, none, some 6, some 0, some 1, some 2, some 3, some 4, some 5] : Array (Option Nat)) (by kernel_rfl) (by kernel_rfl) (by kernel_rfl) ⟨(by first | (simp (maxDischargeDepth := 6) [go_sem, *]; done)), (by first | (simp (maxDischargeDepth := 6) [go_sem, *]; done))⟩ (fun hSSA hHeld => ?_)
  refine wpAnyH_sl (n := 3) (l' := (#[true, true, true, true, false, false, false] : Array Bool)) [0, 1, 2, 3] [some 5, some 6, some 7, some 8] hSSA (
    LvY.take (by rfl) (by intro w hSw; (try dsimp only at hSw); go_simp; try with_reducible rfl) <|
    LvY.take (by rfl) (by intro w hSw; (try dsimp only at hSw); go_simp; try with_reducible rfl) <|
    LvY.take (by rfl) (by intro w hSw; (try dsimp only at hSw); go_simp; try with_reducible rfl) <|
    LvY.take (by rfl) (by intro w hSw; (try dsimp only at hSw); go_simp; try with_reducible rfl) <|
    LvY.skip <|
    LvY.skip <|
    LvY.skip <|
    LvY.nil) (by rfl) (by rfl) (by kernel_rfl) (fun _ _ _ _ _ h => h) (by kernel_rfl) (by kernel_rfl) (by kernel_rfl) (by assumption) ?_
  simp only [lvVs, putDs, Act.put, List.setIfInBounds_toArray, List.set_cons_zero, List.set_cons_succ]
  have hOld := hHeld; clear hHeld
  refine wpAnyH_on (i := 4) (n := 2) (l' := (#[true, true, true, true, true, false, false] : Array Bool)) (by kernel_rfl) (by kernel_rfl) (by kernel_rfl) (by simp only [List.getElem?_toArray, List.getElem?_cons_succ, List.getElem?_cons_zero]; rfl) (by rfl) (fun K hK => ?_)
  go_simp
  (go_at_call 33; (with_reducible refine (mvCall (b := b) (w0 := w) (by (repeat (first | with_reducible assumption | with_reducible exact Mv.refl (by assumption) (by assumption) | with_reducible apply Mv.alloc | with_reducible apply Mv.drew | with_reducible apply Mv.drewN | ((with_reducible apply Mv.setCell); rotate_left; (first | (dsimp only; omega) | omega | (simp; omega)); (first | (dsimp only; omega) | omega | (simp; omega))) | ((with_reducible apply Mv.below); rotate_left; (with_reducible assumption)) | ((with_reducible apply Mv.trans); rotate_left; (with_reducible assumption))))) (k0 _ _)).mono ?_); rintro e w1 ⟨rfl, hM, HM⟩)
  (try go_wp2_with (fail))
  refine hK.out _ _ ⟨(by first | exact mv_cell hM (by first | (dsimp only; omega) | (simp; omega)) hOld.1 | exact cell_later hM hOld.1 | exact HT.cb | exact HT.cc | (simp (maxDischargeDepth := 6) [go_sem, *]; done)), (by first | exact mv_cell hM (by first | (dsimp only; omega) | (simp; omega)) hOld.2 | exact cell_later hM hOld.2 | exact HT.cb | exact HT.cc | (simp (maxDischargeDepth := 6) [go_sem, *]; done))⟩ (fun hHeld => ?_)
  clear hK K hOld
  try simp only [Act.put, List.setIfInBounds_toArray, List.set_cons_zero, List.set_cons_succ]
  have hOld := hHeld; clear hHeld
  refine wpAnyH_on (i := 5) (n := 1) (l' := (#[true, true, true, true, true, true, false] : Array Bool)) (by kernel_rfl) (by kernel_rfl) (by kernel_rfl) (by simp only [List.getElem?_toArray, List.getElem?_cons_succ, List.getElem?_cons_zero]; rfl) (by rfl) (fun K hK => ?_)
  go_simp
  (go_at_call 33; (with_reducible refine (mvCall (b := b) (w0 := w) (by (repeat (first | with_reducible assumption | with_reducible exact Mv.refl (by assumption) (by assumption) | with_reducible apply Mv.alloc | with_reducible apply Mv.drew | with_reducible apply Mv.drewN | ((with_reducible apply Mv.setCell); rotate_left; (first | (dsimp only; omega) | omega | (simp; omega)); (first | (dsimp only; omega) | omega | (simp; omega))) | ((with_reducible apply Mv.below); rotate_left; (with_reducible assumption)) | ((with_reducible apply Mv.trans); rotate_left; (with_reducible assumption))))) (k1 _ _)).mono ?_); rintro e w1 ⟨rfl, hM, HM⟩)
  (try go_wp2_with (fail))
  refine hK.out _ _ ⟨(by first | exact mv_cell hM (by first | (dsimp only; omega) | (simp; omega)) hOld.1 | exact cell_later hM hOld.1 | exact HT.cb | exact HT.cc | (simp (maxDischargeDepth := 6) [go_sem, *]; done)), (by first | exact mv_cell hM (by first | (dsimp only; omega) | (simp; omega)) hOld.2 | exact cell_later hM hOld.2 | exact HT.cb | exact HT.cc | (simp (maxDischargeDepth := 6) [go_sem, *]; done))⟩ (fun hHeld => ?_)
  clear hK K hOld
  try simp only [Act.put, List.setIfInBounds_toArray, List.set_cons_zero, List.set_cons_succ]
  refine wpAnyH_sl (n := 0) (l' := (#[true, true, true, true, true, true, true] : Array Bool)) [6] [some 4] hSSA (
    LvY.skip <|
    LvY.skip <|
    LvY.skip <|
    LvY.skip <|
    LvY.skip <|
    LvY.skip <|
    LvY.take (by rfl) (by intro w hSw; (try dsimp only at hSw); go_simp; try with_reducible rfl) <|
    LvY.nil) (by rfl) (by rfl) (by kernel_rfl) (fun _ _ _ _ _ h => h) (by kernel_rfl) (by kernel_rfl) (by kernel_rfl) (by assumption) ?_
  simp only [lvVs, putDs, Act.put, List.setIfInBounds_toArray, List.set_cons_zero, List.set_cons_succ]
  refine wpAnyH_done (by kernel_rfl) ?_ _
  (try refine NoPanic.normal ?_)
  (try clear q0); (try clear q1); obtain ⟨q0, q1⟩ := hHeld
  go_wp2
  go_ret
  exact ⟨rfl, Mv.cast HM (by simp only [Bool.not_and, Bool.or_assoc])⟩
set_option maxHeartbeats 8000000 in
set_option maxRecDepth 20000 in
/-- quat.each, at a closure over a reckoner and a number: whatever it reckons. -/
theorem cQEachStep (V : Int → Int) (O : Int → Bool) (x0 x1 x2 x3 s : Int) (pm ps b : Nat) (o : Bool) (w : World) (x0_0 : -9223372036854775808 ≤ x0) (x0_1 : x0 ≤ 9223372036854775807) (x1_0 : -9223372036854775808 ≤ x1) (x1_1 : x1 ≤ 9223372036854775807) (x2_0 : -9223372036854775808 ≤ x2) (x2_1 : x2 ≤ 9223372036854775807) (x3_0 : -9223372036854775808 ≤ x3) (x3_1 : x3 ≤ 9223372036854775807) (n1 : pm ≠ b) (n2 : ps ≠ b)
    (hk : ∀ (x : Int) (o : Bool) (W : World), -9223372036854775808 ≤ x → x ≤ 9223372036854775807 → W.cell? ⟨pm, 0, none⟩ = some (.pointer (some ⟨b, 0, none⟩)) → W.cell? ⟨ps, 0, none⟩ = some (.int .i64 s) → W.cell? ⟨b, 0, none⟩ = some (.bool o) → W.frozen? ⟨b, 0, none⟩ = false →
      Calls Try.prog 61 #[.int .i64 x, .pointer (some ⟨pm, 0, none⟩), .pointer (some ⟨ps, 0, none⟩)] W fun e w' => e = .returned (.int .i64 (V x)) ∧ Mv b (o || !O x) W w')
    (hpm : w.cell? ⟨pm, 0, none⟩ = some (.pointer (some ⟨b, 0, none⟩))) (hps : w.cell? ⟨ps, 0, none⟩ = some (.int .i64 s)) (hc : w.cell? ⟨b, 0, none⟩ = some (.bool o)) (hf : w.frozen? ⟨b, 0, none⟩ = false) :
    Calls Try.prog 46 #[.agg #[.int .i64 x0, .int .i64 x1, .int .i64 x2, .int .i64 x3], .func (.func 61) #[] #[.pointer (some ⟨pm, 0, none⟩), .pointer (some ⟨ps, 0, none⟩)]] w fun e w' =>
      e = .returned (.agg #[.int .i64 (V x0), .int .i64 (V x1), .int .i64 (V x2), .int .i64 (V x3)]) ∧ Mv b (o || !O x0 || !O x1 || !O x2 || !O x3) w w' := by
  have hb := lt_of_cell hc
  have HM := Mv.refl hc hf
  have hp1 := World.block_lt_of_cell? w _ hpm
  have hp2 := World.block_lt_of_cell? w _ hps
  dsimp only at hp1 hp2
  have k0 := fun o W => hk x0 o W x0_0 x0_1
  have k1 := fun o W => hk x1 o W x1_0 x1_1
  have k2 := fun o W => hk x2 o W x2_0 x2_1
  have k3 := fun o W => hk x3 o W x3_0 x3_1
  generalize V x0 = d0 at *
  generalize V x1 = d1 at *
  generalize V x2 = d2 at *
  generalize V x3 = d3 at *
  generalize O x0 = f0 at *
  generalize O x1 = f1 at *
  generalize O x2 = f2 at *
  generalize O x3 = f3 at *
  clear hc hf hk
  go_enter Try.func46, Try.ntmps46
  go_upto_region 1 with (fail)
  generalize hW : World.alloc _ _ = W1
  have hR : W1.heap[w.heap.size + 1]? = some (.cells #[.int .i64 0, .int .i64 0, .int .i64 0, .int .i64 0] 24 (0, 0)) := by
    rw [← hW]
    have := row_new (w.alloc (.cells #[.int .i64 x0, .int .i64 x1, .int .i64 x2, .int .i64 x3] 24)) (.cells #[.int .i64 0, .int .i64 0, .int .i64 0, .int .i64 0] 24)
    simpa only [World.size_alloc] using this
  have c0 : W1.cell? ⟨w.heap.size, 0, none⟩ = some (.int .i64 x0) := by rw [← hW]; simp [go_sem]
  have c1 : W1.cell? ⟨w.heap.size, 1, none⟩ = some (.int .i64 x1) := by rw [← hW]; simp [go_sem]
  have c2 : W1.cell? ⟨w.heap.size, 2, none⟩ = some (.int .i64 x2) := by rw [← hW]; simp [go_sem]
  have c3 : W1.cell? ⟨w.heap.size, 3, none⟩ = some (.int .i64 x3) := by rw [← hW]; simp [go_sem]
  have hpm : W1.cell? ⟨pm, 0, none⟩ = some (.pointer (some ⟨b, 0, none⟩)) := by rw [← hW]; exact cell_later (by (repeat (first | with_reducible assumption | with_reducible exact Below.refl _ _ | ((with_reducible refine Below.setCell ?_ ?_ _); rotate_left; (first | exact Nat.le_refl _ | (dsimp only; omega) | (simp; done) | (simp; omega))) | with_reducible refine below_alloc ?_ _ | with_reducible apply below_drewN | with_reducible apply Below.drew | with_reducible refine below_step ?_ (by assumption)))) hpm
  have hps : W1.cell? ⟨ps, 0, none⟩ = some (.int .i64 s) := by rw [← hW]; exact cell_later (by (repeat (first | with_reducible assumption | with_reducible exact Below.refl _ _ | ((with_reducible refine Below.setCell ?_ ?_ _); rotate_left; (first | exact Nat.le_refl _ | (dsimp only; omega) | (simp; done) | (simp; omega))) | with_reducible refine below_alloc ?_ _ | with_reducible apply below_drewN | with_reducible apply Below.drew | with_reducible refine below_step ?_ (by assumption)))) hps
  have HM : Mv b o w W1 := by rw [← hW]; exact (HM.alloc _).alloc _
  clear hW
  (try refine wp_region_noPanic ?_)
  refine wp_region_ssa (S := (fun (w' : World) => w'.cell? ⟨w.heap.size, 0, none⟩ = some (.int .i64 x0) ∧ w'.cell? ⟨w.heap.size, 1, none⟩ = some (.int .i64 x1) ∧ w'.cell? ⟨w.heap.size, 2, none⟩ = some (.int .i64 x2) ∧ w'.cell? ⟨w.heap.size, 3, none⟩ = some (.int .i64 x3) ∧ w'.cell? ⟨pm, 0, none⟩ = some (.pointer (some ⟨b, 0, none⟩)) ∧ w'.cell? ⟨ps, 0, none⟩ = some (.int .i64 s))) (#[none, none, none, none, none, some 0, some 1, some 2, some 3, some 4, some 5, some 6, some 7, some 8, some 9, some 10, some 11, some 12, some 13, some 14, some 15, some 16] : Array (Option Nat)) (by kernel_rfl) (by kernel_rfl) (by kernel_rfl) ⟨(by first | (simp (maxDischargeDepth := 6) [go_sem, *]; done)), (by first | (simp (maxDischargeDepth := 6) [go_sem, *]; done)), (by first | (simp (maxDischargeDepth := 6) [go_sem, *]; done)), (by first | (simp (maxDischargeDepth := 6) [go_sem, *]; done)), (by first | (simp (maxDischargeDepth := 6) [go_sem, *]; done)), (by first | (simp (maxDischargeDepth := 6) [go_sem, *]; done))⟩ (fun hSSA hHeld => ?_)
  refine wpAnyH_sl (n := 10) (l' := (#[true, true, false, false, true, true, false, false, true, true, false, false, true, true, false, false, false, false] : Array Bool)) [0, 1, 4, 5, 8, 9, 12, 13] [some 5, some 6, some 9, some 10, some 13, some 14, some 17, some 18] hSSA (
    LvY.take (by rfl) (by intro w hSw; (try dsimp only at hSw); go_simp; try with_reducible rfl) <|
    LvY.take (by rfl) (by intro w hSw; (try dsimp only at hSw); go_simp; try with_reducible rfl) <|
    LvY.skip <|
    LvY.skip <|
    LvY.take (by rfl) (by intro w hSw; (try dsimp only at hSw); go_simp; try with_reducible rfl) <|
    LvY.take (by rfl) (by intro w hSw; (try dsimp only at hSw); go_simp; try with_reducible rfl) <|
    LvY.skip <|
    LvY.skip <|
    LvY.take (by rfl) (by intro w hSw; (try dsimp only at hSw); go_simp; try with_reducible rfl) <|
    LvY.take (by rfl) (by intro w hSw; (try dsimp only at hSw); go_simp; try with_reducible rfl) <|
    LvY.skip <|
    LvY.skip <|
    LvY.take (by rfl) (by intro w hSw; (try dsimp only at hSw); go_simp; try with_reducible rfl) <|
    LvY.take (by rfl) (by intro w hSw; (try dsimp only at hSw); go_simp; try with_reducible rfl) <|
    LvY.skip <|
    LvY.skip <|
    LvY.skip <|
    LvY.skip <|
    LvY.nil) (by rfl) (by rfl) (by kernel_rfl) (fun _ _ _ _ _ h => h) (by kernel_rfl) (by kernel_rfl) (by kernel_rfl) (by assumption) ?_
  simp only [lvVs, putDs, Act.put, List.setIfInBounds_toArray, List.set_cons_zero, List.set_cons_succ]
  refine wpAnyH_sl (n := 6) (l' := (#[true, true, true, false, true, true, true, false, true, true, true, false, true, true, true, false, false, false] : Array Bool)) [2, 6, 10, 14] [some 7, some 11, some 15, some 19] hSSA (
    LvY.skip <|
    LvY.skip <|
    LvY.take (by rfl) (by intro w hSw; (try dsimp only at hSw); go_simp; try with_reducible rfl) <|
    LvY.skip <|
    LvY.skip <|
    LvY.skip <|
    LvY.take (by rfl) (by intro w hSw; (try dsimp only at hSw); go_simp; try with_reducible rfl) <|
    LvY.skip <|
    LvY.skip <|
    LvY.skip <|
    LvY.take (by rfl) (by intro w hSw; (try dsimp only at hSw); go_simp; try with_reducible rfl) <|
    LvY.skip <|
    LvY.skip <|
    LvY.skip <|
    LvY.take (by rfl) (by intro w hSw; (try dsimp only at hSw); go_simp; try with_reducible rfl) <|
    LvY.skip <|
    LvY.skip <|
    LvY.skip <|
    LvY.nil) (by rfl) (by rfl) (by kernel_rfl) (fun _ _ _ _ _ h => h) (by kernel_rfl) (by kernel_rfl) (by kernel_rfl) (by assumption) ?_
  simp only [lvVs, putDs, Act.put, List.setIfInBounds_toArray, List.set_cons_zero, List.set_cons_succ]
  have hOld := hHeld; clear hHeld
  refine wpAnyH_on (i := 3) (n := 5) (l' := (#[true, true, true, true, true, true, true, false, true, true, true, false, true, true, true, false, false, false] : Array Bool)) (by kernel_rfl) (by kernel_rfl) (by kernel_rfl) (by simp only [List.getElem?_toArray, List.getElem?_cons_succ, List.getElem?_cons_zero]; rfl) (by rfl) (fun K hK => ?_)
  go_simp
  ((with_reducible refine (mvCall (b := b) (w0 := w) (by (repeat (first | with_reducible assumption | with_reducible exact Mv.refl (by assumption) (by assumption) | with_reducible apply Mv.alloc | with_reducible apply Mv.drew | with_reducible apply Mv.drewN | ((with_reducible apply Mv.setCell); rotate_left; (first | (dsimp only; omega) | omega | (simp; omega)); (first | (dsimp only; omega) | omega | (simp; omega))) | ((with_reducible apply Mv.below); rotate_left; (with_reducible assumption)) | ((with_reducible apply Mv.trans); rotate_left; (with_reducible assumption))))) (k0 _ _ hOld.2.2.2.2.1 hOld.2.2.2.2.2)).mono ?_); rintro e w1 ⟨rfl, hM, HM⟩)
  (try go_wp2_with (fail))
  refine hK.out _ _ ⟨(by first | exact mv_cell hM (by first | (dsimp only; omega) | (simp; omega)) hOld.1 | exact cell_later hM hOld.1 | exact HT.cb | exact HT.cc | (simp (maxDischargeDepth := 6) [go_sem, *]; done)), (by first | exact mv_cell hM (by first | (dsimp only; omega) | (simp; omega)) hOld.2.1 | exact cell_later hM hOld.2.1 | exact HT.cb | exact HT.cc | (simp (maxDischargeDepth := 6) [go_sem, *]; done)), (by first | exact mv_cell hM (by first | (dsimp only; omega) | (simp; omega)) hOld.2.2.1 | exact cell_later hM hOld.2.2.1 | exact HT.cb | exact HT.cc | (simp (maxDischargeDepth := 6) [go_sem, *]; done)), (by first | exact mv_cell hM (by first | (dsimp only; omega) | (simp; omega)) hOld.2.2.2.1 | exact cell_later hM hOld.2.2.2.1 | exact HT.cb | exact HT.cc | (simp (maxDischargeDepth := 6) [go_sem, *]; done)), (by first | exact mv_cell hM (by first | (dsimp only; omega) | (simp; omega)) hOld.2.2.2.2.1 | exact cell_later hM hOld.2.2.2.2.1 | exact HT.cb | exact HT.cc | (simp (maxDischargeDepth := 6) [go_sem, *]; done)), (by first | exact mv_cell hM (by first | (dsimp only; omega) | (simp; omega)) hOld.2.2.2.2.2 | exact cell_later hM hOld.2.2.2.2.2 | exact HT.cb | exact HT.cc | (simp (maxDischargeDepth := 6) [go_sem, *]; done))⟩ (fun hHeld => ?_)
  clear hK K hOld
  try simp only [Act.put, List.setIfInBounds_toArray, List.set_cons_zero, List.set_cons_succ]
  have hR := row_mv (g := w.heap.size + 1) hM hR (by omega); clear hM
  have hOld := hHeld; clear hHeld
  refine wpAnyH_on (i := 7) (n := 4) (l' := (#[true, true, true, true, true, true, true, true, true, true, true, false, true, true, true, false, false, false] : Array Bool)) (by kernel_rfl) (by kernel_rfl) (by kernel_rfl) (by simp only [List.getElem?_toArray, List.getElem?_cons_succ, List.getElem?_cons_zero]; rfl) (by rfl) (fun K hK => ?_)
  go_simp
  ((with_reducible refine (mvCall (b := b) (w0 := w) (by (repeat (first | with_reducible assumption | with_reducible exact Mv.refl (by assumption) (by assumption) | with_reducible apply Mv.alloc | with_reducible apply Mv.drew | with_reducible apply Mv.drewN | ((with_reducible apply Mv.setCell); rotate_left; (first | (dsimp only; omega) | omega | (simp; omega)); (first | (dsimp only; omega) | omega | (simp; omega))) | ((with_reducible apply Mv.below); rotate_left; (with_reducible assumption)) | ((with_reducible apply Mv.trans); rotate_left; (with_reducible assumption))))) (k1 _ _ hOld.2.2.2.2.1 hOld.2.2.2.2.2)).mono ?_); rintro e w1 ⟨rfl, hM, HM⟩)
  (try go_wp2_with (fail))
  refine hK.out _ _ ⟨(by first | exact mv_cell hM (by first | (dsimp only; omega) | (simp; omega)) hOld.1 | exact cell_later hM hOld.1 | exact HT.cb | exact HT.cc | (simp (maxDischargeDepth := 6) [go_sem, *]; done)), (by first | exact mv_cell hM (by first | (dsimp only; omega) | (simp; omega)) hOld.2.1 | exact cell_later hM hOld.2.1 | exact HT.cb | exact HT.cc | (simp (maxDischargeDepth := 6) [go_sem, *]; done)), (by first | exact mv_cell hM (by first | (dsimp only; omega) | (simp; omega)) hOld.2.2.1 | exact cell_later hM hOld.2.2.1 | exact HT.cb | exact HT.cc | (simp (maxDischargeDepth := 6) [go_sem, *]; done)), (by first | exact mv_cell hM (by first | (dsimp only; omega) | (simp; omega)) hOld.2.2.2.1 | exact cell_later hM hOld.2.2.2.1 | exact HT.cb | exact HT.cc | (simp (maxDischargeDepth := 6) [go_sem, *]; done)), (by first | exact mv_cell hM (by first | (dsimp only; omega) | (simp; omega)) hOld.2.2.2.2.1 | exact cell_later hM hOld.2.2.2.2.1 | exact HT.cb | exact HT.cc | (simp (maxDischargeDepth := 6) [go_sem, *]; done)), (by first | exact mv_cell hM (by first | (dsimp only; omega) | (simp; omega)) hOld.2.2.2.2.2 | exact cell_later hM hOld.2.2.2.2.2 | exact HT.cb | exact HT.cc | (simp (maxDischargeDepth := 6) [go_sem, *]; done))⟩ (fun hHeld => ?_)
  clear hK K hOld
  try simp only [Act.put, List.setIfInBounds_toArray, List.set_cons_zero, List.set_cons_succ]
  have hR := row_mv (g := w.heap.size + 1) hM hR (by omega); clear hM
  have hOld := hHeld; clear hHeld
  refine wpAnyH_on (i := 11) (n := 3) (l' := (#[true, true, true, true, true, true, true, true, true, true, true, true, true, true, true, false, false, false] : Array Bool)) (by kernel_rfl) (by kernel_rfl) (by kernel_rfl) (by simp only [List.getElem?_toArray, List.getElem?_cons_succ, List.getElem?_cons_zero]; rfl) (by rfl) (fun K hK => ?_)
  go_simp
  ((with_reducible refine (mvCall (b := b) (w0 := w) (by (repeat (first | with_reducible assumption | with_reducible exact Mv.refl (by assumption) (by assumption) | with_reducible apply Mv.alloc | with_reducible apply Mv.drew | with_reducible apply Mv.drewN | ((with_reducible apply Mv.setCell); rotate_left; (first | (dsimp only; omega) | omega | (simp; omega)); (first | (dsimp only; omega) | omega | (simp; omega))) | ((with_reducible apply Mv.below); rotate_left; (with_reducible assumption)) | ((with_reducible apply Mv.trans); rotate_left; (with_reducible assumption))))) (k2 _ _ hOld.2.2.2.2.1 hOld.2.2.2.2.2)).mono ?_); rintro e w1 ⟨rfl, hM, HM⟩)
  (try go_wp2_with (fail))
  refine hK.out _ _ ⟨(by first | exact mv_cell hM (by first | (dsimp only; omega) | (simp; omega)) hOld.1 | exact cell_later hM hOld.1 | exact HT.cb | exact HT.cc | (simp (maxDischargeDepth := 6) [go_sem, *]; done)), (by first | exact mv_cell hM (by first | (dsimp only; omega) | (simp; omega)) hOld.2.1 | exact cell_later hM hOld.2.1 | exact HT.cb | exact HT.cc | (simp (maxDischargeDepth := 6) [go_sem, *]; done)), (by first | exact mv_cell hM (by first | (dsimp only; omega) | (simp; omega)) hOld.2.2.1 | exact cell_later hM hOld.2.2.1 | exact HT.cb | exact HT.cc | (simp (maxDischargeDepth := 6) [go_sem, *]; done)), (by first | exact mv_cell hM (by first | (dsimp only; omega) | (simp; omega)) hOld.2.2.2.1 | exact cell_later hM hOld.2.2.2.1 | exact HT.cb | exact HT.cc | (simp (maxDischargeDepth := 6) [go_sem, *]; done)), (by first | exact mv_cell hM (by first | (dsimp only; omega) | (simp; omega)) hOld.2.2.2.2.1 | exact cell_later hM hOld.2.2.2.2.1 | exact HT.cb | exact HT.cc | (simp (maxDischargeDepth := 6) [go_sem, *]; done)), (by first | exact mv_cell hM (by first | (dsimp only; omega) | (simp; omega)) hOld.2.2.2.2.2 | exact cell_later hM hOld.2.2.2.2.2 | exact HT.cb | exact HT.cc | (simp (maxDischargeDepth := 6) [go_sem, *]; done))⟩ (fun hHeld => ?_)
  clear hK K hOld
  try simp only [Act.put, List.setIfInBounds_toArray, List.set_cons_zero, List.set_cons_succ]
  have hR := row_mv (g := w.heap.size + 1) hM hR (by omega); clear hM
  have hOld := hHeld; clear hHeld
  refine wpAnyH_on (i := 15) (n := 2) (l' := (#[true, true, true, true, true, true, true, true, true, true, true, true, true, true, true, true, false, false] : Array Bool)) (by kernel_rfl) (by kernel_rfl) (by kernel_rfl) (by simp only [List.getElem?_toArray, List.getElem?_cons_succ, List.getElem?_cons_zero]; rfl) (by rfl) (fun K hK => ?_)
  go_simp
  ((with_reducible refine (mvCall (b := b) (w0 := w) (by (repeat (first | with_reducible assumption | with_reducible exact Mv.refl (by assumption) (by assumption) | with_reducible apply Mv.alloc | with_reducible apply Mv.drew | with_reducible apply Mv.drewN | ((with_reducible apply Mv.setCell); rotate_left; (first | (dsimp only; omega) | omega | (simp; omega)); (first | (dsimp only; omega) | omega | (simp; omega))) | ((with_reducible apply Mv.below); rotate_left; (with_reducible assumption)) | ((with_reducible apply Mv.trans); rotate_left; (with_reducible assumption))))) (k3 _ _ hOld.2.2.2.2.1 hOld.2.2.2.2.2)).mono ?_); rintro e w1 ⟨rfl, hM, HM⟩)
  (try go_wp2_with (fail))
  refine hK.out _ _ ⟨(by first | exact mv_cell hM (by first | (dsimp only; omega) | (simp; omega)) hOld.1 | exact cell_later hM hOld.1 | exact HT.cb | exact HT.cc | (simp (maxDischargeDepth := 6) [go_sem, *]; done)), (by first | exact mv_cell hM (by first | (dsimp only; omega) | (simp; omega)) hOld.2.1 | exact cell_later hM hOld.2.1 | exact HT.cb | exact HT.cc | (simp (maxDischargeDepth := 6) [go_sem, *]; done)), (by first | exact mv_cell hM (by first | (dsimp only; omega) | (simp; omega)) hOld.2.2.1 | exact cell_later hM hOld.2.2.1 | exact HT.cb | exact HT.cc | (simp (maxDischargeDepth := 6) [go_sem, *]; done)), (by first | exact mv_cell hM (by first | (dsimp only; omega) | (simp; omega)) hOld.2.2.2.1 | exact cell_later hM hOld.2.2.2.1 | exact HT.cb | exact HT.cc | (simp (maxDischargeDepth := 6) [go_sem, *]; done)), (by first | exact mv_cell hM (by first | (dsimp only; omega) | (simp; omega)) hOld.2.2.2.2.1 | exact cell_later hM hOld.2.2.2.2.1 | exact HT.cb | exact HT.cc | (simp (maxDischargeDepth := 6) [go_sem, *]; done)), (by first | exact mv_cell hM (by first | (dsimp only; omega) | (simp; omega)) hOld.2.2.2.2.2 | exact cell_later hM hOld.2.2.2.2.2 | exact HT.cb | exact HT.cc | (simp (maxDischargeDepth := 6) [go_sem, *]; done))⟩ (fun hHeld => ?_)
  clear hK K hOld
  try simp only [Act.put, List.setIfInBounds_toArray, List.set_cons_zero, List.set_cons_succ]
  have hR := row_mv (g := w.heap.size + 1) hM hR (by omega); clear hM
  refine wpAnyH_sl (n := 1) (l' := (#[true, true, true, true, true, true, true, true, true, true, true, true, true, true, true, true, true, false] : Array Bool)) [16] [some 21] hSSA (
    LvY.skip <|
    LvY.skip <|
    LvY.skip <|
    LvY.skip <|
    LvY.skip <|
    LvY.skip <|
    LvY.skip <|
    LvY.skip <|
    LvY.skip <|
    LvY.skip <|
    LvY.skip <|
    LvY.skip <|
    LvY.skip <|
    LvY.skip <|
    LvY.skip <|
    LvY.skip <|
    LvY.take (by rfl) (by intro w hSw; (try dsimp only at hSw); go_simp; try with_reducible rfl) <|
    LvY.skip <|
    LvY.nil) (by rfl) (by rfl) (by kernel_rfl) (fun _ _ _ _ _ h => h) (by kernel_rfl) (by kernel_rfl) (by kernel_rfl) (by assumption) ?_
  simp only [lvVs, putDs, Act.put, List.setIfInBounds_toArray, List.set_cons_zero, List.set_cons_succ]
  have hOld := hHeld; clear hHeld
  refine wpAnyH_on (i := 17) (n := 0) (l' := (#[true, true, true, true, true, true, true, true, true, true, true, true, true, true, true, true, true, true] : Array Bool)) (by kernel_rfl) (by kernel_rfl) (by kernel_rfl) (by simp only [List.getElem?_toArray, List.getElem?_cons_succ, List.getElem?_cons_zero]; rfl) (by rfl) (fun K hK => ?_)
  refine wp_store_row 24 _ _ rfl (w.heap.size + 1) #[.int .i64 d0, .int .i64 d1, .int .i64 d2, .int .i64 d3] (by rfl) (by rfl) 24 _ hR (by kernel_rfl) rfl (by simp [Value.oneCell']) ?_
  refine hK.out _ _ ⟨cell_row hOld.1 (by dsimp only; omega), cell_row hOld.2.1 (by dsimp only; omega), cell_row hOld.2.2.1 (by dsimp only; omega), cell_row hOld.2.2.2.1 (by dsimp only; omega), cell_row hOld.2.2.2.2.1 (by dsimp only; omega), cell_row hOld.2.2.2.2.2 (by dsimp only; omega)⟩ (fun hHeld => ?_)
  clear hK K hOld
  try simp only [Act.put, List.setIfInBounds_toArray, List.set_cons_zero, List.set_cons_succ]
  refine wpAnyH_done (by kernel_rfl) ?_ _
  (try refine NoPanic.normal ?_)
  (try clear q0); (try clear q1); (try clear q2); (try clear q3); (try clear q4); (try clear q5); obtain ⟨q0, q1, q2, q3, q4, q5⟩ := hHeld
  have hR := row_put #[.int .i64 d0, .int .i64 d1, .int .i64 d2, .int .i64 d3] hR
  go_wp2
  refine bodyPost_ret (results_cell_row rfl _ _ (w.heap.size + 1) 24 #[.int .i64 d0, .int .i64 d1, .int .i64 d2, .int .i64 d3] (0, 0) _ (by rfl) hR Try.underlying24 rfl (by kernel_rfl)) rfl ⟨rfl, ?_⟩
  exact HM.row (by omega) (by omega) _
set_option maxHeartbeats 16000000 in
set_option maxRecDepth 20000 in
theorem cStep (x0 x1 x2 x3 w0 w1 w2 d P0 P1 P2 P3 A0 A1 A2 A3 n : Int) (b : Nat) (o : Bool) (w : World) (hP0 : qmW x0 x1 x2 x3 0 w0 w1 w2 = P0) (hP1 : qmX x0 x1 x2 x3 0 w0 w1 w2 = P1) (hP2 : qmY x0 x1 x2 x3 0 w0 w1 w2 = P2) (hP3 : qmZ x0 x1 x2 x3 0 w0 w1 w2 = P3) (hA0 : sat (x0 + hl P0 d) = A0) (hA1 : sat (x1 + hl P1 d) = A1) (hA2 : sat (x2 + hl P2 d) = A2) (hA3 : sat (x3 + hl P3 d) = A3) (hn : ln (A0 * A0 + A1 * A1 + A2 * A2 + A3 * A3) = n) (x0_0 : -9223372036854775808 ≤ x0) (x0_1 : x0 ≤ 9223372036854775807) (x1_0 : -9223372036854775808 ≤ x1) (x1_1 : x1 ≤ 9223372036854775807) (x2_0 : -9223372036854775808 ≤ x2) (x2_1 : x2 ≤ 9223372036854775807) (x3_0 : -9223372036854775808 ≤ x3) (x3_1 : x3 ≤ 9223372036854775807) (w0_0 : -9223372036854775808 ≤ w0) (w0_1 : w0 ≤ 9223372036854775807) (w1_0 : -9223372036854775808 ≤ w1) (w1_1 : w1 ≤ 9223372036854775807) (w2_0 : -9223372036854775808 ≤ w2) (w2_1 : w2 ≤ 9223372036854775807) (d_0 : -9223372036854775808 ≤ d) (d_1 : d ≤ 9223372036854775807) (hc : w.cell? ⟨b, 0, none⟩ = some (.bool o)) (hf : w.frozen? ⟨b, 0, none⟩ = false) :
    Calls Try.prog 25 #[.pointer (some ⟨b, 0, none⟩), .agg #[.int .i64 x0, .int .i64 x1, .int .i64 x2, .int .i64 x3], .agg #[.int .i64 w0, .int .i64 w1, .int .i64 w2], .int .i64 d] w fun e w' => e = .returned (.agg #[.int .i64 (uw A0 n), .int .i64 (uq A1 n), .int .i64 (uq A2 n), .int .i64 (uq A3 n)]) ∧ Mv b (o || !(qkW x0 x1 x2 x3 0 w0 w1 w2 && qkX x0 x1 x2 x3 0 w0 w1 w2 && qkY x0 x1 x2 x3 0 w0 w1 w2 && qkZ x0 x1 x2 x3 0 w0 w1 w2) || !hlk P0 d || !hlk P1 d || !hlk P2 d || !hlk P3 d || !fx (x0 + hl P0 d) || !fx (x1 + hl P1 d) || !fx (x2 + hl P2 d) || !fx (x3 + hl P3 d) || !lnok (A0 * A0 + A1 * A1 + A2 * A2 + A3 * A3) || !uok A0 n || !uok A1 n || !uok A2 n || !uok A3 n) w w' := by
  have hb := lt_of_cell hc
  have HM := Mv.refl hc hf
  clear hc hf
  have kM := fun O W => cQMul x0 x1 x2 x3 0 w0 w1 w2 b O W x0_0 x0_1 x1_0 x1_1 x2_0 x2_1 x3_0 x3_1 (by decide) (by decide) w0_0 w0_1 w1_0 w1_1 w2_0 w2_1
  have P0_0 : -9223372036854775808 ≤ P0 := by rw [← hP0]; unfold qmW s4; exact sat_lo _
  have P0_1 : P0 ≤ 9223372036854775807 := by rw [← hP0]; unfold qmW s4; exact sat_hi _
  have P1_0 : -9223372036854775808 ≤ P1 := by rw [← hP1]; unfold qmX s4; exact sat_lo _
  have P1_1 : P1 ≤ 9223372036854775807 := by rw [← hP1]; unfold qmX s4; exact sat_hi _
  have P2_0 : -9223372036854775808 ≤ P2 := by rw [← hP2]; unfold qmY s4; exact sat_lo _
  have P2_1 : P2 ≤ 9223372036854775807 := by rw [← hP2]; unfold qmY s4; exact sat_hi _
  have P3_0 : -9223372036854775808 ≤ P3 := by rw [← hP3]; unfold qmZ s4; exact sat_lo _
  have P3_1 : P3 ≤ 9223372036854775807 := by rw [← hP3]; unfold qmZ s4; exact sat_hi _
  have A0_0 : -9223372036854775808 ≤ A0 := by rw [← hA0]; exact sat_lo _
  have A0_1 : A0 ≤ 9223372036854775807 := by rw [← hA0]; exact sat_hi _
  have A1_0 : -9223372036854775808 ≤ A1 := by rw [← hA1]; exact sat_lo _
  have A1_1 : A1 ≤ 9223372036854775807 := by rw [← hA1]; exact sat_hi _
  have A2_0 : -9223372036854775808 ≤ A2 := by rw [← hA2]; exact sat_lo _
  have A2_1 : A2 ≤ 9223372036854775807 := by rw [← hA2]; exact sat_hi _
  have A3_0 : -9223372036854775808 ≤ A3 := by rw [← hA3]; exact sat_lo _
  have A3_1 : A3 ≤ 9223372036854775807 := by rw [← hA3]; exact sat_hi _
  simp only [hP0, hP1, hP2, hP3] at kM
  generalize (qkW x0 x1 x2 x3 0 w0 w1 w2 && qkX x0 x1 x2 x3 0 w0 w1 w2 && qkY x0 x1 x2 x3 0 w0 w1 w2 && qkZ x0 x1 x2 x3 0 w0 w1 w2) = gM at *
  have h0_0 : -9223372036854775808 ≤ hl P0 d := ml_lo _ _
  have h0_1 : hl P0 d ≤ 9223372036854775807 := ml_hi _ _
  have h1_0 : -9223372036854775808 ≤ hl P1 d := ml_lo _ _
  have h1_1 : hl P1 d ≤ 9223372036854775807 := ml_hi _ _
  have h2_0 : -9223372036854775808 ≤ hl P2 d := ml_lo _ _
  have h2_1 : hl P2 d ≤ 9223372036854775807 := ml_hi _ _
  have h3_0 : -9223372036854775808 ≤ hl P3 d := ml_lo _ _
  have h3_1 : hl P3 d ≤ 9223372036854775807 := ml_hi _ _
  have kE := fun O W h1 h2 h3 h4 => cQEachStep (fun x => hl x d) (fun x => hlk x d) P0 P1 P2 P3 d w.heap.size (w.heap.size + 1 + 1 + 1) b O W P0_0 P0_1 P1_0 P1_1 P2_0 P2_1 P3_0 P3_1 (by omega) (by omega)
    (fun x o W a1 a2 h1 h2 h3 h4 => cStepF x d w.heap.size (w.heap.size + 1 + 1 + 1) b o W a1 a2 d_0 d_1 (by omega) (by omega) h1 h2 h3 h4) h1 h2 h3 h4
  have kA0 := fun O W => cFAdd x0 (hl P0 d) b O W x0_0 x0_1 h0_0 h0_1
  rw [hA0] at kA0
  have kA1 := fun O W => cFAdd x1 (hl P1 d) b O W x1_0 x1_1 h1_0 h1_1
  rw [hA1] at kA1
  have kA2 := fun O W => cFAdd x2 (hl P2 d) b O W x2_0 x2_1 h2_0 h2_1
  rw [hA2] at kA2
  have kA3 := fun O W => cFAdd x3 (hl P3 d) b O W x3_0 x3_1 h3_0 h3_1
  rw [hA3] at kA3
  have kU := fun O W => cUnit4 A0 A1 A2 A3 b O W A0_0 A0_1 A1_0 A1_1 A2_0 A2_1 A3_0 A3_1
  simp only [hn] at kU
  clear hn hA0 hA1 hA2 hA3 hP0 hP1 hP2 hP3
  generalize lnok (A0 * A0 + A1 * A1 + A2 * A2 + A3 * A3) = gn at *
  generalize uw A0 n = u0 at *
  generalize uq A1 n = u1 at *
  generalize uq A2 n = u2 at *
  generalize uq A3 n = u3 at *
  generalize uok A0 n = gu0 at *
  generalize uok A1 n = gu1 at *
  generalize uok A2 n = gu2 at *
  generalize uok A3 n = gu3 at *
  generalize fx (x0 + hl P0 d) = ga0 at *
  generalize fx (x1 + hl P1 d) = ga1 at *
  generalize fx (x2 + hl P2 d) = ga2 at *
  generalize fx (x3 + hl P3 d) = ga3 at *
  generalize hl P0 d = h0 at *
  generalize hlk P0 d = gh0 at *
  generalize hl P1 d = h1 at *
  generalize hlk P1 d = gh1 at *
  generalize hl P2 d = h2 at *
  generalize hlk P2 d = gh2 at *
  generalize hl P3 d = h3 at *
  generalize hlk P3 d = gh3 at *
  go_enter Try.func25, Try.ntmps25
  go_wp2_with (fail)
  generalize hW : World.alloc _ _ = W1
  have hR : W1.heap[w.heap.size + 1 + 1 + 1 + 1]? = some (.cells #[.int .i64 0, .int .i64 0, .int .i64 0, .int .i64 0] 24 (0, 0)) := by
    rw [← hW]
    have := row_new ((((w.alloc (.cells #[.pointer (some ⟨b, 0, none⟩)] 27)).alloc (.cells #[.int .i64 x0, .int .i64 x1, .int .i64 x2, .int .i64 x3] 24)).alloc (.cells #[.int .i64 w0, .int .i64 w1, .int .i64 w2] 26)).alloc (.cells #[.int .i64 d] 22)) (.cells #[.int .i64 0, .int .i64 0, .int .i64 0, .int .i64 0] 24)
    simpa only [World.size_alloc] using this
  have c0 : W1.cell? ⟨w.heap.size + 1, 0, none⟩ = some (.int .i64 x0) := by rw [← hW]; simp [go_sem]
  have c1 : W1.cell? ⟨w.heap.size + 1, 1, none⟩ = some (.int .i64 x1) := by rw [← hW]; simp [go_sem]
  have c2 : W1.cell? ⟨w.heap.size + 1, 2, none⟩ = some (.int .i64 x2) := by rw [← hW]; simp [go_sem]
  have c3 : W1.cell? ⟨w.heap.size + 1, 3, none⟩ = some (.int .i64 x3) := by rw [← hW]; simp [go_sem]
  have cm : W1.cell? ⟨w.heap.size, 0, none⟩ = some (.pointer (some ⟨b, 0, none⟩)) := by rw [← hW]; simp [go_sem]
  have cd : W1.cell? ⟨w.heap.size + 1 + 1 + 1, 0, none⟩ = some (.int .i64 d) := by rw [← hW]; simp [go_sem]
  have HM : Mv b o w W1 := by rw [← hW]; exact ((((HM.alloc _).alloc _).alloc _).alloc _).alloc _
  clear hW
  (with_reducible refine (mvCall (b := b) (w0 := w) HM (kM _ _)).mono ?_); rintro e w1 ⟨rfl, hM, HM⟩
  have c0 := mv_cell hM (by dsimp only; omega) c0
  have c1 := mv_cell hM (by dsimp only; omega) c1
  have c2 := mv_cell hM (by dsimp only; omega) c2
  have c3 := mv_cell hM (by dsimp only; omega) c3
  have cm := mv_cell hM (by dsimp only; omega) cm
  have cd := mv_cell hM (by dsimp only; omega) cd
  have hR := row_mv (g := w.heap.size + 1 + 1 + 1 + 1) hM hR (by omega)
  clear hM kM
  go_wp2_with (fail)
  (with_reducible refine (mvCall (b := b) (w0 := w) HM (kE _ _ cm cd)).mono ?_); rintro e w2 ⟨rfl, hM, HM⟩
  have c0 := mv_cell hM (by dsimp only; omega) c0
  have c1 := mv_cell hM (by dsimp only; omega) c1
  have c2 := mv_cell hM (by dsimp only; omega) c2
  have c3 := mv_cell hM (by dsimp only; omega) c3
  have cm := mv_cell hM (by dsimp only; omega) cm
  have hR := row_mv (g := w.heap.size + 1 + 1 + 1 + 1) hM hR (by omega)
  have hz2 : w.heap.size + 1 + 1 + 1 + 1 < w2.heap.size := (Array.getElem?_eq_some_iff.1 hR).1
  clear hM kE cd
  go_upto_region 2 with (fail)
  generalize hW : World.alloc _ _ = W3
  have c0 : W3.cell? ⟨w.heap.size + 1, 0, none⟩ = some (.int .i64 x0) := by rw [← hW]; exact cell_later ((Below.refl _ _).alloc (Nat.le_refl _) _) c0
  have c1 : W3.cell? ⟨w.heap.size + 1, 1, none⟩ = some (.int .i64 x1) := by rw [← hW]; exact cell_later ((Below.refl _ _).alloc (Nat.le_refl _) _) c1
  have c2 : W3.cell? ⟨w.heap.size + 1, 2, none⟩ = some (.int .i64 x2) := by rw [← hW]; exact cell_later ((Below.refl _ _).alloc (Nat.le_refl _) _) c2
  have c3 : W3.cell? ⟨w.heap.size + 1, 3, none⟩ = some (.int .i64 x3) := by rw [← hW]; exact cell_later ((Below.refl _ _).alloc (Nat.le_refl _) _) c3
  have cm : W3.cell? ⟨w.heap.size, 0, none⟩ = some (.pointer (some ⟨b, 0, none⟩)) := by rw [← hW]; exact cell_later ((Below.refl _ _).alloc (Nat.le_refl _) _) cm
  have y0 : W3.cell? ⟨w2.heap.size, 0, none⟩ = some (.int .i64 h0) := by rw [← hW]; simp [go_sem]
  have y1 : W3.cell? ⟨w2.heap.size, 1, none⟩ = some (.int .i64 h1) := by rw [← hW]; simp [go_sem]
  have y2 : W3.cell? ⟨w2.heap.size, 2, none⟩ = some (.int .i64 h2) := by rw [← hW]; simp [go_sem]
  have y3 : W3.cell? ⟨w2.heap.size, 3, none⟩ = some (.int .i64 h3) := by rw [← hW]; simp [go_sem]
  have hR : W3.heap[w.heap.size + 1 + 1 + 1 + 1]? = some (.cells #[.int .i64 0, .int .i64 0, .int .i64 0, .int .i64 0] 24 (0, 0)) := by rw [← hW]; exact row_later hR ((Below.refl _ _).alloc (Nat.le_refl _) _)
  have HM := (show Mv b _ w W3 from by rw [← hW]; exact HM.alloc _)
  clear hW
  have hbw := HM.size
  (try refine wp_region_noPanic ?_)
  refine wp_region_ssa (S := (fun (w' : World) => w'.cell? ⟨w.heap.size + 1, 0, none⟩ = some (.int .i64 x0) ∧ w'.cell? ⟨w.heap.size + 1, 1, none⟩ = some (.int .i64 x1) ∧ w'.cell? ⟨w.heap.size + 1, 2, none⟩ = some (.int .i64 x2) ∧ w'.cell? ⟨w.heap.size + 1, 3, none⟩ = some (.int .i64 x3) ∧ w'.cell? ⟨w.heap.size, 0, none⟩ = some (.pointer (some ⟨b, 0, none⟩)) ∧ w'.cell? ⟨w2.heap.size, 0, none⟩ = some (.int .i64 h0) ∧ w'.cell? ⟨w2.heap.size, 1, none⟩ = some (.int .i64 h1) ∧ w'.cell? ⟨w2.heap.size, 2, none⟩ = some (.int .i64 h2) ∧ w'.cell? ⟨w2.heap.size, 3, none⟩ = some (.int .i64 h3))) (#[none, none, none, none, none, none, none, none, none, none, none, none, none, none, none, none, none, none, none, none, none, none, some 0, some 1, some 2, some 3, some 4, some 5, some 6, some 7, some 8, some 9, some 10, some 11, some 12, some 13, some 14, some 15, some 16, some 17, some 18, some 19, some 20, some 21, some 22, some 23, some 24, some 25, some 26] : Array (Option Nat)) (by kernel_rfl) (by kernel_rfl) (by kernel_rfl) ⟨(by first | (simp (maxDischargeDepth := 6) [go_sem, *]; done)), (by first | (simp (maxDischargeDepth := 6) [go_sem, *]; done)), (by first | (simp (maxDischargeDepth := 6) [go_sem, *]; done)), (by first | (simp (maxDischargeDepth := 6) [go_sem, *]; done)), (by first | (simp (maxDischargeDepth := 6) [go_sem, *]; done)), (by first | (simp (maxDischargeDepth := 6) [go_sem, *]; done)), (by first | (simp (maxDischargeDepth := 6) [go_sem, *]; done)), (by first | (simp (maxDischargeDepth := 6) [go_sem, *]; done)), (by first | (simp (maxDischargeDepth := 6) [go_sem, *]; done))⟩ (fun hSSA hHeld => ?_)
  refine wpAnyH_sl (n := 15) (l' := (#[true, true, true, false, true, false, false, true, true, false, true, false, false, true, true, false, true, false, false, true, true, false, true, false, false, false, false, false] : Array Bool)) [0, 1, 2, 4, 7, 8, 10, 13, 14, 16, 19, 20, 22] [some 22, some 23, some 24, some 26, some 29, some 30, some 32, some 35, some 36, some 38, some 41, some 42, some 44] hSSA (
    LvY.take (by rfl) (by intro w hSw; (try dsimp only at hSw); go_simp; try with_reducible rfl) <|
    LvY.take (by rfl) (by intro w hSw; (try dsimp only at hSw); go_simp; try with_reducible rfl) <|
    LvY.take (by rfl) (by intro w hSw; (try dsimp only at hSw); go_simp; try with_reducible rfl) <|
    LvY.skip <|
    LvY.take (by rfl) (by intro w hSw; (try dsimp only at hSw); go_simp; try with_reducible rfl) <|
    LvY.skip <|
    LvY.skip <|
    LvY.take (by rfl) (by intro w hSw; (try dsimp only at hSw); go_simp; try with_reducible rfl) <|
    LvY.take (by rfl) (by intro w hSw; (try dsimp only at hSw); go_simp; try with_reducible rfl) <|
    LvY.skip <|
    LvY.take (by rfl) (by intro w hSw; (try dsimp only at hSw); go_simp; try with_reducible rfl) <|
    LvY.skip <|
    LvY.skip <|
    LvY.take (by rfl) (by intro w hSw; (try dsimp only at hSw); go_simp; try with_reducible rfl) <|
    LvY.take (by rfl) (by intro w hSw; (try dsimp only at hSw); go_simp; try with_reducible rfl) <|
    LvY.skip <|
    LvY.take (by rfl) (by intro w hSw; (try dsimp only at hSw); go_simp; try with_reducible rfl) <|
    LvY.skip <|
    LvY.skip <|
    LvY.take (by rfl) (by intro w hSw; (try dsimp only at hSw); go_simp; try with_reducible rfl) <|
    LvY.take (by rfl) (by intro w hSw; (try dsimp only at hSw); go_simp; try with_reducible rfl) <|
    LvY.skip <|
    LvY.take (by rfl) (by intro w hSw; (try dsimp only at hSw); go_simp; try with_reducible rfl) <|
    LvY.skip <|
    LvY.skip <|
    LvY.skip <|
    LvY.skip <|
    LvY.skip <|
    LvY.nil) (by rfl) (by rfl) (by kernel_rfl) (fun _ _ _ _ _ h => h) (by kernel_rfl) (by kernel_rfl) (by kernel_rfl) (by assumption) ?_
  simp only [lvVs, putDs, Act.put, List.setIfInBounds_toArray, List.set_cons_zero, List.set_cons_succ]
  refine wpAnyH_sl (n := 7) (l' := (#[true, true, true, true, true, true, false, true, true, true, true, true, false, true, true, true, true, true, false, true, true, true, true, true, false, false, false, false] : Array Bool)) [3, 5, 9, 11, 15, 17, 21, 23] [some 25, some 27, some 31, some 33, some 37, some 39, some 43, some 45] hSSA (
    LvY.skip <|
    LvY.skip <|
    LvY.skip <|
    LvY.take (by rfl) (by intro w hSw; (try dsimp only at hSw); go_simp; try with_reducible rfl) <|
    LvY.skip <|
    LvY.take (by rfl) (by intro w hSw; (try dsimp only at hSw); go_simp; try with_reducible rfl) <|
    LvY.skip <|
    LvY.skip <|
    LvY.skip <|
    LvY.take (by rfl) (by intro w hSw; (try dsimp only at hSw); go_simp; try with_reducible rfl) <|
    LvY.skip <|
    LvY.take (by rfl) (by intro w hSw; (try dsimp only at hSw); go_simp; try with_reducible rfl) <|
    LvY.skip <|
    LvY.skip <|
    LvY.skip <|
    LvY.take (by rfl) (by intro w hSw; (try dsimp only at hSw); go_simp; try with_reducible rfl) <|
    LvY.skip <|
    LvY.take (by rfl) (by intro w hSw; (try dsimp only at hSw); go_simp; try with_reducible rfl) <|
    LvY.skip <|
    LvY.skip <|
    LvY.skip <|
    LvY.take (by rfl) (by intro w hSw; (try dsimp only at hSw); go_simp; try with_reducible rfl) <|
    LvY.skip <|
    LvY.take (by rfl) (by intro w hSw; (try dsimp only at hSw); go_simp; try with_reducible rfl) <|
    LvY.skip <|
    LvY.skip <|
    LvY.skip <|
    LvY.skip <|
    LvY.nil) (by rfl) (by rfl) (by kernel_rfl) (fun _ _ _ _ _ h => h) (by kernel_rfl) (by kernel_rfl) (by kernel_rfl) (by assumption) ?_
  simp only [lvVs, putDs, Act.put, List.setIfInBounds_toArray, List.set_cons_zero, List.set_cons_succ]
  have hOld := hHeld; clear hHeld
  refine wpAnyH_on (i := 6) (n := 6) (l' := (#[true, true, true, true, true, true, true, true, true, true, true, true, false, true, true, true, true, true, false, true, true, true, true, true, false, false, false, false] : Array Bool)) (by kernel_rfl) (by kernel_rfl) (by kernel_rfl) (by simp only [List.getElem?_toArray, List.getElem?_cons_succ, List.getElem?_cons_zero]; rfl) (by rfl) (fun K hK => ?_)
  go_simp
  (go_at_call 31; (with_reducible refine (mvCall (b := b) (w0 := w) (by (repeat (first | with_reducible assumption | with_reducible exact Mv.refl (by assumption) (by assumption) | with_reducible apply Mv.alloc | with_reducible apply Mv.drew | with_reducible apply Mv.drewN | ((with_reducible apply Mv.setCell); rotate_left; (first | (dsimp only; omega) | omega | (simp; omega)); (first | (dsimp only; omega) | omega | (simp; omega))) | ((with_reducible apply Mv.below); rotate_left; (with_reducible assumption)) | ((with_reducible apply Mv.trans); rotate_left; (with_reducible assumption))))) (kA0 _ _)).mono ?_); rintro e w1 ⟨rfl, hM, HM⟩)
  (try go_wp2_with (fail))
  refine hK.out _ _ ⟨(by first | exact mv_cell hM (by first | (dsimp only; omega) | (simp; omega)) hOld.1 | exact cell_later hM hOld.1 | exact HT.cb | exact HT.cc | (simp (maxDischargeDepth := 6) [go_sem, *]; done)), (by first | exact mv_cell hM (by first | (dsimp only; omega) | (simp; omega)) hOld.2.1 | exact cell_later hM hOld.2.1 | exact HT.cb | exact HT.cc | (simp (maxDischargeDepth := 6) [go_sem, *]; done)), (by first | exact mv_cell hM (by first | (dsimp only; omega) | (simp; omega)) hOld.2.2.1 | exact cell_later hM hOld.2.2.1 | exact HT.cb | exact HT.cc | (simp (maxDischargeDepth := 6) [go_sem, *]; done)), (by first | exact mv_cell hM (by first | (dsimp only; omega) | (simp; omega)) hOld.2.2.2.1 | exact cell_later hM hOld.2.2.2.1 | exact HT.cb | exact HT.cc | (simp (maxDischargeDepth := 6) [go_sem, *]; done)), (by first | exact mv_cell hM (by first | (dsimp only; omega) | (simp; omega)) hOld.2.2.2.2.1 | exact cell_later hM hOld.2.2.2.2.1 | exact HT.cb | exact HT.cc | (simp (maxDischargeDepth := 6) [go_sem, *]; done)), (by first | exact mv_cell hM (by first | (dsimp only; omega) | (simp; omega)) hOld.2.2.2.2.2.1 | exact cell_later hM hOld.2.2.2.2.2.1 | exact HT.cb | exact HT.cc | (simp (maxDischargeDepth := 6) [go_sem, *]; done)), (by first | exact mv_cell hM (by first | (dsimp only; omega) | (simp; omega)) hOld.2.2.2.2.2.2.1 | exact cell_later hM hOld.2.2.2.2.2.2.1 | exact HT.cb | exact HT.cc | (simp (maxDischargeDepth := 6) [go_sem, *]; done)), (by first | exact mv_cell hM (by first | (dsimp only; omega) | (simp; omega)) hOld.2.2.2.2.2.2.2.1 | exact cell_later hM hOld.2.2.2.2.2.2.2.1 | exact HT.cb | exact HT.cc | (simp (maxDischargeDepth := 6) [go_sem, *]; done)), (by first | exact mv_cell hM (by first | (dsimp only; omega) | (simp; omega)) hOld.2.2.2.2.2.2.2.2 | exact cell_later hM hOld.2.2.2.2.2.2.2.2 | exact HT.cb | exact HT.cc | (simp (maxDischargeDepth := 6) [go_sem, *]; done))⟩ (fun hHeld => ?_)
  clear hK K hOld
  try simp only [Act.put, List.setIfInBounds_toArray, List.set_cons_zero, List.set_cons_succ]
  have hR := row_mv (g := w.heap.size + 1 + 1 + 1 + 1) hM hR (by omega); clear hM
  have hOld := hHeld; clear hHeld
  refine wpAnyH_on (i := 12) (n := 5) (l' := (#[true, true, true, true, true, true, true, true, true, true, true, true, true, true, true, true, true, true, false, true, true, true, true, true, false, false, false, false] : Array Bool)) (by kernel_rfl) (by kernel_rfl) (by kernel_rfl) (by simp only [List.getElem?_toArray, List.getElem?_cons_succ, List.getElem?_cons_zero]; rfl) (by rfl) (fun K hK => ?_)
  go_simp
  (go_at_call 31; (with_reducible refine (mvCall (b := b) (w0 := w) (by (repeat (first | with_reducible assumption | with_reducible exact Mv.refl (by assumption) (by assumption) | with_reducible apply Mv.alloc | with_reducible apply Mv.drew | with_reducible apply Mv.drewN | ((with_reducible apply Mv.setCell); rotate_left; (first | (dsimp only; omega) | omega | (simp; omega)); (first | (dsimp only; omega) | omega | (simp; omega))) | ((with_reducible apply Mv.below); rotate_left; (with_reducible assumption)) | ((with_reducible apply Mv.trans); rotate_left; (with_reducible assumption))))) (kA1 _ _)).mono ?_); rintro e w1 ⟨rfl, hM, HM⟩)
  (try go_wp2_with (fail))
  refine hK.out _ _ ⟨(by first | exact mv_cell hM (by first | (dsimp only; omega) | (simp; omega)) hOld.1 | exact cell_later hM hOld.1 | exact HT.cb | exact HT.cc | (simp (maxDischargeDepth := 6) [go_sem, *]; done)), (by first | exact mv_cell hM (by first | (dsimp only; omega) | (simp; omega)) hOld.2.1 | exact cell_later hM hOld.2.1 | exact HT.cb | exact HT.cc | (simp (maxDischargeDepth := 6) [go_sem, *]; done)), (by first | exact mv_cell hM (by first | (dsimp only; omega) | (simp; omega)) hOld.2.2.1 | exact cell_later hM hOld.2.2.1 | exact HT.cb | exact HT.cc | (simp (maxDischargeDepth := 6) [go_sem, *]; done)), (by first | exact mv_cell hM (by first | (dsimp only; omega) | (simp; omega)) hOld.2.2.2.1 | exact cell_later hM hOld.2.2.2.1 | exact HT.cb | exact HT.cc | (simp (maxDischargeDepth := 6) [go_sem, *]; done)), (by first | exact mv_cell hM (by first | (dsimp only; omega) | (simp; omega)) hOld.2.2.2.2.1 | exact cell_later hM hOld.2.2.2.2.1 | exact HT.cb | exact HT.cc | (simp (maxDischargeDepth := 6) [go_sem, *]; done)), (by first | exact mv_cell hM (by first | (dsimp only; omega) | (simp; omega)) hOld.2.2.2.2.2.1 | exact cell_later hM hOld.2.2.2.2.2.1 | exact HT.cb | exact HT.cc | (simp (maxDischargeDepth := 6) [go_sem, *]; done)), (by first | exact mv_cell hM (by first | (dsimp only; omega) | (simp; omega)) hOld.2.2.2.2.2.2.1 | exact cell_later hM hOld.2.2.2.2.2.2.1 | exact HT.cb | exact HT.cc | (simp (maxDischargeDepth := 6) [go_sem, *]; done)), (by first | exact mv_cell hM (by first | (dsimp only; omega) | (simp; omega)) hOld.2.2.2.2.2.2.2.1 | exact cell_later hM hOld.2.2.2.2.2.2.2.1 | exact HT.cb | exact HT.cc | (simp (maxDischargeDepth := 6) [go_sem, *]; done)), (by first | exact mv_cell hM (by first | (dsimp only; omega) | (simp; omega)) hOld.2.2.2.2.2.2.2.2 | exact cell_later hM hOld.2.2.2.2.2.2.2.2 | exact HT.cb | exact HT.cc | (simp (maxDischargeDepth := 6) [go_sem, *]; done))⟩ (fun hHeld => ?_)
  clear hK K hOld
  try simp only [Act.put, List.setIfInBounds_toArray, List.set_cons_zero, List.set_cons_succ]
  have hR := row_mv (g := w.heap.size + 1 + 1 + 1 + 1) hM hR (by omega); clear hM
  have hOld := hHeld; clear hHeld
  refine wpAnyH_on (i := 18) (n := 4) (l' := (#[true, true, true, true, true, true, true, true, true, true, true, true, true, true, true, true, true, true, true, true, true, true, true, true, false, false, false, false] : Array Bool)) (by kernel_rfl) (by kernel_rfl) (by kernel_rfl) (by simp only [List.getElem?_toArray, List.getElem?_cons_succ, List.getElem?_cons_zero]; rfl) (by rfl) (fun K hK => ?_)
  go_simp
  (go_at_call 31; (with_reducible refine (mvCall (b := b) (w0 := w) (by (repeat (first | with_reducible assumption | with_reducible exact Mv.refl (by assumption) (by assumption) | with_reducible apply Mv.alloc | with_reducible apply Mv.drew | with_reducible apply Mv.drewN | ((with_reducible apply Mv.setCell); rotate_left; (first | (dsimp only; omega) | omega | (simp; omega)); (first | (dsimp only; omega) | omega | (simp; omega))) | ((with_reducible apply Mv.below); rotate_left; (with_reducible assumption)) | ((with_reducible apply Mv.trans); rotate_left; (with_reducible assumption))))) (kA2 _ _)).mono ?_); rintro e w1 ⟨rfl, hM, HM⟩)
  (try go_wp2_with (fail))
  refine hK.out _ _ ⟨(by first | exact mv_cell hM (by first | (dsimp only; omega) | (simp; omega)) hOld.1 | exact cell_later hM hOld.1 | exact HT.cb | exact HT.cc | (simp (maxDischargeDepth := 6) [go_sem, *]; done)), (by first | exact mv_cell hM (by first | (dsimp only; omega) | (simp; omega)) hOld.2.1 | exact cell_later hM hOld.2.1 | exact HT.cb | exact HT.cc | (simp (maxDischargeDepth := 6) [go_sem, *]; done)), (by first | exact mv_cell hM (by first | (dsimp only; omega) | (simp; omega)) hOld.2.2.1 | exact cell_later hM hOld.2.2.1 | exact HT.cb | exact HT.cc | (simp (maxDischargeDepth := 6) [go_sem, *]; done)), (by first | exact mv_cell hM (by first | (dsimp only; omega) | (simp; omega)) hOld.2.2.2.1 | exact cell_later hM hOld.2.2.2.1 | exact HT.cb | exact HT.cc | (simp (maxDischargeDepth := 6) [go_sem, *]; done)), (by first | exact mv_cell hM (by first | (dsimp only; omega) | (simp; omega)) hOld.2.2.2.2.1 | exact cell_later hM hOld.2.2.2.2.1 | exact HT.cb | exact HT.cc | (simp (maxDischargeDepth := 6) [go_sem, *]; done)), (by first | exact mv_cell hM (by first | (dsimp only; omega) | (simp; omega)) hOld.2.2.2.2.2.1 | exact cell_later hM hOld.2.2.2.2.2.1 | exact HT.cb | exact HT.cc | (simp (maxDischargeDepth := 6) [go_sem, *]; done)), (by first | exact mv_cell hM (by first | (dsimp only; omega) | (simp; omega)) hOld.2.2.2.2.2.2.1 | exact cell_later hM hOld.2.2.2.2.2.2.1 | exact HT.cb | exact HT.cc | (simp (maxDischargeDepth := 6) [go_sem, *]; done)), (by first | exact mv_cell hM (by first | (dsimp only; omega) | (simp; omega)) hOld.2.2.2.2.2.2.2.1 | exact cell_later hM hOld.2.2.2.2.2.2.2.1 | exact HT.cb | exact HT.cc | (simp (maxDischargeDepth := 6) [go_sem, *]; done)), (by first | exact mv_cell hM (by first | (dsimp only; omega) | (simp; omega)) hOld.2.2.2.2.2.2.2.2 | exact cell_later hM hOld.2.2.2.2.2.2.2.2 | exact HT.cb | exact HT.cc | (simp (maxDischargeDepth := 6) [go_sem, *]; done))⟩ (fun hHeld => ?_)
  clear hK K hOld
  try simp only [Act.put, List.setIfInBounds_toArray, List.set_cons_zero, List.set_cons_succ]
  have hR := row_mv (g := w.heap.size + 1 + 1 + 1 + 1) hM hR (by omega); clear hM
  have hOld := hHeld; clear hHeld
  refine wpAnyH_on (i := 24) (n := 3) (l' := (#[true, true, true, true, true, true, true, true, true, true, true, true, true, true, true, true, true, true, true, true, true, true, true, true, true, false, false, false] : Array Bool)) (by kernel_rfl) (by kernel_rfl) (by kernel_rfl) (by simp only [List.getElem?_toArray, List.getElem?_cons_succ, List.getElem?_cons_zero]; rfl) (by rfl) (fun K hK => ?_)
  go_simp
  (go_at_call 31; (with_reducible refine (mvCall (b := b) (w0 := w) (by (repeat (first | with_reducible assumption | with_reducible exact Mv.refl (by assumption) (by assumption) | with_reducible apply Mv.alloc | with_reducible apply Mv.drew | with_reducible apply Mv.drewN | ((with_reducible apply Mv.setCell); rotate_left; (first | (dsimp only; omega) | omega | (simp; omega)); (first | (dsimp only; omega) | omega | (simp; omega))) | ((with_reducible apply Mv.below); rotate_left; (with_reducible assumption)) | ((with_reducible apply Mv.trans); rotate_left; (with_reducible assumption))))) (kA3 _ _)).mono ?_); rintro e w1 ⟨rfl, hM, HM⟩)
  (try go_wp2_with (fail))
  refine hK.out _ _ ⟨(by first | exact mv_cell hM (by first | (dsimp only; omega) | (simp; omega)) hOld.1 | exact cell_later hM hOld.1 | exact HT.cb | exact HT.cc | (simp (maxDischargeDepth := 6) [go_sem, *]; done)), (by first | exact mv_cell hM (by first | (dsimp only; omega) | (simp; omega)) hOld.2.1 | exact cell_later hM hOld.2.1 | exact HT.cb | exact HT.cc | (simp (maxDischargeDepth := 6) [go_sem, *]; done)), (by first | exact mv_cell hM (by first | (dsimp only; omega) | (simp; omega)) hOld.2.2.1 | exact cell_later hM hOld.2.2.1 | exact HT.cb | exact HT.cc | (simp (maxDischargeDepth := 6) [go_sem, *]; done)), (by first | exact mv_cell hM (by first | (dsimp only; omega) | (simp; omega)) hOld.2.2.2.1 | exact cell_later hM hOld.2.2.2.1 | exact HT.cb | exact HT.cc | (simp (maxDischargeDepth := 6) [go_sem, *]; done)), (by first | exact mv_cell hM (by first | (dsimp only; omega) | (simp; omega)) hOld.2.2.2.2.1 | exact cell_later hM hOld.2.2.2.2.1 | exact HT.cb | exact HT.cc | (simp (maxDischargeDepth := 6) [go_sem, *]; done)), (by first | exact mv_cell hM (by first | (dsimp only; omega) | (simp; omega)) hOld.2.2.2.2.2.1 | exact cell_later hM hOld.2.2.2.2.2.1 | exact HT.cb | exact HT.cc | (simp (maxDischargeDepth := 6) [go_sem, *]; done)), (by first | exact mv_cell hM (by first | (dsimp only; omega) | (simp; omega)) hOld.2.2.2.2.2.2.1 | exact cell_later hM hOld.2.2.2.2.2.2.1 | exact HT.cb | exact HT.cc | (simp (maxDischargeDepth := 6) [go_sem, *]; done)), (by first | exact mv_cell hM (by first | (dsimp only; omega) | (simp; omega)) hOld.2.2.2.2.2.2.2.1 | exact cell_later hM hOld.2.2.2.2.2.2.2.1 | exact HT.cb | exact HT.cc | (simp (maxDischargeDepth := 6) [go_sem, *]; done)), (by first | exact mv_cell hM (by first | (dsimp only; omega) | (simp; omega)) hOld.2.2.2.2.2.2.2.2 | exact cell_later hM hOld.2.2.2.2.2.2.2.2 | exact HT.cb | exact HT.cc | (simp (maxDischargeDepth := 6) [go_sem, *]; done))⟩ (fun hHeld => ?_)
  clear hK K hOld
  try simp only [Act.put, List.setIfInBounds_toArray, List.set_cons_zero, List.set_cons_succ]
  have hR := row_mv (g := w.heap.size + 1 + 1 + 1 + 1) hM hR (by omega); clear hM
  refine wpAnyH_sl (n := 2) (l' := (#[true, true, true, true, true, true, true, true, true, true, true, true, true, true, true, true, true, true, true, true, true, true, true, true, true, true, false, false] : Array Bool)) [25] [some 47] hSSA (
    LvY.skip <|
    LvY.skip <|
    LvY.skip <|
    LvY.skip <|
    LvY.skip <|
    LvY.skip <|
    LvY.skip <|
    LvY.skip <|
    LvY.skip <|
    LvY.skip <|
    LvY.skip <|
    LvY.skip <|
    LvY.skip <|
    LvY.skip <|
    LvY.skip <|
    LvY.skip <|
    LvY.skip <|
    LvY.skip <|
    LvY.skip <|
    LvY.skip <|
    LvY.skip <|
    LvY.skip <|
    LvY.skip <|
    LvY.skip <|
    LvY.skip <|
    LvY.take (by rfl) (by intro w hSw; (try dsimp only at hSw); go_simp; try with_reducible rfl) <|
    LvY.skip <|
    LvY.skip <|
    LvY.nil) (by rfl) (by rfl) (by kernel_rfl) (fun _ _ _ _ _ h => h) (by kernel_rfl) (by kernel_rfl) (by kernel_rfl) (by assumption) ?_
  simp only [lvVs, putDs, Act.put, List.setIfInBounds_toArray, List.set_cons_zero, List.set_cons_succ]
  have hOld := hHeld; clear hHeld
  refine wpAnyH_on (i := 26) (n := 1) (l' := (#[true, true, true, true, true, true, true, true, true, true, true, true, true, true, true, true, true, true, true, true, true, true, true, true, true, true, true, false] : Array Bool)) (by kernel_rfl) (by kernel_rfl) (by kernel_rfl) (by simp only [List.getElem?_toArray, List.getElem?_cons_succ, List.getElem?_cons_zero]; rfl) (by rfl) (fun K hK => ?_)
  go_simp
  (go_at_call 18; (with_reducible refine (mvCall (b := b) (w0 := w) (by (repeat (first | with_reducible assumption | with_reducible exact Mv.refl (by assumption) (by assumption) | with_reducible apply Mv.alloc | with_reducible apply Mv.drew | with_reducible apply Mv.drewN | ((with_reducible apply Mv.setCell); rotate_left; (first | (dsimp only; omega) | omega | (simp; omega)); (first | (dsimp only; omega) | omega | (simp; omega))) | ((with_reducible apply Mv.below); rotate_left; (with_reducible assumption)) | ((with_reducible apply Mv.trans); rotate_left; (with_reducible assumption))))) (kU _ _)).mono ?_); rintro e w1 ⟨rfl, hM, HM⟩)
  (try go_wp2_with (fail))
  refine hK.out _ _ ⟨(by first | exact mv_cell hM (by first | (dsimp only; omega) | (simp; omega)) hOld.1 | exact cell_later hM hOld.1 | exact HT.cb | exact HT.cc | (simp (maxDischargeDepth := 6) [go_sem, *]; done)), (by first | exact mv_cell hM (by first | (dsimp only; omega) | (simp; omega)) hOld.2.1 | exact cell_later hM hOld.2.1 | exact HT.cb | exact HT.cc | (simp (maxDischargeDepth := 6) [go_sem, *]; done)), (by first | exact mv_cell hM (by first | (dsimp only; omega) | (simp; omega)) hOld.2.2.1 | exact cell_later hM hOld.2.2.1 | exact HT.cb | exact HT.cc | (simp (maxDischargeDepth := 6) [go_sem, *]; done)), (by first | exact mv_cell hM (by first | (dsimp only; omega) | (simp; omega)) hOld.2.2.2.1 | exact cell_later hM hOld.2.2.2.1 | exact HT.cb | exact HT.cc | (simp (maxDischargeDepth := 6) [go_sem, *]; done)), (by first | exact mv_cell hM (by first | (dsimp only; omega) | (simp; omega)) hOld.2.2.2.2.1 | exact cell_later hM hOld.2.2.2.2.1 | exact HT.cb | exact HT.cc | (simp (maxDischargeDepth := 6) [go_sem, *]; done)), (by first | exact mv_cell hM (by first | (dsimp only; omega) | (simp; omega)) hOld.2.2.2.2.2.1 | exact cell_later hM hOld.2.2.2.2.2.1 | exact HT.cb | exact HT.cc | (simp (maxDischargeDepth := 6) [go_sem, *]; done)), (by first | exact mv_cell hM (by first | (dsimp only; omega) | (simp; omega)) hOld.2.2.2.2.2.2.1 | exact cell_later hM hOld.2.2.2.2.2.2.1 | exact HT.cb | exact HT.cc | (simp (maxDischargeDepth := 6) [go_sem, *]; done)), (by first | exact mv_cell hM (by first | (dsimp only; omega) | (simp; omega)) hOld.2.2.2.2.2.2.2.1 | exact cell_later hM hOld.2.2.2.2.2.2.2.1 | exact HT.cb | exact HT.cc | (simp (maxDischargeDepth := 6) [go_sem, *]; done)), (by first | exact mv_cell hM (by first | (dsimp only; omega) | (simp; omega)) hOld.2.2.2.2.2.2.2.2 | exact cell_later hM hOld.2.2.2.2.2.2.2.2 | exact HT.cb | exact HT.cc | (simp (maxDischargeDepth := 6) [go_sem, *]; done))⟩ (fun hHeld => ?_)
  clear hK K hOld
  try simp only [Act.put, List.setIfInBounds_toArray, List.set_cons_zero, List.set_cons_succ]
  have hR := row_mv (g := w.heap.size + 1 + 1 + 1 + 1) hM hR (by omega); clear hM
  have hOld := hHeld; clear hHeld
  refine wpAnyH_on (i := 27) (n := 0) (l' := (#[true, true, true, true, true, true, true, true, true, true, true, true, true, true, true, true, true, true, true, true, true, true, true, true, true, true, true, true] : Array Bool)) (by kernel_rfl) (by kernel_rfl) (by kernel_rfl) (by simp only [List.getElem?_toArray, List.getElem?_cons_succ, List.getElem?_cons_zero]; rfl) (by rfl) (fun K hK => ?_)
  refine wp_store_row 24 _ _ rfl (w.heap.size + 1 + 1 + 1 + 1) #[.int .i64 u0, .int .i64 u1, .int .i64 u2, .int .i64 u3] (by rfl) (by rfl) 24 _ hR (by kernel_rfl) rfl (by simp [Value.oneCell']) ?_
  refine hK.out _ _ ⟨cell_row hOld.1 (by dsimp only; omega), cell_row hOld.2.1 (by dsimp only; omega), cell_row hOld.2.2.1 (by dsimp only; omega), cell_row hOld.2.2.2.1 (by dsimp only; omega), cell_row hOld.2.2.2.2.1 (by dsimp only; omega), cell_row hOld.2.2.2.2.2.1 (by dsimp only; omega), cell_row hOld.2.2.2.2.2.2.1 (by dsimp only; omega), cell_row hOld.2.2.2.2.2.2.2.1 (by dsimp only; omega), cell_row hOld.2.2.2.2.2.2.2.2 (by dsimp only; omega)⟩ (fun hHeld => ?_)
  clear hK K hOld
  try simp only [Act.put, List.setIfInBounds_toArray, List.set_cons_zero, List.set_cons_succ]
  refine wpAnyH_done (by kernel_rfl) ?_ _
  (try refine NoPanic.normal ?_)
  (try clear q0); (try clear q1); (try clear q2); (try clear q3); (try clear q4); (try clear q5); (try clear q6); (try clear q7); (try clear q8); obtain ⟨q0, q1, q2, q3, q4, q5, q6, q7, q8⟩ := hHeld
  have hR := row_put #[.int .i64 u0, .int .i64 u1, .int .i64 u2, .int .i64 u3] hR
  go_wp2
  refine bodyPost_ret (results_cell_row rfl _ _ (w.heap.size + 1 + 1 + 1 + 1) 24 #[.int .i64 u0, .int .i64 u1, .int .i64 u2, .int .i64 u3] (0, 0) _ (by rfl) hR Try.underlying24 rfl (by kernel_rfl)) rfl ⟨rfl, ?_⟩
  exact Mv.cast (HM.row (by omega) (by omega) _) (by simp only [Bool.not_and, Bool.or_assoc])
end
section
set_option linter.unusedVariables false
set_option maxHeartbeats 4000000 in
theorem rAbout (t : Int) (w : World) (t0 : 0 ≤ t) (t1 : t ≤ 4294967295) :
    Calls Try.prog 28 #[.int .u32 t] w fun e w' => e = .returned (.agg #[.int .i64 (cosv (t / 2)), .int .i64 0, .int .i64 0, .int .i64 (sinv (t / 2))]) ∧ Below w.heap.size w w' := by
  have k1 := fun W => cRCos (t / 2) W (by omega) (by omega)
  have k2 := fun W => cRSin (t / 2) W (by omega) (by omega)
  generalize cosv (t / 2) = c at *
  generalize sinv (t / 2) = s at *
  have hd : t.tdiv 2 = t / 2 := Int.tdiv_eq_ediv_of_nonneg t0
  go_enter Try.func28, Try.ntmps28
  go_wp2_with (fail)
  generalize hW : World.alloc _ _ = W1
  have hR : W1.heap[w.heap.size]? = some (.cells #[.int .i64 0, .int .i64 0, .int .i64 0, .int .i64 0] 24 (0, 0)) := by
    rw [← hW]
    exact row_new w (.cells #[.int .i64 0, .int .i64 0, .int .i64 0, .int .i64 0] 24)
  have HB : Below w.heap.size w W1 := by rw [← hW]; (repeat (first | with_reducible assumption | with_reducible exact Below.refl _ _ | ((with_reducible refine Below.setCell ?_ ?_ _); rotate_left; (first | exact Nat.le_refl _ | (dsimp only; omega) | (simp; done) | (simp; omega))) | with_reducible refine below_alloc ?_ _ | with_reducible apply below_drewN | with_reducible apply Below.drew | with_reducible refine below_step ?_ (by assumption)))
  clear hW
  (with_reducible refine (k1 _).mono ?_); rintro e w1 ⟨rfl, hM⟩
  have hR := row_later hR hM
  have HB := below_step HB hM
  go_wp2_with (fail)
  (with_reducible refine (k2 _).mono ?_); rintro e w2 ⟨rfl, hM⟩
  have hR := row_later hR hM
  have HB := below_step HB hM
  go_wp2_with (refine wpList_store_row rfl 24 _ _ rfl (w.heap.size) #[.int .i64 c, .int .i64 0, .int .i64 0, .int .i64 s] (by rfl) (by rfl) 24 _ hR (by kernel_rfl) rfl (by simp [Value.oneCell']) ?_)
  have hR := row_put #[.int .i64 c, .int .i64 0, .int .i64 0, .int .i64 s] hR
  refine bodyPost_ret (results_cell_row rfl _ _ (w.heap.size) 24 #[.int .i64 c, .int .i64 0, .int .i64 0, .int .i64 s] (0, 0) _ (by rfl) hR Try.underlying24 rfl (by kernel_rfl)) rfl ⟨rfl, ?_⟩
  exact below_row HB (Nat.le_refl _) _
set_option maxHeartbeats 16000000 in
set_option maxRecDepth 20000 in
theorem rStep (x0 x1 x2 x3 w0 w1 w2 d P0 P1 P2 P3 A0 A1 A2 A3 n : Int) (b : Nat) (o : Bool) (w : World) (hP0 : qmW x0 x1 x2 x3 0 w0 w1 w2 = P0) (hP1 : qmX x0 x1 x2 x3 0 w0 w1 w2 = P1) (hP2 : qmY x0 x1 x2 x3 0 w0 w1 w2 = P2) (hP3 : qmZ x0 x1 x2 x3 0 w0 w1 w2 = P3) (hA0 : sat (x0 + hl P0 d) = A0) (hA1 : sat (x1 + hl P1 d) = A1) (hA2 : sat (x2 + hl P2 d) = A2) (hA3 : sat (x3 + hl P3 d) = A3) (hn : ln (A0 * A0 + A1 * A1 + A2 * A2 + A3 * A3) = n) (x0_0 : -9223372036854775808 ≤ x0) (x0_1 : x0 ≤ 9223372036854775807) (x1_0 : -9223372036854775808 ≤ x1) (x1_1 : x1 ≤ 9223372036854775807) (x2_0 : -9223372036854775808 ≤ x2) (x2_1 : x2 ≤ 9223372036854775807) (x3_0 : -9223372036854775808 ≤ x3) (x3_1 : x3 ≤ 9223372036854775807) (w0_0 : -9223372036854775808 ≤ w0) (w0_1 : w0 ≤ 9223372036854775807) (w1_0 : -9223372036854775808 ≤ w1) (w1_1 : w1 ≤ 9223372036854775807) (w2_0 : -9223372036854775808 ≤ w2) (w2_1 : w2 ≤ 9223372036854775807) (d_0 : -9223372036854775808 ≤ d) (d_1 : d ≤ 9223372036854775807) (hc : w.cell? ⟨b, 0, none⟩ = some (.bool o)) (hf : w.frozen? ⟨b, 0, none⟩ = false) :
    Calls Try.prog 26 #[.pointer (some ⟨b, 0, none⟩), .agg #[.int .i64 x0, .int .i64 x1, .int .i64 x2, .int .i64 x3], .agg #[.int .i64 w0, .int .i64 w1, .int .i64 w2], .int .i64 d] w fun e w' => e = .returned (.agg #[.int .i64 (uw A0 n), .int .i64 (uq A1 n), .int .i64 (uq A2 n), .int .i64 (uq A3 n)]) ∧ Mv b (o || !(qkW x0 x1 x2 x3 0 w0 w1 w2 && qkX x0 x1 x2 x3 0 w0 w1 w2 && qkY x0 x1 x2 x3 0 w0 w1 w2 && qkZ x0 x1 x2 x3 0 w0 w1 w2) || !hlk P0 d || !hlk P1 d || !hlk P2 d || !hlk P3 d || !fx (x0 + hl P0 d) || !fx (x1 + hl P1 d) || !fx (x2 + hl P2 d) || !fx (x3 + hl P3 d) || !lnok (A0 * A0 + A1 * A1 + A2 * A2 + A3 * A3) || !uok A0 n || !uok A1 n || !uok A2 n || !uok A3 n) w w' := by
  have hb := lt_of_cell hc
  have HM := Mv.refl hc hf
  clear hc hf
  have kM := fun O W => rQMul x0 x1 x2 x3 0 w0 w1 w2 b O W x0_0 x0_1 x1_0 x1_1 x2_0 x2_1 x3_0 x3_1 (by decide) (by decide) w0_0 w0_1 w1_0 w1_1 w2_0 w2_1
  have P0_0 : -9223372036854775808 ≤ P0 := by rw [← hP0]; unfold qmW s4; exact sat_lo _
  have P0_1 : P0 ≤ 9223372036854775807 := by rw [← hP0]; unfold qmW s4; exact sat_hi _
  have P1_0 : -9223372036854775808 ≤ P1 := by rw [← hP1]; unfold qmX s4; exact sat_lo _
  have P1_1 : P1 ≤ 9223372036854775807 := by rw [← hP1]; unfold qmX s4; exact sat_hi _
  have P2_0 : -9223372036854775808 ≤ P2 := by rw [← hP2]; unfold qmY s4; exact sat_lo _
  have P2_1 : P2 ≤ 9223372036854775807 := by rw [← hP2]; unfold qmY s4; exact sat_hi _
  have P3_0 : -9223372036854775808 ≤ P3 := by rw [← hP3]; unfold qmZ s4; exact sat_lo _
  have P3_1 : P3 ≤ 9223372036854775807 := by rw [← hP3]; unfold qmZ s4; exact sat_hi _
  have A0_0 : -9223372036854775808 ≤ A0 := by rw [← hA0]; exact sat_lo _
  have A0_1 : A0 ≤ 9223372036854775807 := by rw [← hA0]; exact sat_hi _
  have A1_0 : -9223372036854775808 ≤ A1 := by rw [← hA1]; exact sat_lo _
  have A1_1 : A1 ≤ 9223372036854775807 := by rw [← hA1]; exact sat_hi _
  have A2_0 : -9223372036854775808 ≤ A2 := by rw [← hA2]; exact sat_lo _
  have A2_1 : A2 ≤ 9223372036854775807 := by rw [← hA2]; exact sat_hi _
  have A3_0 : -9223372036854775808 ≤ A3 := by rw [← hA3]; exact sat_lo _
  have A3_1 : A3 ≤ 9223372036854775807 := by rw [← hA3]; exact sat_hi _
  simp only [hP0, hP1, hP2, hP3] at kM
  generalize (qkW x0 x1 x2 x3 0 w0 w1 w2 && qkX x0 x1 x2 x3 0 w0 w1 w2 && qkY x0 x1 x2 x3 0 w0 w1 w2 && qkZ x0 x1 x2 x3 0 w0 w1 w2) = gM at *
  have h0_0 : -9223372036854775808 ≤ hl P0 d := ml_lo _ _
  have h0_1 : hl P0 d ≤ 9223372036854775807 := ml_hi _ _
  have h1_0 : -9223372036854775808 ≤ hl P1 d := ml_lo _ _
  have h1_1 : hl P1 d ≤ 9223372036854775807 := ml_hi _ _
  have h2_0 : -9223372036854775808 ≤ hl P2 d := ml_lo _ _
  have h2_1 : hl P2 d ≤ 9223372036854775807 := ml_hi _ _
  have h3_0 : -9223372036854775808 ≤ hl P3 d := ml_lo _ _
  have h3_1 : hl P3 d ≤ 9223372036854775807 := ml_hi _ _
  have kB0 := fun O W => rMl P0 d b O W P0_0 P0_1 d_0 d_1
  have kC0 := fun O W => rMl (ml P0 d) 2147483648 b O W (ml_lo _ _) (ml_hi _ _) (by decide) (by decide)
  rw [show ml (ml P0 d) 2147483648 = hl P0 d from rfl] at kC0
  have kB1 := fun O W => rMl P1 d b O W P1_0 P1_1 d_0 d_1
  have kC1 := fun O W => rMl (ml P1 d) 2147483648 b O W (ml_lo _ _) (ml_hi _ _) (by decide) (by decide)
  rw [show ml (ml P1 d) 2147483648 = hl P1 d from rfl] at kC1
  have kB2 := fun O W => rMl P2 d b O W P2_0 P2_1 d_0 d_1
  have kC2 := fun O W => rMl (ml P2 d) 2147483648 b O W (ml_lo _ _) (ml_hi _ _) (by decide) (by decide)
  rw [show ml (ml P2 d) 2147483648 = hl P2 d from rfl] at kC2
  have kB3 := fun O W => rMl P3 d b O W P3_0 P3_1 d_0 d_1
  have kC3 := fun O W => rMl (ml P3 d) 2147483648 b O W (ml_lo _ _) (ml_hi _ _) (by decide) (by decide)
  rw [show ml (ml P3 d) 2147483648 = hl P3 d from rfl] at kC3
  have kA0 := fun O W => rFAdd x0 (hl P0 d) b O W x0_0 x0_1 h0_0 h0_1
  rw [hA0] at kA0
  have kA1 := fun O W => rFAdd x1 (hl P1 d) b O W x1_0 x1_1 h1_0 h1_1
  rw [hA1] at kA1
  have kA2 := fun O W => rFAdd x2 (hl P2 d) b O W x2_0 x2_1 h2_0 h2_1
  rw [hA2] at kA2
  have kA3 := fun O W => rFAdd x3 (hl P3 d) b O W x3_0 x3_1 h3_0 h3_1
  rw [hA3] at kA3
  have kU := fun O W => rUnit4 A0 A1 A2 A3 b O W A0_0 A0_1 A1_0 A1_1 A2_0 A2_1 A3_0 A3_1
  simp only [hn] at kU
  clear hn hA0 hA1 hA2 hA3 hP0 hP1 hP2 hP3
  generalize lnok (A0 * A0 + A1 * A1 + A2 * A2 + A3 * A3) = gn at *
  generalize uw A0 n = u0 at *
  generalize uq A1 n = u1 at *
  generalize uq A2 n = u2 at *
  generalize uq A3 n = u3 at *
  generalize uok A0 n = gu0 at *
  generalize uok A1 n = gu1 at *
  generalize uok A2 n = gu2 at *
  generalize uok A3 n = gu3 at *
  generalize fx (x0 + hl P0 d) = ga0 at *
  generalize fx (x1 + hl P1 d) = ga1 at *
  generalize fx (x2 + hl P2 d) = ga2 at *
  generalize fx (x3 + hl P3 d) = ga3 at *
  simp only [hlk]
  generalize hl P0 d = h0 at *
  generalize mlok (ml P0 d) 2147483648 = gc0 at *
  generalize ml P0 d = z0 at *
  generalize mlok P0 d = gb0 at *
  generalize hl P1 d = h1 at *
  generalize mlok (ml P1 d) 2147483648 = gc1 at *
  generalize ml P1 d = z1 at *
  generalize mlok P1 d = gb1 at *
  generalize hl P2 d = h2 at *
  generalize mlok (ml P2 d) 2147483648 = gc2 at *
  generalize ml P2 d = z2 at *
  generalize mlok P2 d = gb2 at *
  generalize hl P3 d = h3 at *
  generalize mlok (ml P3 d) 2147483648 = gc3 at *
  generalize ml P3 d = z3 at *
  generalize mlok P3 d = gb3 at *
  go_enter Try.func26, Try.ntmps26
  go_wp2_with (fail)
  generalize hW : World.alloc _ _ = W1
  have hR : W1.heap[w.heap.size + 1 + 1]? = some (.cells #[.int .i64 0, .int .i64 0, .int .i64 0, .int .i64 0] 24 (0, 0)) := by
    rw [← hW]
    have := row_new ((w.alloc (.cells #[.int .i64 x0, .int .i64 x1, .int .i64 x2, .int .i64 x3] 24)).alloc (.cells #[.int .i64 w0, .int .i64 w1, .int .i64 w2] 26)) (.cells #[.int .i64 0, .int .i64 0, .int .i64 0, .int .i64 0] 24)
    simpa only [World.size_alloc] using this
  have c0 : W1.cell? ⟨w.heap.size, 0, none⟩ = some (.int .i64 x0) := by rw [← hW]; simp [go_sem]
  have c1 : W1.cell? ⟨w.heap.size, 1, none⟩ = some (.int .i64 x1) := by rw [← hW]; simp [go_sem]
  have c2 : W1.cell? ⟨w.heap.size, 2, none⟩ = some (.int .i64 x2) := by rw [← hW]; simp [go_sem]
  have c3 : W1.cell? ⟨w.heap.size, 3, none⟩ = some (.int .i64 x3) := by rw [← hW]; simp [go_sem]
  have HM : Mv b o w W1 := by rw [← hW]; exact ((HM.alloc _).alloc _).alloc _
  clear hW
  (with_reducible refine (mvCall (b := b) (w0 := w) HM (kM _ _)).mono ?_); rintro e w2 ⟨rfl, hM, HM⟩
  have c0 := mv_cell hM (by dsimp only; omega) c0
  have c1 := mv_cell hM (by dsimp only; omega) c1
  have c2 := mv_cell hM (by dsimp only; omega) c2
  have c3 := mv_cell hM (by dsimp only; omega) c3
  have hR := row_mv (g := w.heap.size + 1 + 1) hM hR (by omega)
  have hz2 : w.heap.size + 1 + 1 < w2.heap.size := (Array.getElem?_eq_some_iff.1 hR).1
  clear hM kM
  go_upto_region 2 with (fail)
  generalize hW : World.alloc _ _ = W3
  have c0 : W3.cell? ⟨w.heap.size, 0, none⟩ = some (.int .i64 x0) := by rw [← hW]; exact cell_later ((Below.refl _ _).alloc (Nat.le_refl _) _) c0
  have c1 : W3.cell? ⟨w.heap.size, 1, none⟩ = some (.int .i64 x1) := by rw [← hW]; exact cell_later ((Below.refl _ _).alloc (Nat.le_refl _) _) c1
  have c2 : W3.cell? ⟨w.heap.size, 2, none⟩ = some (.int .i64 x2) := by rw [← hW]; exact cell_later ((Below.refl _ _).alloc (Nat.le_refl _) _) c2
  have c3 : W3.cell? ⟨w.heap.size, 3, none⟩ = some (.int .i64 x3) := by rw [← hW]; exact cell_later ((Below.refl _ _).alloc (Nat.le_refl _) _) c3
  have y0 : W3.cell? ⟨w2.heap.size, 0, none⟩ = some (.int .i64 P0) := by rw [← hW]; simp [go_sem]
  have y1 : W3.cell? ⟨w2.heap.size, 1, none⟩ = some (.int .i64 P1) := by rw [← hW]; simp [go_sem]
  have y2 : W3.cell? ⟨w2.heap.size, 2, none⟩ = some (.int .i64 P2) := by rw [← hW]; simp [go_sem]
  have y3 : W3.cell? ⟨w2.heap.size, 3, none⟩ = some (.int .i64 P3) := by rw [← hW]; simp [go_sem]
  have hR : W3.heap[w.heap.size + 1 + 1]? = some (.cells #[.int .i64 0, .int .i64 0, .int .i64 0, .int .i64 0] 24 (0, 0)) := by rw [← hW]; exact row_later hR ((Below.refl _ _).alloc (Nat.le_refl _) _)
  have HM := (show Mv b _ w W3 from by rw [← hW]; exact HM.alloc _)
  clear hW
  have hbw := HM.size
  (try refine wp_region_noPanic ?_)
  refine wp_region_ssa (S := (fun (w' : World) => w'.cell? ⟨w.heap.size, 0, none⟩ = some (.int .i64 x0) ∧ w'.cell? ⟨w.heap.size, 1, none⟩ = some (.int .i64 x1) ∧ w'.cell? ⟨w.heap.size, 2, none⟩ = some (.int .i64 x2) ∧ w'.cell? ⟨w.heap.size, 3, none⟩ = some (.int .i64 x3) ∧ w'.cell? ⟨w2.heap.size, 0, none⟩ = some (.int .i64 P0) ∧ w'.cell? ⟨w2.heap.size, 1, none⟩ = some (.int .i64 P1) ∧ w'.cell? ⟨w2.heap.size, 2, none⟩ = some (.int .i64 P2) ∧ w'.cell? ⟨w2.heap.size, 3, none⟩ = some (.int .i64 P3))) (#[none, none, none, none, none, none, none, none, none, none, none, none, none, none, none, none, none, none, none, none, some 0, some 1, some 2, some 3, some 4, some 5, some 6, some 7, some 8, some 9, some 10, some 11, some 12, some 13, some 14, some 15, some 16, some 17, some 18, some 19, some 20, some 21, some 22, some 23, some 24, some 25, some 26, some 27, some 28, some 29, some 30, some 31, some 32, some 33, some 34, some 35, some 36, some 37, some 38, some 39, some 40, some 41, some 42, some 43, some 44, some 45, some 46] : Array (Option Nat)) (by kernel_rfl) (by kernel_rfl) (by kernel_rfl) ⟨(by first | (simp (maxDischargeDepth := 6) [go_sem, *]; done)), (by first | (simp (maxDischargeDepth := 6) [go_sem, *]; done)), (by first | (simp (maxDischargeDepth := 6) [go_sem, *]; done)), (by first | (simp (maxDischargeDepth := 6) [go_sem, *]; done)), (by first | (simp (maxDischargeDepth := 6) [go_sem, *]; done)), (by first | (simp (maxDischargeDepth := 6) [go_sem, *]; done)), (by first | (simp (maxDischargeDepth := 6) [go_sem, *]; done)), (by first | (simp (maxDischargeDepth := 6) [go_sem, *]; done))⟩ (fun hSSA hHeld => ?_)
  refine wpAnyH_sl (n := 23) (l' := (#[true, true, true, false, true, true, true, false, true, false, false, false, true, true, false, true, true, true, false, true, false, false, false, true, true, false, true, true, true, false, true, false, false, false, true, true, false, true, true, true, false, true, false, false, false, false, false, false] : Array Bool)) [0, 1, 2, 4, 5, 6, 8, 12, 13, 15, 16, 17, 19, 23, 24, 26, 27, 28, 30, 34, 35, 37, 38, 39, 41] [some 20, some 21, some 22, some 24, some 25, some 26, some 28, some 32, some 33, some 35, some 36, some 37, some 39, some 43, some 44, some 46, some 47, some 48, some 50, some 54, some 55, some 57, some 58, some 59, some 61] hSSA (
    LvY.take (by rfl) (by intro w hSw; (try dsimp only at hSw); go_simp; try with_reducible rfl) <|
    LvY.take (by rfl) (by intro w hSw; (try dsimp only at hSw); go_simp; try with_reducible rfl) <|
    LvY.take (by rfl) (by intro w hSw; (try dsimp only at hSw); go_simp; try with_reducible rfl) <|
    LvY.skip <|
    LvY.take (by rfl) (by intro w hSw; (try dsimp only at hSw); go_simp; try with_reducible rfl) <|
    LvY.take (by rfl) (by intro w hSw; (try dsimp only at hSw); go_simp; try with_reducible rfl) <|
    LvY.take (by rfl) (by intro w hSw; (try dsimp only at hSw); go_simp; try with_reducible rfl) <|
    LvY.skip <|
    LvY.take (by rfl) (by intro w hSw; (try dsimp only at hSw); go_simp; try with_reducible rfl) <|
    LvY.skip <|
    LvY.skip <|
    LvY.skip <|
    LvY.take (by rfl) (by intro w hSw; (try dsimp only at hSw); go_simp; try with_reducible rfl) <|
    LvY.take (by rfl) (by intro w hSw; (try dsimp only at hSw); go_simp; try with_reducible rfl) <|
    LvY.skip <|
    LvY.take (by rfl) (by intro w hSw; (try dsimp only at hSw); go_simp; try with_reducible rfl) <|
    LvY.take (by rfl) (by intro w hSw; (try dsimp only at hSw); go_simp; try with_reducible rfl) <|
    LvY.take (by rfl) (by intro w hSw; (try dsimp only at hSw); go_simp; try with_reducible rfl) <|
    LvY.skip <|
    LvY.take (by rfl) (by intro w hSw; (try dsimp only at hSw); go_simp; try with_reducible rfl) <|
    LvY.skip <|
    LvY.skip <|
    LvY.skip <|
    LvY.take (by rfl) (by intro w hSw; (try dsimp only at hSw); go_simp; try with_reducible rfl) <|
    LvY.take (by rfl) (by intro w hSw; (try dsimp only at hSw); go_simp; try with_reducible rfl) <|
    LvY.skip <|
    LvY.take (by rfl) (by intro w hSw; (try dsimp only at hSw); go_simp; try with_reducible rfl) <|
    LvY.take (by rfl) (by intro w hSw; (try dsimp only at hSw); go_simp; try with_reducible rfl) <|
    LvY.take (by rfl) (by intro w hSw; (try dsimp only at hSw); go_simp; try with_reducible rfl) <|
    LvY.skip <|
    LvY.take (by rfl) (by intro w hSw; (try dsimp only at hSw); go_simp; try with_reducible rfl) <|
    LvY.skip <|
    LvY.skip <|
    LvY.skip <|
    LvY.take (by rfl) (by intro w hSw; (try dsimp only at hSw); go_simp; try with_reducible rfl) <|
    LvY.take (by rfl) (by intro w hSw; (try dsimp only at hSw); go_simp; try with_reducible rfl) <|
    LvY.skip <|
    LvY.take (by rfl) (by intro w hSw; (try dsimp only at hSw); go_simp; try with_reducible rfl) <|
    LvY.take (by rfl) (by intro w hSw; (try dsimp only at hSw); go_simp; try with_reducible rfl) <|
    LvY.take (by rfl) (by intro w hSw; (try dsimp only at hSw); go_simp; try with_reducible rfl) <|
    LvY.skip <|
    LvY.take (by rfl) (by intro w hSw; (try dsimp only at hSw); go_simp; try with_reducible rfl) <|
    LvY.skip <|
    LvY.skip <|
    LvY.skip <|
    LvY.skip <|
    LvY.skip <|
    LvY.skip <|
    LvY.nil) (by rfl) (by rfl) (by kernel_rfl) (fun _ _ _ _ _ h => h) (by kernel_rfl) (by kernel_rfl) (by kernel_rfl) (by assumption) ?_
  simp only [lvVs, putDs, Act.put, List.setIfInBounds_toArray, List.set_cons_zero, List.set_cons_succ]
  refine wpAnyH_sl (n := 15) (l' := (#[true, true, true, true, true, true, true, true, true, false, false, false, true, true, true, true, true, true, true, true, false, false, false, true, true, true, true, true, true, true, true, false, false, false, true, true, true, true, true, true, true, true, false, false, false, false, false, false] : Array Bool)) [3, 7, 14, 18, 25, 29, 36, 40] [some 23, some 27, some 34, some 38, some 45, some 49, some 56, some 60] hSSA (
    LvY.skip <|
    LvY.skip <|
    LvY.skip <|
    LvY.take (by rfl) (by intro w hSw; (try dsimp only at hSw); go_simp; try with_reducible rfl) <|
    LvY.skip <|
    LvY.skip <|
    LvY.skip <|
    LvY.take (by rfl) (by intro w hSw; (try dsimp only at hSw); go_simp; try with_reducible rfl) <|
    LvY.skip <|
    LvY.skip <|
    LvY.skip <|
    LvY.skip <|
    LvY.skip <|
    LvY.skip <|
    LvY.take (by rfl) (by intro w hSw; (try dsimp only at hSw); go_simp; try with_reducible rfl) <|
    LvY.skip <|
    LvY.skip <|
    LvY.skip <|
    LvY.take (by rfl) (by intro w hSw; (try dsimp only at hSw); go_simp; try with_reducible rfl) <|
    LvY.skip <|
    LvY.skip <|
    LvY.skip <|
    LvY.skip <|
    LvY.skip <|
    LvY.skip <|
    LvY.take (by rfl) (by intro w hSw; (try dsimp only at hSw); go_simp; try with_reducible rfl) <|
    LvY.skip <|
    LvY.skip <|
    LvY.skip <|
    LvY.take (by rfl) (by intro w hSw; (try dsimp only at hSw); go_simp; try with_reducible rfl) <|
    LvY.skip <|
    LvY.skip <|
    LvY.skip <|
    LvY.skip <|
    LvY.skip <|
    LvY.skip <|
    LvY.take (by rfl) (by intro w hSw; (try dsimp only at hSw); go_simp; try with_reducible rfl) <|
    LvY.skip <|
    LvY.skip <|
    LvY.skip <|
    LvY.take (by rfl) (by intro w hSw; (try dsimp only at hSw); go_simp; try with_reducible rfl) <|
    LvY.skip <|
    LvY.skip <|
    LvY.skip <|
    LvY.skip <|
    LvY.skip <|
    LvY.skip <|
    LvY.skip <|
    LvY.nil) (by rfl) (by rfl) (by kernel_rfl) (fun _ _ _ _ _ h => h) (by kernel_rfl) (by kernel_rfl) (by kernel_rfl) (by assumption) ?_
  simp only [lvVs, putDs, Act.put, List.setIfInBounds_toArray, List.set_cons_zero, List.set_cons_succ]
  have hOld := hHeld; clear hHeld
  refine wpAnyH_on (i := 9) (n := 14) (l' := (#[true, true, true, true, true, true, true, true, true, true, false, false, true, true, true, true, true, true, true, true, false, false, false, true, true, true, true, true, true, true, true, false, false, false, true, true, true, true, true, true, true, true, false, false, false, false, false, false] : Array Bool)) (by kernel_rfl) (by kernel_rfl) (by kernel_rfl) (by simp only [List.getElem?_toArray, List.getElem?_cons_succ, List.getElem?_cons_zero]; rfl) (by rfl) (fun K hK => ?_)
  go_simp
  (go_at_call 36; (with_reducible refine (mvCall (b := b) (w0 := w) (by (repeat (first | with_reducible assumption | with_reducible exact Mv.refl (by assumption) (by assumption) | with_reducible apply Mv.alloc | with_reducible apply Mv.drew | with_reducible apply Mv.drewN | ((with_reducible apply Mv.setCell); rotate_left; (first | (dsimp only; omega) | omega | (simp; omega)); (first | (dsimp only; omega) | omega | (simp; omega))) | ((with_reducible apply Mv.below); rotate_left; (with_reducible assumption)) | ((with_reducible apply Mv.trans); rotate_left; (with_reducible assumption))))) (kB0 _ _)).mono ?_); rintro e w1 ⟨rfl, hM, HM⟩)
  (try go_wp2_with (fail))
  refine hK.out _ _ ⟨(by first | exact mv_cell hM (by first | (dsimp only; omega) | (simp; omega)) hOld.1 | exact cell_later hM hOld.1 | exact HT.cb | exact HT.cc | (simp (maxDischargeDepth := 6) [go_sem, *]; done)), (by first | exact mv_cell hM (by first | (dsimp only; omega) | (simp; omega)) hOld.2.1 | exact cell_later hM hOld.2.1 | exact HT.cb | exact HT.cc | (simp (maxDischargeDepth := 6) [go_sem, *]; done)), (by first | exact mv_cell hM (by first | (dsimp only; omega) | (simp; omega)) hOld.2.2.1 | exact cell_later hM hOld.2.2.1 | exact HT.cb | exact HT.cc | (simp (maxDischargeDepth := 6) [go_sem, *]; done)), (by first | exact mv_cell hM (by first | (dsimp only; omega) | (simp; omega)) hOld.2.2.2.1 | exact cell_later hM hOld.2.2.2.1 | exact HT.cb | exact HT.cc | (simp (maxDischargeDepth := 6) [go_sem, *]; done)), (by first | exact mv_cell hM (by first | (dsimp only; omega) | (simp; omega)) hOld.2.2.2.2.1 | exact cell_later hM hOld.2.2.2.2.1 | exact HT.cb | exact HT.cc | (simp (maxDischargeDepth := 6) [go_sem, *]; done)), (by first | exact mv_cell hM (by first | (dsimp only; omega) | (simp; omega)) hOld.2.2.2.2.2.1 | exact cell_later hM hOld.2.2.2.2.2.1 | exact HT.cb | exact HT.cc | (simp (maxDischargeDepth := 6) [go_sem, *]; done)), (by first | exact mv_cell hM (by first | (dsimp only; omega) | (simp; omega)) hOld.2.2.2.2.2.2.1 | exact cell_later hM hOld.2.2.2.2.2.2.1 | exact HT.cb | exact HT.cc | (simp (maxDischargeDepth := 6) [go_sem, *]; done)), (by first | exact mv_cell hM (by first | (dsimp only; omega) | (simp; omega)) hOld.2.2.2.2.2.2.2 | exact cell_later hM hOld.2.2.2.2.2.2.2 | exact HT.cb | exact HT.cc | (simp (maxDischargeDepth := 6) [go_sem, *]; done))⟩ (fun hHeld => ?_)
  clear hK K hOld
  try simp only [Act.put, List.setIfInBounds_toArray, List.set_cons_zero, List.set_cons_succ]
  have hR := row_mv (g := w.heap.size + 1 + 1) hM hR (by omega); clear hM
  have hOld := hHeld; clear hHeld
  refine wpAnyH_on (i := 10) (n := 13) (l' := (#[true, true, true, true, true, true, true, true, true, true, true, false, true, true, true, true, true, true, true, true, false, false, false, true, true, true, true, true, true, true, true, false, false, false, true, true, true, true, true, true, true, true, false, false, false, false, false, false] : Array Bool)) (by kernel_rfl) (by kernel_rfl) (by kernel_rfl) (by simp only [List.getElem?_toArray, List.getElem?_cons_succ, List.getElem?_cons_zero]; rfl) (by rfl) (fun K hK => ?_)
  go_simp
  (go_at_call 36; (with_reducible refine (mvCall (b := b) (w0 := w) (by (repeat (first | with_reducible assumption | with_reducible exact Mv.refl (by assumption) (by assumption) | with_reducible apply Mv.alloc | with_reducible apply Mv.drew | with_reducible apply Mv.drewN | ((with_reducible apply Mv.setCell); rotate_left; (first | (dsimp only; omega) | omega | (simp; omega)); (first | (dsimp only; omega) | omega | (simp; omega))) | ((with_reducible apply Mv.below); rotate_left; (with_reducible assumption)) | ((with_reducible apply Mv.trans); rotate_left; (with_reducible assumption))))) (kC0 _ _)).mono ?_); rintro e w1 ⟨rfl, hM, HM⟩)
  (try go_wp2_with (fail))
  refine hK.out _ _ ⟨(by first | exact mv_cell hM (by first | (dsimp only; omega) | (simp; omega)) hOld.1 | exact cell_later hM hOld.1 | exact HT.cb | exact HT.cc | (simp (maxDischargeDepth := 6) [go_sem, *]; done)), (by first | exact mv_cell hM (by first | (dsimp only; omega) | (simp; omega)) hOld.2.1 | exact cell_later hM hOld.2.1 | exact HT.cb | exact HT.cc | (simp (maxDischargeDepth := 6) [go_sem, *]; done)), (by first | exact mv_cell hM (by first | (dsimp only; omega) | (simp; omega)) hOld.2.2.1 | exact cell_later hM hOld.2.2.1 | exact HT.cb | exact HT.cc | (simp (maxDischargeDepth := 6) [go_sem, *]; done)), (by first | exact mv_cell hM (by first | (dsimp only; omega) | (simp; omega)) hOld.2.2.2.1 | exact cell_later hM hOld.2.2.2.1 | exact HT.cb | exact HT.cc | (simp (maxDischargeDepth := 6) [go_sem, *]; done)), (by first | exact mv_cell hM (by first | (dsimp only; omega) | (simp; omega)) hOld.2.2.2.2.1 | exact cell_later hM hOld.2.2.2.2.1 | exact HT.cb | exact HT.cc | (simp (maxDischargeDepth := 6) [go_sem, *]; done)), (by first | exact mv_cell hM (by first | (dsimp only; omega) | (simp; omega)) hOld.2.2.2.2.2.1 | exact cell_later hM hOld.2.2.2.2.2.1 | exact HT.cb | exact HT.cc | (simp (maxDischargeDepth := 6) [go_sem, *]; done)), (by first | exact mv_cell hM (by first | (dsimp only; omega) | (simp; omega)) hOld.2.2.2.2.2.2.1 | exact cell_later hM hOld.2.2.2.2.2.2.1 | exact HT.cb | exact HT.cc | (simp (maxDischargeDepth := 6) [go_sem, *]; done)), (by first | exact mv_cell hM (by first | (dsimp only; omega) | (simp; omega)) hOld.2.2.2.2.2.2.2 | exact cell_later hM hOld.2.2.2.2.2.2.2 | exact HT.cb | exact HT.cc | (simp (maxDischargeDepth := 6) [go_sem, *]; done))⟩ (fun hHeld => ?_)
  clear hK K hOld
  try simp only [Act.put, List.setIfInBounds_toArray, List.set_cons_zero, List.set_cons_succ]
  have hR := row_mv (g := w.heap.size + 1 + 1) hM hR (by omega); clear hM
  have hOld := hHeld; clear hHeld
  refine wpAnyH_on (i := 11) (n := 12) (l' := (#[true, true, true, true, true, true, true, true, true, true, true, true, true, true, true, true, true, true, true, true, false, false, false, true, true, true, true, true, true, true, true, false, false, false, true, true, true, true, true, true, true, true, false, false, false, false, false, false] : Array Bool)) (by kernel_rfl) (by kernel_rfl) (by kernel_rfl) (by simp only [List.getElem?_toArray, List.getElem?_cons_succ, List.getElem?_cons_zero]; rfl) (by rfl) (fun K hK => ?_)
  go_simp
  (go_at_call 37; (with_reducible refine (mvCall (b := b) (w0 := w) (by (repeat (first | with_reducible assumption | with_reducible exact Mv.refl (by assumption) (by assumption) | with_reducible apply Mv.alloc | with_reducible apply Mv.drew | with_reducible apply Mv.drewN | ((with_reducible apply Mv.setCell); rotate_left; (first | (dsimp only; omega) | omega | (simp; omega)); (first | (dsimp only; omega) | omega | (simp; omega))) | ((with_reducible apply Mv.below); rotate_left; (with_reducible assumption)) | ((with_reducible apply Mv.trans); rotate_left; (with_reducible assumption))))) (kA0 _ _)).mono ?_); rintro e w1 ⟨rfl, hM, HM⟩)
  (try go_wp2_with (fail))
  refine hK.out _ _ ⟨(by first | exact mv_cell hM (by first | (dsimp only; omega) | (simp; omega)) hOld.1 | exact cell_later hM hOld.1 | exact HT.cb | exact HT.cc | (simp (maxDischargeDepth := 6) [go_sem, *]; done)), (by first | exact mv_cell hM (by first | (dsimp only; omega) | (simp; omega)) hOld.2.1 | exact cell_later hM hOld.2.1 | exact HT.cb | exact HT.cc | (simp (maxDischargeDepth := 6) [go_sem, *]; done)), (by first | exact mv_cell hM (by first | (dsimp only; omega) | (simp; omega)) hOld.2.2.1 | exact cell_later hM hOld.2.2.1 | exact HT.cb | exact HT.cc | (simp (maxDischargeDepth := 6) [go_sem, *]; done)), (by first | exact mv_cell hM (by first | (dsimp only; omega) | (simp; omega)) hOld.2.2.2.1 | exact cell_later hM hOld.2.2.2.1 | exact HT.cb | exact HT.cc | (simp (maxDischargeDepth := 6) [go_sem, *]; done)), (by first | exact mv_cell hM (by first | (dsimp only; omega) | (simp; omega)) hOld.2.2.2.2.1 | exact cell_later hM hOld.2.2.2.2.1 | exact HT.cb | exact HT.cc | (simp (maxDischargeDepth := 6) [go_sem, *]; done)), (by first | exact mv_cell hM (by first | (dsimp only; omega) | (simp; omega)) hOld.2.2.2.2.2.1 | exact cell_later hM hOld.2.2.2.2.2.1 | exact HT.cb | exact HT.cc | (simp (maxDischargeDepth := 6) [go_sem, *]; done)), (by first | exact mv_cell hM (by first | (dsimp only; omega) | (simp; omega)) hOld.2.2.2.2.2.2.1 | exact cell_later hM hOld.2.2.2.2.2.2.1 | exact HT.cb | exact HT.cc | (simp (maxDischargeDepth := 6) [go_sem, *]; done)), (by first | exact mv_cell hM (by first | (dsimp only; omega) | (simp; omega)) hOld.2.2.2.2.2.2.2 | exact cell_later hM hOld.2.2.2.2.2.2.2 | exact HT.cb | exact HT.cc | (simp (maxDischargeDepth := 6) [go_sem, *]; done))⟩ (fun hHeld => ?_)
  clear hK K hOld
  try simp only [Act.put, List.setIfInBounds_toArray, List.set_cons_zero, List.set_cons_succ]
  have hR := row_mv (g := w.heap.size + 1 + 1) hM hR (by omega); clear hM
  have hOld := hHeld; clear hHeld
  refine wpAnyH_on (i := 20) (n := 11) (l' := (#[true, true, true, true, true, true, true, true, true, true, true, true, true, true, true, true, true, true, true, true, true, false, false, true, true, true, true, true, true, true, true, false, false, false, true, true, true, true, true, true, true, true, false, false, false, false, false, false] : Array Bool)) (by kernel_rfl) (by kernel_rfl) (by kernel_rfl) (by simp only [List.getElem?_toArray, List.getElem?_cons_succ, List.getElem?_cons_zero]; rfl) (by rfl) (fun K hK => ?_)
  go_simp
  (go_at_call 36; (with_reducible refine (mvCall (b := b) (w0 := w) (by (repeat (first | with_reducible assumption | with_reducible exact Mv.refl (by assumption) (by assumption) | with_reducible apply Mv.alloc | with_reducible apply Mv.drew | with_reducible apply Mv.drewN | ((with_reducible apply Mv.setCell); rotate_left; (first | (dsimp only; omega) | omega | (simp; omega)); (first | (dsimp only; omega) | omega | (simp; omega))) | ((with_reducible apply Mv.below); rotate_left; (with_reducible assumption)) | ((with_reducible apply Mv.trans); rotate_left; (with_reducible assumption))))) (kB1 _ _)).mono ?_); rintro e w1 ⟨rfl, hM, HM⟩)
  (try go_wp2_with (fail))
  refine hK.out _ _ ⟨(by first | exact mv_cell hM (by first | (dsimp only; omega) | (simp; omega)) hOld.1 | exact cell_later hM hOld.1 | exact HT.cb | exact HT.cc | (simp (maxDischargeDepth := 6) [go_sem, *]; done)), (by first | exact mv_cell hM (by first | (dsimp only; omega) | (simp; omega)) hOld.2.1 | exact cell_later hM hOld.2.1 | exact HT.cb | exact HT.cc | (simp (maxDischargeDepth := 6) [go_sem, *]; done)), (by first | exact mv_cell hM (by first | (dsimp only; omega) | (simp; omega)) hOld.2.2.1 | exact cell_later hM hOld.2.2.1 | exact HT.cb | exact HT.cc | (simp (maxDischargeDepth := 6) [go_sem, *]; done)), (by first | exact mv_cell hM (by first | (dsimp only; omega) | (simp; omega)) hOld.2.2.2.1 | exact cell_later hM hOld.2.2.2.1 | exact HT.cb | exact HT.cc | (simp (maxDischargeDepth := 6) [go_sem, *]; done)), (by first | exact mv_cell hM (by first | (dsimp only; omega) | (simp; omega)) hOld.2.2.2.2.1 | exact cell_later hM hOld.2.2.2.2.1 | exact HT.cb | exact HT.cc | (simp (maxDischargeDepth := 6) [go_sem, *]; done)), (by first | exact mv_cell hM (by first | (dsimp only; omega) | (simp; omega)) hOld.2.2.2.2.2.1 | exact cell_later hM hOld.2.2.2.2.2.1 | exact HT.cb | exact HT.cc | (simp (maxDischargeDepth := 6) [go_sem, *]; done)), (by first | exact mv_cell hM (by first | (dsimp only; omega) | (simp; omega)) hOld.2.2.2.2.2.2.1 | exact cell_later hM hOld.2.2.2.2.2.2.1 | exact HT.cb | exact HT.cc | (simp (maxDischargeDepth := 6) [go_sem, *]; done)), (by first | exact mv_cell hM (by first | (dsimp only; omega) | (simp; omega)) hOld.2.2.2.2.2.2.2 | exact cell_later hM hOld.2.2.2.2.2.2.2 | exact HT.cb | exact HT.cc | (simp (maxDischargeDepth := 6) [go_sem, *]; done))⟩ (fun hHeld => ?_)
  clear hK K hOld
  try simp only [Act.put, List.setIfInBounds_toArray, List.set_cons_zero, List.set_cons_succ]
  have hR := row_mv (g := w.heap.size + 1 + 1) hM hR (by omega); clear hM
  have hOld := hHeld; clear hHeld
  refine wpAnyH_on (i := 21) (n := 10) (l' := (#[true, true, true, true, true, true, true, true, true, true, true, true, true, true, true, true, true, true, true, true, true, true, false, true, true, true, true, true, true, true, true, false, false, false, true, true, true, true, true, true, true, true, false, false, false, false, false, false] : Array Bool)) (by kernel_rfl) (by kernel_rfl) (by kernel_rfl) (by simp only [List.getElem?_toArray, List.getElem?_cons_succ, List.getElem?_cons_zero]; rfl) (by rfl) (fun K hK => ?_)
  go_simp
  (go_at_call 36; (with_reducible refine (mvCall (b := b) (w0 := w) (by (repeat (first | with_reducible assumption | with_reducible exact Mv.refl (by assumption) (by assumption) | with_reducible apply Mv.alloc | with_reducible apply Mv.drew | with_reducible apply Mv.drewN | ((with_reducible apply Mv.setCell); rotate_left; (first | (dsimp only; omega) | omega | (simp; omega)); (first | (dsimp only; omega) | omega | (simp; omega))) | ((with_reducible apply Mv.below); rotate_left; (with_reducible assumption)) | ((with_reducible apply Mv.trans); rotate_left; (with_reducible assumption))))) (kC1 _ _)).mono ?_); rintro e w1 ⟨rfl, hM, HM⟩)
  (try go_wp2_with (fail))
  refine hK.out _ _ ⟨(by first | exact mv_cell hM (by first | (dsimp only; omega) | (simp; omega)) hOld.1 | exact cell_later hM hOld.1 | exact HT.cb | exact HT.cc | (simp (maxDischargeDepth := 6) [go_sem, *]; done)), (by first | exact mv_cell hM (by first | (dsimp only; omega) | (simp; omega)) hOld.2.1 | exact cell_later hM hOld.2.1 | exact HT.cb | exact HT.cc | (simp (maxDischargeDepth := 6) [go_sem, *]; done)), (by first | exact mv_cell hM (by first | (dsimp only; omega) | (simp; omega)) hOld.2.2.1 | exact cell_later hM hOld.2.2.1 | exact HT.cb | exact HT.cc | (simp (maxDischargeDepth := 6) [go_sem, *]; done)), (by first | exact mv_cell hM (by first | (dsimp only; omega) | (simp; omega)) hOld.2.2.2.1 | exact cell_later hM hOld.2.2.2.1 | exact HT.cb | exact HT.cc | (simp (maxDischargeDepth := 6) [go_sem, *]; done)), (by first | exact mv_cell hM (by first | (dsimp only; omega) | (simp; omega)) hOld.2.2.2.2.1 | exact cell_later hM hOld.2.2.2.2.1 | exact HT.cb | exact HT.cc | (simp (maxDischargeDepth := 6) [go_sem, *]; done)), (by first | exact mv_cell hM (by first | (dsimp only; omega) | (simp; omega)) hOld.2.2.2.2.2.1 | exact cell_later hM hOld.2.2.2.2.2.1 | exact HT.cb | exact HT.cc | (simp (maxDischargeDepth := 6) [go_sem, *]; done)), (by first | exact mv_cell hM (by first | (dsimp only; omega) | (simp; omega)) hOld.2.2.2.2.2.2.1 | exact cell_later hM hOld.2.2.2.2.2.2.1 | exact HT.cb | exact HT.cc | (simp (maxDischargeDepth := 6) [go_sem, *]; done)), (by first | exact mv_cell hM (by first | (dsimp only; omega) | (simp; omega)) hOld.2.2.2.2.2.2.2 | exact cell_later hM hOld.2.2.2.2.2.2.2 | exact HT.cb | exact HT.cc | (simp (maxDischargeDepth := 6) [go_sem, *]; done))⟩ (fun hHeld => ?_)
  clear hK K hOld
  try simp only [Act.put, List.setIfInBounds_toArray, List.set_cons_zero, List.set_cons_succ]
  have hR := row_mv (g := w.heap.size + 1 + 1) hM hR (by omega); clear hM
  have hOld := hHeld; clear hHeld
  refine wpAnyH_on (i := 22) (n := 9) (l' := (#[true, true, true, true, true, true, true, true, true, true, true, true, true, true, true, true, true, true, true, true, true, true, true, true, true, true, true, true, true, true, true, false, false, false, true, true, true, true, true, true, true, true, false, false, false, false, false, false] : Array Bool)) (by kernel_rfl) (by kernel_rfl) (by kernel_rfl) (by simp only [List.getElem?_toArray, List.getElem?_cons_succ, List.getElem?_cons_zero]; rfl) (by rfl) (fun K hK => ?_)
  go_simp
  (go_at_call 37; (with_reducible refine (mvCall (b := b) (w0 := w) (by (repeat (first | with_reducible assumption | with_reducible exact Mv.refl (by assumption) (by assumption) | with_reducible apply Mv.alloc | with_reducible apply Mv.drew | with_reducible apply Mv.drewN | ((with_reducible apply Mv.setCell); rotate_left; (first | (dsimp only; omega) | omega | (simp; omega)); (first | (dsimp only; omega) | omega | (simp; omega))) | ((with_reducible apply Mv.below); rotate_left; (with_reducible assumption)) | ((with_reducible apply Mv.trans); rotate_left; (with_reducible assumption))))) (kA1 _ _)).mono ?_); rintro e w1 ⟨rfl, hM, HM⟩)
  (try go_wp2_with (fail))
  refine hK.out _ _ ⟨(by first | exact mv_cell hM (by first | (dsimp only; omega) | (simp; omega)) hOld.1 | exact cell_later hM hOld.1 | exact HT.cb | exact HT.cc | (simp (maxDischargeDepth := 6) [go_sem, *]; done)), (by first | exact mv_cell hM (by first | (dsimp only; omega) | (simp; omega)) hOld.2.1 | exact cell_later hM hOld.2.1 | exact HT.cb | exact HT.cc | (simp (maxDischargeDepth := 6) [go_sem, *]; done)), (by first | exact mv_cell hM (by first | (dsimp only; omega) | (simp; omega)) hOld.2.2.1 | exact cell_later hM hOld.2.2.1 | exact HT.cb | exact HT.cc | (simp (maxDischargeDepth := 6) [go_sem, *]; done)), (by first | exact mv_cell hM (by first | (dsimp only; omega) | (simp; omega)) hOld.2.2.2.1 | exact cell_later hM hOld.2.2.2.1 | exact HT.cb | exact HT.cc | (simp (maxDischargeDepth := 6) [go_sem, *]; done)), (by first | exact mv_cell hM (by first | (dsimp only; omega) | (simp; omega)) hOld.2.2.2.2.1 | exact cell_later hM hOld.2.2.2.2.1 | exact HT.cb | exact HT.cc | (simp (maxDischargeDepth := 6) [go_sem, *]; done)), (by first | exact mv_cell hM (by first | (dsimp only; omega) | (simp; omega)) hOld.2.2.2.2.2.1 | exact cell_later hM hOld.2.2.2.2.2.1 | exact HT.cb | exact HT.cc | (simp (maxDischargeDepth := 6) [go_sem, *]; done)), (by first | exact mv_cell hM (by first | (dsimp only; omega) | (simp; omega)) hOld.2.2.2.2.2.2.1 | exact cell_later hM hOld.2.2.2.2.2.2.1 | exact HT.cb | exact HT.cc | (simp (maxDischargeDepth := 6) [go_sem, *]; done)), (by first | exact mv_cell hM (by first | (dsimp only; omega) | (simp; omega)) hOld.2.2.2.2.2.2.2 | exact cell_later hM hOld.2.2.2.2.2.2.2 | exact HT.cb | exact HT.cc | (simp (maxDischargeDepth := 6) [go_sem, *]; done))⟩ (fun hHeld => ?_)
  clear hK K hOld
  try simp only [Act.put, List.setIfInBounds_toArray, List.set_cons_zero, List.set_cons_succ]
  have hR := row_mv (g := w.heap.size + 1 + 1) hM hR (by omega); clear hM
  have hOld := hHeld; clear hHeld
  refine wpAnyH_on (i := 31) (n := 8) (l' := (#[true, true, true, true, true, true, true, true, true, true, true, true, true, true, true, true, true, true, true, true, true, true, true, true, true, true, true, true, true, true, true, true, false, false, true, true, true, true, true, true, true, true, false, false, false, false, false, false] : Array Bool)) (by kernel_rfl) (by kernel_rfl) (by kernel_rfl) (by simp only [List.getElem?_toArray, List.getElem?_cons_succ, List.getElem?_cons_zero]; rfl) (by rfl) (fun K hK => ?_)
  go_simp
  (go_at_call 36; (with_reducible refine (mvCall (b := b) (w0 := w) (by (repeat (first | with_reducible assumption | with_reducible exact Mv.refl (by assumption) (by assumption) | with_reducible apply Mv.alloc | with_reducible apply Mv.drew | with_reducible apply Mv.drewN | ((with_reducible apply Mv.setCell); rotate_left; (first | (dsimp only; omega) | omega | (simp; omega)); (first | (dsimp only; omega) | omega | (simp; omega))) | ((with_reducible apply Mv.below); rotate_left; (with_reducible assumption)) | ((with_reducible apply Mv.trans); rotate_left; (with_reducible assumption))))) (kB2 _ _)).mono ?_); rintro e w1 ⟨rfl, hM, HM⟩)
  (try go_wp2_with (fail))
  refine hK.out _ _ ⟨(by first | exact mv_cell hM (by first | (dsimp only; omega) | (simp; omega)) hOld.1 | exact cell_later hM hOld.1 | exact HT.cb | exact HT.cc | (simp (maxDischargeDepth := 6) [go_sem, *]; done)), (by first | exact mv_cell hM (by first | (dsimp only; omega) | (simp; omega)) hOld.2.1 | exact cell_later hM hOld.2.1 | exact HT.cb | exact HT.cc | (simp (maxDischargeDepth := 6) [go_sem, *]; done)), (by first | exact mv_cell hM (by first | (dsimp only; omega) | (simp; omega)) hOld.2.2.1 | exact cell_later hM hOld.2.2.1 | exact HT.cb | exact HT.cc | (simp (maxDischargeDepth := 6) [go_sem, *]; done)), (by first | exact mv_cell hM (by first | (dsimp only; omega) | (simp; omega)) hOld.2.2.2.1 | exact cell_later hM hOld.2.2.2.1 | exact HT.cb | exact HT.cc | (simp (maxDischargeDepth := 6) [go_sem, *]; done)), (by first | exact mv_cell hM (by first | (dsimp only; omega) | (simp; omega)) hOld.2.2.2.2.1 | exact cell_later hM hOld.2.2.2.2.1 | exact HT.cb | exact HT.cc | (simp (maxDischargeDepth := 6) [go_sem, *]; done)), (by first | exact mv_cell hM (by first | (dsimp only; omega) | (simp; omega)) hOld.2.2.2.2.2.1 | exact cell_later hM hOld.2.2.2.2.2.1 | exact HT.cb | exact HT.cc | (simp (maxDischargeDepth := 6) [go_sem, *]; done)), (by first | exact mv_cell hM (by first | (dsimp only; omega) | (simp; omega)) hOld.2.2.2.2.2.2.1 | exact cell_later hM hOld.2.2.2.2.2.2.1 | exact HT.cb | exact HT.cc | (simp (maxDischargeDepth := 6) [go_sem, *]; done)), (by first | exact mv_cell hM (by first | (dsimp only; omega) | (simp; omega)) hOld.2.2.2.2.2.2.2 | exact cell_later hM hOld.2.2.2.2.2.2.2 | exact HT.cb | exact HT.cc | (simp (maxDischargeDepth := 6) [go_sem, *]; done))⟩ (fun hHeld => ?_)
  clear hK K hOld
  try simp only [Act.put, List.setIfInBounds_toArray, List.set_cons_zero, List.set_cons_succ]
  have hR := row_mv (g := w.heap.size + 1 + 1) hM hR (by omega); clear hM
  have hOld := hHeld; clear hHeld
  refine wpAnyH_on (i := 32) (n := 7) (l' := (#[true, true, true, true, true, true, true, true, true, true, true, true, true, true, true, true, true, true, true, true, true, true, true, true, true, true, true, true, true, true, true, true, true, false, true, true, true, true, true, true, true, true, false, false, false, false, false, false] : Array Bool)) (by kernel_rfl) (by kernel_rfl) (by kernel_rfl) (by simp only [List.getElem?_toArray, List.getElem?_cons_succ, List.getElem?_cons_zero]; rfl) (by rfl) (fun K hK => ?_)
  go_simp
  (go_at_call 36; (with_reducible refine (mvCall (b := b) (w0 := w) (by (repeat (first | with_reducible assumption | with_reducible exact Mv.refl (by assumption) (by assumption) | with_reducible apply Mv.alloc | with_reducible apply Mv.drew | with_reducible apply Mv.drewN | ((with_reducible apply Mv.setCell); rotate_left; (first | (dsimp only; omega) | omega | (simp; omega)); (first | (dsimp only; omega) | omega | (simp; omega))) | ((with_reducible apply Mv.below); rotate_left; (with_reducible assumption)) | ((with_reducible apply Mv.trans); rotate_left; (with_reducible assumption))))) (kC2 _ _)).mono ?_); rintro e w1 ⟨rfl, hM, HM⟩)
  (try go_wp2_with (fail))
  refine hK.out _ _ ⟨(by first | exact mv_cell hM (by first | (dsimp only; omega) | (simp; omega)) hOld.1 | exact cell_later hM hOld.1 | exact HT.cb | exact HT.cc | (simp (maxDischargeDepth := 6) [go_sem, *]; done)), (by first | exact mv_cell hM (by first | (dsimp only; omega) | (simp; omega)) hOld.2.1 | exact cell_later hM hOld.2.1 | exact HT.cb | exact HT.cc | (simp (maxDischargeDepth := 6) [go_sem, *]; done)), (by first | exact mv_cell hM (by first | (dsimp only; omega) | (simp; omega)) hOld.2.2.1 | exact cell_later hM hOld.2.2.1 | exact HT.cb | exact HT.cc | (simp (maxDischargeDepth := 6) [go_sem, *]; done)), (by first | exact mv_cell hM (by first | (dsimp only; omega) | (simp; omega)) hOld.2.2.2.1 | exact cell_later hM hOld.2.2.2.1 | exact HT.cb | exact HT.cc | (simp (maxDischargeDepth := 6) [go_sem, *]; done)), (by first | exact mv_cell hM (by first | (dsimp only; omega) | (simp; omega)) hOld.2.2.2.2.1 | exact cell_later hM hOld.2.2.2.2.1 | exact HT.cb | exact HT.cc | (simp (maxDischargeDepth := 6) [go_sem, *]; done)), (by first | exact mv_cell hM (by first | (dsimp only; omega) | (simp; omega)) hOld.2.2.2.2.2.1 | exact cell_later hM hOld.2.2.2.2.2.1 | exact HT.cb | exact HT.cc | (simp (maxDischargeDepth := 6) [go_sem, *]; done)), (by first | exact mv_cell hM (by first | (dsimp only; omega) | (simp; omega)) hOld.2.2.2.2.2.2.1 | exact cell_later hM hOld.2.2.2.2.2.2.1 | exact HT.cb | exact HT.cc | (simp (maxDischargeDepth := 6) [go_sem, *]; done)), (by first | exact mv_cell hM (by first | (dsimp only; omega) | (simp; omega)) hOld.2.2.2.2.2.2.2 | exact cell_later hM hOld.2.2.2.2.2.2.2 | exact HT.cb | exact HT.cc | (simp (maxDischargeDepth := 6) [go_sem, *]; done))⟩ (fun hHeld => ?_)
  clear hK K hOld
  try simp only [Act.put, List.setIfInBounds_toArray, List.set_cons_zero, List.set_cons_succ]
  have hR := row_mv (g := w.heap.size + 1 + 1) hM hR (by omega); clear hM
  have hOld := hHeld; clear hHeld
  refine wpAnyH_on (i := 33) (n := 6) (l' := (#[true, true, true, true, true, true, true, true, true, true, true, true, true, true, true, true, true, true, true, true, true, true, true, true, true, true, true, true, true, true, true, true, true, true, true, true, true, true, true, true, true, true, false, false, false, false, false, false] : Array Bool)) (by kernel_rfl) (by kernel_rfl) (by kernel_rfl) (by simp only [List.getElem?_toArray, List.getElem?_cons_succ, List.getElem?_cons_zero]; rfl) (by rfl) (fun K hK => ?_)
  go_simp
  (go_at_call 37; (with_reducible refine (mvCall (b := b) (w0 := w) (by (repeat (first | with_reducible assumption | with_reducible exact Mv.refl (by assumption) (by assumption) | with_reducible apply Mv.alloc | with_reducible apply Mv.drew | with_reducible apply Mv.drewN | ((with_reducible apply Mv.setCell); rotate_left; (first | (dsimp only; omega) | omega | (simp; omega)); (first | (dsimp only; omega) | omega | (simp; omega))) | ((with_reducible apply Mv.below); rotate_left; (with_reducible assumption)) | ((with_reducible apply Mv.trans); rotate_left; (with_reducible assumption))))) (kA2 _ _)).mono ?_); rintro e w1 ⟨rfl, hM, HM⟩)
  (try go_wp2_with (fail))
  refine hK.out _ _ ⟨(by first | exact mv_cell hM (by first | (dsimp only; omega) | (simp; omega)) hOld.1 | exact cell_later hM hOld.1 | exact HT.cb | exact HT.cc | (simp (maxDischargeDepth := 6) [go_sem, *]; done)), (by first | exact mv_cell hM (by first | (dsimp only; omega) | (simp; omega)) hOld.2.1 | exact cell_later hM hOld.2.1 | exact HT.cb | exact HT.cc | (simp (maxDischargeDepth := 6) [go_sem, *]; done)), (by first | exact mv_cell hM (by first | (dsimp only; omega) | (simp; omega)) hOld.2.2.1 | exact cell_later hM hOld.2.2.1 | exact HT.cb | exact HT.cc | (simp (maxDischargeDepth := 6) [go_sem, *]; done)), (by first | exact mv_cell hM (by first | (dsimp only; omega) | (simp; omega)) hOld.2.2.2.1 | exact cell_later hM hOld.2.2.2.1 | exact HT.cb | exact HT.cc | (simp (maxDischargeDepth := 6) [go_sem, *]; done)), (by first | exact mv_cell hM (by first | (dsimp only; omega) | (simp; omega)) hOld.2.2.2.2.1 | exact cell_later hM hOld.2.2.2.2.1 | exact HT.cb | exact HT.cc | (simp (maxDischargeDepth := 6) [go_sem, *]; done)), (by first | exact mv_cell hM (by first | (dsimp only; omega) | (simp; omega)) hOld.2.2.2.2.2.1 | exact cell_later hM hOld.2.2.2.2.2.1 | exact HT.cb | exact HT.cc | (simp (maxDischargeDepth := 6) [go_sem, *]; done)), (by first | exact mv_cell hM (by first | (dsimp only; omega) | (simp; omega)) hOld.2.2.2.2.2.2.1 | exact cell_later hM hOld.2.2.2.2.2.2.1 | exact HT.cb | exact HT.cc | (simp (maxDischargeDepth := 6) [go_sem, *]; done)), (by first | exact mv_cell hM (by first | (dsimp only; omega) | (simp; omega)) hOld.2.2.2.2.2.2.2 | exact cell_later hM hOld.2.2.2.2.2.2.2 | exact HT.cb | exact HT.cc | (simp (maxDischargeDepth := 6) [go_sem, *]; done))⟩ (fun hHeld => ?_)
  clear hK K hOld
  try simp only [Act.put, List.setIfInBounds_toArray, List.set_cons_zero, List.set_cons_succ]
  have hR := row_mv (g := w.heap.size + 1 + 1) hM hR (by omega); clear hM
  have hOld := hHeld; clear hHeld
  refine wpAnyH_on (i := 42) (n := 5) (l' := (#[true, true, true, true, true, true, true, true, true, true, true, true, true, true, true, true, true, true, true, true, true, true, true, true, true, true, true, true, true, true, true, true, true, true, true, true, true, true, true, true, true, true, true, false, false, false, false, false] : Array Bool)) (by kernel_rfl) (by kernel_rfl) (by kernel_rfl) (by simp only [List.getElem?_toArray, List.getElem?_cons_succ, List.getElem?_cons_zero]; rfl) (by rfl) (fun K hK => ?_)
  go_simp
  (go_at_call 36; (with_reducible refine (mvCall (b := b) (w0 := w) (by (repeat (first | with_reducible assumption | with_reducible exact Mv.refl (by assumption) (by assumption) | with_reducible apply Mv.alloc | with_reducible apply Mv.drew | with_reducible apply Mv.drewN | ((with_reducible apply Mv.setCell); rotate_left; (first | (dsimp only; omega) | omega | (simp; omega)); (first | (dsimp only; omega) | omega | (simp; omega))) | ((with_reducible apply Mv.below); rotate_left; (with_reducible assumption)) | ((with_reducible apply Mv.trans); rotate_left; (with_reducible assumption))))) (kB3 _ _)).mono ?_); rintro e w1 ⟨rfl, hM, HM⟩)
  (try go_wp2_with (fail))
  refine hK.out _ _ ⟨(by first | exact mv_cell hM (by first | (dsimp only; omega) | (simp; omega)) hOld.1 | exact cell_later hM hOld.1 | exact HT.cb | exact HT.cc | (simp (maxDischargeDepth := 6) [go_sem, *]; done)), (by first | exact mv_cell hM (by first | (dsimp only; omega) | (simp; omega)) hOld.2.1 | exact cell_later hM hOld.2.1 | exact HT.cb | exact HT.cc | (simp (maxDischargeDepth := 6) [go_sem, *]; done)), (by first | exact mv_cell hM (by first | (dsimp only; omega) | (simp; omega)) hOld.2.2.1 | exact cell_later hM hOld.2.2.1 | exact HT.cb | exact HT.cc | (simp (maxDischargeDepth := 6) [go_sem, *]; done)), (by first | exact mv_cell hM (by first | (dsimp only; omega) | (simp; omega)) hOld.2.2.2.1 | exact cell_later hM hOld.2.2.2.1 | exact HT.cb | exact HT.cc | (simp (maxDischargeDepth := 6) [go_sem, *]; done)), (by first | exact mv_cell hM (by first | (dsimp only; omega) | (simp; omega)) hOld.2.2.2.2.1 | exact cell_later hM hOld.2.2.2.2.1 | exact HT.cb | exact HT.cc | (simp (maxDischargeDepth := 6) [go_sem, *]; done)), (by first | exact mv_cell hM (by first | (dsimp only; omega) | (simp; omega)) hOld.2.2.2.2.2.1 | exact cell_later hM hOld.2.2.2.2.2.1 | exact HT.cb | exact HT.cc | (simp (maxDischargeDepth := 6) [go_sem, *]; done)), (by first | exact mv_cell hM (by first | (dsimp only; omega) | (simp; omega)) hOld.2.2.2.2.2.2.1 | exact cell_later hM hOld.2.2.2.2.2.2.1 | exact HT.cb | exact HT.cc | (simp (maxDischargeDepth := 6) [go_sem, *]; done)), (by first | exact mv_cell hM (by first | (dsimp only; omega) | (simp; omega)) hOld.2.2.2.2.2.2.2 | exact cell_later hM hOld.2.2.2.2.2.2.2 | exact HT.cb | exact HT.cc | (simp (maxDischargeDepth := 6) [go_sem, *]; done))⟩ (fun hHeld => ?_)
  clear hK K hOld
  try simp only [Act.put, List.setIfInBounds_toArray, List.set_cons_zero, List.set_cons_succ]
  have hR := row_mv (g := w.heap.size + 1 + 1) hM hR (by omega); clear hM
  have hOld := hHeld; clear hHeld
  refine wpAnyH_on (i := 43) (n := 4) (l' := (#[true, true, true, true, true, true, true, true, true, true, true, true, true, true, true, true, true, true, true, true, true, true, true, true, true, true, true, true, true, true, true, true, true, true, true, true, true, true, true, true, true, true, true, true, false, false, false, false] : Array Bool)) (by kernel_rfl) (by kernel_rfl) (by kernel_rfl) (by simp only [List.getElem?_toArray, List.getElem?_cons_succ, List.getElem?_cons_zero]; rfl) (by rfl) (fun K hK => ?_)
  go_simp
  (go_at_call 36; (with_reducible refine (mvCall (b := b) (w0 := w) (by (repeat (first | with_reducible assumption | with_reducible exact Mv.refl (by assumption) (by assumption) | with_reducible apply Mv.alloc | with_reducible apply Mv.drew | with_reducible apply Mv.drewN | ((with_reducible apply Mv.setCell); rotate_left; (first | (dsimp only; omega) | omega | (simp; omega)); (first | (dsimp only; omega) | omega | (simp; omega))) | ((with_reducible apply Mv.below); rotate_left; (with_reducible assumption)) | ((with_reducible apply Mv.trans); rotate_left; (with_reducible assumption))))) (kC3 _ _)).mono ?_); rintro e w1 ⟨rfl, hM, HM⟩)
  (try go_wp2_with (fail))
  refine hK.out _ _ ⟨(by first | exact mv_cell hM (by first | (dsimp only; omega) | (simp; omega)) hOld.1 | exact cell_later hM hOld.1 | exact HT.cb | exact HT.cc | (simp (maxDischargeDepth := 6) [go_sem, *]; done)), (by first | exact mv_cell hM (by first | (dsimp only; omega) | (simp; omega)) hOld.2.1 | exact cell_later hM hOld.2.1 | exact HT.cb | exact HT.cc | (simp (maxDischargeDepth := 6) [go_sem, *]; done)), (by first | exact mv_cell hM (by first | (dsimp only; omega) | (simp; omega)) hOld.2.2.1 | exact cell_later hM hOld.2.2.1 | exact HT.cb | exact HT.cc | (simp (maxDischargeDepth := 6) [go_sem, *]; done)), (by first | exact mv_cell hM (by first | (dsimp only; omega) | (simp; omega)) hOld.2.2.2.1 | exact cell_later hM hOld.2.2.2.1 | exact HT.cb | exact HT.cc | (simp (maxDischargeDepth := 6) [go_sem, *]; done)), (by first | exact mv_cell hM (by first | (dsimp only; omega) | (simp; omega)) hOld.2.2.2.2.1 | exact cell_later hM hOld.2.2.2.2.1 | exact HT.cb | exact HT.cc | (simp (maxDischargeDepth := 6) [go_sem, *]; done)), (by first | exact mv_cell hM (by first | (dsimp only; omega) | (simp; omega)) hOld.2.2.2.2.2.1 | exact cell_later hM hOld.2.2.2.2.2.1 | exact HT.cb | exact HT.cc | (simp (maxDischargeDepth := 6) [go_sem, *]; done)), (by first | exact mv_cell hM (by first | (dsimp only; omega) | (simp; omega)) hOld.2.2.2.2.2.2.1 | exact cell_later hM hOld.2.2.2.2.2.2.1 | exact HT.cb | exact HT.cc | (simp (maxDischargeDepth := 6) [go_sem, *]; done)), (by first | exact mv_cell hM (by first | (dsimp only; omega) | (simp; omega)) hOld.2.2.2.2.2.2.2 | exact cell_later hM hOld.2.2.2.2.2.2.2 | exact HT.cb | exact HT.cc | (simp (maxDischargeDepth := 6) [go_sem, *]; done))⟩ (fun hHeld => ?_)
  clear hK K hOld
  try simp only [Act.put, List.setIfInBounds_toArray, List.set_cons_zero, List.set_cons_succ]
  have hR := row_mv (g := w.heap.size + 1 + 1) hM hR (by omega); clear hM
  have hOld := hHeld; clear hHeld
  refine wpAnyH_on (i := 44) (n := 3) (l' := (#[true, true, true, true, true, true, true, true, true, true, true, true, true, true, true, true, true, true, true, true, true, true, true, true, true, true, true, true, true, true, true, true, true, true, true, true, true, true, true, true, true, true, true, true, true, false, false, false] : Array Bool)) (by kernel_rfl) (by kernel_rfl) (by kernel_rfl) (by simp only [List.getElem?_toArray, List.getElem?_cons_succ, List.getElem?_cons_zero]; rfl) (by rfl) (fun K hK => ?_)
  go_simp
  (go_at_call 37; (with_reducible refine (mvCall (b := b) (w0 := w) (by (repeat (first | with_reducible assumption | with_reducible exact Mv.refl (by assumption) (by assumption) | with_reducible apply Mv.alloc | with_reducible apply Mv.drew | with_reducible apply Mv.drewN | ((with_reducible apply Mv.setCell); rotate_left; (first | (dsimp only; omega) | omega | (simp; omega)); (first | (dsimp only; omega) | omega | (simp; omega))) | ((with_reducible apply Mv.below); rotate_left; (with_reducible assumption)) | ((with_reducible apply Mv.trans); rotate_left; (with_reducible assumption))))) (kA3 _ _)).mono ?_); rintro e w1 ⟨rfl, hM, HM⟩)
  (try go_wp2_with (fail))
  refine hK.out _ _ ⟨(by first | exact mv_cell hM (by first | (dsimp only; omega) | (simp; omega)) hOld.1 | exact cell_later hM hOld.1 | exact HT.cb | exact HT.cc | (simp (maxDischargeDepth := 6) [go_sem, *]; done)), (by first | exact mv_cell hM (by first | (dsimp only; omega) | (simp; omega)) hOld.2.1 | exact cell_later hM hOld.2.1 | exact HT.cb | exact HT.cc | (simp (maxDischargeDepth := 6) [go_sem, *]; done)), (by first | exact mv_cell hM (by first | (dsimp only; omega) | (simp; omega)) hOld.2.2.1 | exact cell_later hM hOld.2.2.1 | exact HT.cb | exact HT.cc | (simp (maxDischargeDepth := 6) [go_sem, *]; done)), (by first | exact mv_cell hM (by first | (dsimp only; omega) | (simp; omega)) hOld.2.2.2.1 | exact cell_later hM hOld.2.2.2.1 | exact HT.cb | exact HT.cc | (simp (maxDischargeDepth := 6) [go_sem, *]; done)), (by first | exact mv_cell hM (by first | (dsimp only; omega) | (simp; omega)) hOld.2.2.2.2.1 | exact cell_later hM hOld.2.2.2.2.1 | exact HT.cb | exact HT.cc | (simp (maxDischargeDepth := 6) [go_sem, *]; done)), (by first | exact mv_cell hM (by first | (dsimp only; omega) | (simp; omega)) hOld.2.2.2.2.2.1 | exact cell_later hM hOld.2.2.2.2.2.1 | exact HT.cb | exact HT.cc | (simp (maxDischargeDepth := 6) [go_sem, *]; done)), (by first | exact mv_cell hM (by first | (dsimp only; omega) | (simp; omega)) hOld.2.2.2.2.2.2.1 | exact cell_later hM hOld.2.2.2.2.2.2.1 | exact HT.cb | exact HT.cc | (simp (maxDischargeDepth := 6) [go_sem, *]; done)), (by first | exact mv_cell hM (by first | (dsimp only; omega) | (simp; omega)) hOld.2.2.2.2.2.2.2 | exact cell_later hM hOld.2.2.2.2.2.2.2 | exact HT.cb | exact HT.cc | (simp (maxDischargeDepth := 6) [go_sem, *]; done))⟩ (fun hHeld => ?_)
  clear hK K hOld
  try simp only [Act.put, List.setIfInBounds_toArray, List.set_cons_zero, List.set_cons_succ]
  have hR := row_mv (g := w.heap.size + 1 + 1) hM hR (by omega); clear hM
  refine wpAnyH_sl (n := 2) (l' := (#[true, true, true, true, true, true, true, true, true, true, true, true, true, true, true, true, true, true, true, true, true, true, true, true, true, true, true, true, true, true, true, true, true, true, true, true, true, true, true, true, true, true, true, true, true, true, false, false] : Array Bool)) [45] [some 65] hSSA (
    LvY.skip <|
    LvY.skip <|
    LvY.skip <|
    LvY.skip <|
    LvY.skip <|
    LvY.skip <|
    LvY.skip <|
    LvY.skip <|
    LvY.skip <|
    LvY.skip <|
    LvY.skip <|
    LvY.skip <|
    LvY.skip <|
    LvY.skip <|
    LvY.skip <|
    LvY.skip <|
    LvY.skip <|
    LvY.skip <|
    LvY.skip <|
    LvY.skip <|
    LvY.skip <|
    LvY.skip <|
    LvY.skip <|
    LvY.skip <|
    LvY.skip <|
    LvY.skip <|
    LvY.skip <|
    LvY.skip <|
    LvY.skip <|
    LvY.skip <|
    LvY.skip <|
    LvY.skip <|
    LvY.skip <|
    LvY.skip <|
    LvY.skip <|
    LvY.skip <|
    LvY.skip <|
    LvY.skip <|
    LvY.skip <|
    LvY.skip <|
    LvY.skip <|
    LvY.skip <|
    LvY.skip <|
    LvY.skip <|
    LvY.skip <|
    LvY.take (by rfl) (by intro w hSw; (try dsimp only at hSw); go_simp; try with_reducible rfl) <|
    LvY.skip <|
    LvY.skip <|
    LvY.nil) (by rfl) (by rfl) (by kernel_rfl) (fun _ _ _ _ _ h => h) (by kernel_rfl) (by kernel_rfl) (by kernel_rfl) (by assumption) ?_
  simp only [lvVs, putDs, Act.put, List.setIfInBounds_toArray, List.set_cons_zero, List.set_cons_succ]
  have hOld := hHeld; clear hHeld
  refine wpAnyH_on (i := 46) (n := 1) (l' := (#[true, true, true, true, true, true, true, true, true, true, true, true, true, true, true, true, true, true, true, true, true, true, true, true, true, true, true, true, true, true, true, true, true, true, true, true, true, true, true, true, true, true, true, true, true, true, true, false] : Array Bool)) (by kernel_rfl) (by kernel_rfl) (by kernel_rfl) (by simp only [List.getElem?_toArray, List.getElem?_cons_succ, List.getElem?_cons_zero]; rfl) (by rfl) (fun K hK => ?_)
  go_simp
  (go_at_call 19; (with_reducible refine (mvCall (b := b) (w0 := w) (by (repeat (first | with_reducible assumption | with_reducible exact Mv.refl (by assumption) (by assumption) | with_reducible apply Mv.alloc | with_reducible apply Mv.drew | with_reducible apply Mv.drewN | ((with_reducible apply Mv.setCell); rotate_left; (first | (dsimp only; omega) | omega | (simp; omega)); (first | (dsimp only; omega) | omega | (simp; omega))) | ((with_reducible apply Mv.below); rotate_left; (with_reducible assumption)) | ((with_reducible apply Mv.trans); rotate_left; (with_reducible assumption))))) (kU _ _)).mono ?_); rintro e w1 ⟨rfl, hM, HM⟩)
  (try go_wp2_with (fail))
  refine hK.out _ _ ⟨(by first | exact mv_cell hM (by first | (dsimp only; omega) | (simp; omega)) hOld.1 | exact cell_later hM hOld.1 | exact HT.cb | exact HT.cc | (simp (maxDischargeDepth := 6) [go_sem, *]; done)), (by first | exact mv_cell hM (by first | (dsimp only; omega) | (simp; omega)) hOld.2.1 | exact cell_later hM hOld.2.1 | exact HT.cb | exact HT.cc | (simp (maxDischargeDepth := 6) [go_sem, *]; done)), (by first | exact mv_cell hM (by first | (dsimp only; omega) | (simp; omega)) hOld.2.2.1 | exact cell_later hM hOld.2.2.1 | exact HT.cb | exact HT.cc | (simp (maxDischargeDepth := 6) [go_sem, *]; done)), (by first | exact mv_cell hM (by first | (dsimp only; omega) | (simp; omega)) hOld.2.2.2.1 | exact cell_later hM hOld.2.2.2.1 | exact HT.cb | exact HT.cc | (simp (maxDischargeDepth := 6) [go_sem, *]; done)), (by first | exact mv_cell hM (by first | (dsimp only; omega) | (simp; omega)) hOld.2.2.2.2.1 | exact cell_later hM hOld.2.2.2.2.1 | exact HT.cb | exact HT.cc | (simp (maxDischargeDepth := 6) [go_sem, *]; done)), (by first | exact mv_cell hM (by first | (dsimp only; omega) | (simp; omega)) hOld.2.2.2.2.2.1 | exact cell_later hM hOld.2.2.2.2.2.1 | exact HT.cb | exact HT.cc | (simp (maxDischargeDepth := 6) [go_sem, *]; done)), (by first | exact mv_cell hM (by first | (dsimp only; omega) | (simp; omega)) hOld.2.2.2.2.2.2.1 | exact cell_later hM hOld.2.2.2.2.2.2.1 | exact HT.cb | exact HT.cc | (simp (maxDischargeDepth := 6) [go_sem, *]; done)), (by first | exact mv_cell hM (by first | (dsimp only; omega) | (simp; omega)) hOld.2.2.2.2.2.2.2 | exact cell_later hM hOld.2.2.2.2.2.2.2 | exact HT.cb | exact HT.cc | (simp (maxDischargeDepth := 6) [go_sem, *]; done))⟩ (fun hHeld => ?_)
  clear hK K hOld
  try simp only [Act.put, List.setIfInBounds_toArray, List.set_cons_zero, List.set_cons_succ]
  have hR := row_mv (g := w.heap.size + 1 + 1) hM hR (by omega); clear hM
  have hOld := hHeld; clear hHeld
  refine wpAnyH_on (i := 47) (n := 0) (l' := (#[true, true, true, true, true, true, true, true, true, true, true, true, true, true, true, true, true, true, true, true, true, true, true, true, true, true, true, true, true, true, true, true, true, true, true, true, true, true, true, true, true, true, true, true, true, true, true, true] : Array Bool)) (by kernel_rfl) (by kernel_rfl) (by kernel_rfl) (by simp only [List.getElem?_toArray, List.getElem?_cons_succ, List.getElem?_cons_zero]; rfl) (by rfl) (fun K hK => ?_)
  refine wp_store_row 24 _ _ rfl (w.heap.size + 1 + 1) #[.int .i64 u0, .int .i64 u1, .int .i64 u2, .int .i64 u3] (by rfl) (by rfl) 24 _ hR (by kernel_rfl) rfl (by simp [Value.oneCell']) ?_
  refine hK.out _ _ ⟨cell_row hOld.1 (by dsimp only; omega), cell_row hOld.2.1 (by dsimp only; omega), cell_row hOld.2.2.1 (by dsimp only; omega), cell_row hOld.2.2.2.1 (by dsimp only; omega), cell_row hOld.2.2.2.2.1 (by dsimp only; omega), cell_row hOld.2.2.2.2.2.1 (by dsimp only; omega), cell_row hOld.2.2.2.2.2.2.1 (by dsimp only; omega), cell_row hOld.2.2.2.2.2.2.2 (by dsimp only; omega)⟩ (fun hHeld => ?_)
  clear hK K hOld
  try simp only [Act.put, List.setIfInBounds_toArray, List.set_cons_zero, List.set_cons_succ]
  refine wpAnyH_done (by kernel_rfl) ?_ _
  (try refine NoPanic.normal ?_)
  (try clear q0); (try clear q1); (try clear q2); (try clear q3); (try clear q4); (try clear q5); (try clear q6); (try clear q7); obtain ⟨q0, q1, q2, q3, q4, q5, q6, q7⟩ := hHeld
  have hR := row_put #[.int .i64 u0, .int .i64 u1, .int .i64 u2, .int .i64 u3] hR
  go_wp2
  refine bodyPost_ret (results_cell_row rfl _ _ (w.heap.size + 1 + 1) 24 #[.int .i64 u0, .int .i64 u1, .int .i64 u2, .int .i64 u3] (0, 0) _ (by rfl) hR Try.underlying24 rfl (by kernel_rfl)) rfl ⟨rfl, ?_⟩
  exact Mv.cast (HM.row (by omega) (by omega) _) (by simp only [Bool.not_and, Bool.or_assoc, Bool.or_comm, Bool.or_left_comm])
end
section
set_option linter.unusedVariables false
set_option maxHeartbeats 16000000 in
set_option maxRecDepth 20000 in
theorem walk_QuatStep (x0 x1 x2 x3 z0 z1 z2 d t : Int) (w : World) (x0_0 : -9223372036854775808 ≤ x0) (x0_1 : x0 ≤ 9223372036854775807) (x1_0 : -9223372036854775808 ≤ x1) (x1_1 : x1 ≤ 9223372036854775807) (x2_0 : -9223372036854775808 ≤ x2) (x2_1 : x2 ≤ 9223372036854775807) (x3_0 : -9223372036854775808 ≤ x3) (x3_1 : x3 ≤ 9223372036854775807) (z0_0 : -9223372036854775808 ≤ z0) (z0_1 : z0 ≤ 9223372036854775807) (z1_0 : -9223372036854775808 ≤ z1) (z1_1 : z1 ≤ 9223372036854775807) (z2_0 : -9223372036854775808 ≤ z2) (z2_1 : z2 ≤ 9223372036854775807) (d_0 : -9223372036854775808 ≤ d) (d_1 : d ≤ 9223372036854775807) (t_0 : -9223372036854775808 ≤ t) (t_1 : t ≤ 9223372036854775807) :
    Calls Try.prog 7 #[.agg #[.int .i64 x0, .int .i64 x1, .int .i64 x2, .int .i64 x3], .agg #[.int .i64 z0, .int .i64 z1, .int .i64 z2], .agg #[.int .i64 d, .int .i64 t]] w fun e w' => e = .returned (.bool true) ∧ Below w.heap.size w w' := by
  obtain ⟨P0, hP0⟩ : ∃ t, qmW x0 x1 x2 x3 0 z0 z1 z2 = t := ⟨_, rfl⟩
  obtain ⟨P1, hP1⟩ : ∃ t, qmX x0 x1 x2 x3 0 z0 z1 z2 = t := ⟨_, rfl⟩
  obtain ⟨P2, hP2⟩ : ∃ t, qmY x0 x1 x2 x3 0 z0 z1 z2 = t := ⟨_, rfl⟩
  obtain ⟨P3, hP3⟩ : ∃ t, qmZ x0 x1 x2 x3 0 z0 z1 z2 = t := ⟨_, rfl⟩
  obtain ⟨A0, hA0⟩ : ∃ t, sat (x0 + hl P0 d) = t := ⟨_, rfl⟩
  obtain ⟨A1, hA1⟩ : ∃ t, sat (x1 + hl P1 d) = t := ⟨_, rfl⟩
  obtain ⟨A2, hA2⟩ : ∃ t, sat (x2 + hl P2 d) = t := ⟨_, rfl⟩
  obtain ⟨A3, hA3⟩ : ∃ t, sat (x3 + hl P3 d) = t := ⟨_, rfl⟩
  obtain ⟨n, hn⟩ : ∃ t, ln (A0 * A0 + A1 * A1 + A2 * A2 + A3 * A3) = t := ⟨_, rfl⟩
  have k1 := fun c o W => cStep x0 x1 x2 x3 z0 z1 z2 d P0 P1 P2 P3 A0 A1 A2 A3 n c o W hP0 hP1 hP2 hP3 hA0 hA1 hA2 hA3 hn x0_0 x0_1 x1_0 x1_1 x2_0 x2_1 x3_0 x3_1 z0_0 z0_1 z1_0 z1_1 z2_0 z2_1 d_0 d_1
  have k2 := fun c o W => rStep x0 x1 x2 x3 z0 z1 z2 d P0 P1 P2 P3 A0 A1 A2 A3 n c o W hP0 hP1 hP2 hP3 hA0 hA1 hA2 hA3 hn x0_0 x0_1 x1_0 x1_1 x2_0 x2_1 x3_0 x3_1 z0_0 z0_1 z1_0 z1_1 z2_0 z2_1 d_0 d_1
  have k3 := fun pm W => cAbout (t % 4294967296) pm W (by omega) (by omega)
  have k4 := fun W => rAbout (t % 4294967296) W (by omega) (by omega)
  clear hP0 hP1 hP2 hP3 hA0 hA1 hA2 hA3 hn
  generalize (qkW x0 x1 x2 x3 0 z0 z1 z2 && qkX x0 x1 x2 x3 0 z0 z1 z2 && qkY x0 x1 x2 x3 0 z0 z1 z2 && qkZ x0 x1 x2 x3 0 z0 z1 z2) = gM at *
  generalize lnok (A0 * A0 + A1 * A1 + A2 * A2 + A3 * A3) = gn at *
  generalize uw A0 n = u0 at *
  generalize uq A1 n = u1 at *
  generalize uq A2 n = u2 at *
  generalize uq A3 n = u3 at *
  generalize uok A0 n = gu0 at *
  generalize fx (x0 + hl P0 d) = ga0 at *
  generalize hlk P0 d = gh0 at *
  generalize uok A1 n = gu1 at *
  generalize fx (x1 + hl P1 d) = ga1 at *
  generalize hlk P1 d = gh1 at *
  generalize uok A2 n = gu2 at *
  generalize fx (x2 + hl P2 d) = ga2 at *
  generalize hlk P2 d = gh2 at *
  generalize uok A3 n = gu3 at *
  generalize fx (x3 + hl P3 d) = ga3 at *
  generalize hlk P3 d = gh3 at *
  generalize cosv (t % 4294967296 / 2) = cs at *
  generalize sinv (t % 4294967296 / 2) = sn at *
  go_enter Try.func7, Try.ntmps7
  go_upto_region 4 with (fail)
  (try refine wp_region_noPanic ?_)
  refine wp_region_held_drew (S := (fun (w' : World) => w'.cell? ⟨w.heap.size, 0, none⟩ = some (.int .i64 x0) ∧ w'.cell? ⟨w.heap.size, 1, none⟩ = some (.int .i64 x1) ∧ w'.cell? ⟨w.heap.size, 2, none⟩ = some (.int .i64 x2) ∧ w'.cell? ⟨w.heap.size, 3, none⟩ = some (.int .i64 x3) ∧ w'.cell? ⟨w.heap.size + 1, 0, none⟩ = some (.int .i64 z0) ∧ w'.cell? ⟨w.heap.size + 1, 1, none⟩ = some (.int .i64 z1) ∧ w'.cell? ⟨w.heap.size + 1, 2, none⟩ = some (.int .i64 z2) ∧ w'.cell? ⟨w.heap.size + 1 + 1, 0, none⟩ = some (.int .i64 d))) (by kernel_rfl) ⟨(by first | (simp (maxDischargeDepth := 6) [go_sem, *]; done)), (by first | (simp (maxDischargeDepth := 6) [go_sem, *]; done)), (by first | (simp (maxDischargeDepth := 6) [go_sem, *]; done)), (by first | (simp (maxDischargeDepth := 6) [go_sem, *]; done)), (by first | (simp (maxDischargeDepth := 6) [go_sem, *]; done)), (by first | (simp (maxDischargeDepth := 6) [go_sem, *]; done)), (by first | (simp (maxDischargeDepth := 6) [go_sem, *]; done)), (by first | (simp (maxDischargeDepth := 6) [go_sem, *]; done))⟩ (fun hHeld => ?_)
  refine wpAnyH_take (i := 0) (v := ?_) (by simp only [List.getElem?_toArray, List.getElem?_cons_succ, List.getElem?_cons_zero]; rfl) (by kernel_rfl) (by kernel_rfl) (by kernel_rfl) (fun _ _ _ h => h) (Or.inl ⟨by rfl, ?_⟩) (by assumption) ?_
  rotate_left
  · intro w hSw; (try dsimp only at hSw); go_simp; try with_reducible rfl
  try simp only [Act.put, List.setIfInBounds_toArray, List.set_cons_zero, List.set_cons_succ]
  refine wpAnyH_take (i := 3) (v := ?_) (by simp only [List.getElem?_toArray, List.getElem?_cons_succ, List.getElem?_cons_zero]; rfl) (by kernel_rfl) (by kernel_rfl) (by kernel_rfl) (fun _ _ _ h => h) (Or.inl ⟨by rfl, ?_⟩) (by assumption) ?_
  rotate_left
  · intro w hSw; (try dsimp only at hSw); go_simp; try with_reducible rfl
  try simp only [Act.put, List.setIfInBounds_toArray, List.set_cons_zero, List.set_cons_succ]
  refine wpAnyH_take (i := 6) (v := ?_) (by simp only [List.getElem?_toArray, List.getElem?_cons_succ, List.getElem?_cons_zero]; rfl) (by kernel_rfl) (by kernel_rfl) (by kernel_rfl) (fun _ _ _ h => h) (Or.inl ⟨by rfl, ?_⟩) (by assumption) ?_
  rotate_left
  · intro w hSw; (try dsimp only at hSw); go_simp; try with_reducible rfl
  try simp only [Act.put, List.setIfInBounds_toArray, List.set_cons_zero, List.set_cons_succ]
  refine wpAnyH_take (i := 9) (v := ?_) (by simp only [List.getElem?_toArray, List.getElem?_cons_succ, List.getElem?_cons_zero]; rfl) (by kernel_rfl) (by kernel_rfl) (by kernel_rfl) (fun _ _ _ h => h) (Or.inl ⟨by rfl, ?_⟩) (by assumption) ?_
  rotate_left
  · intro w hSw; (try dsimp only at hSw); go_simp; try with_reducible rfl
  try simp only [Act.put, List.setIfInBounds_toArray, List.set_cons_zero, List.set_cons_succ]
  refine wpAnyH_take (i := 1) (v := ?_) (by simp only [List.getElem?_toArray, List.getElem?_cons_succ, List.getElem?_cons_zero]; rfl) (by kernel_rfl) (by kernel_rfl) (by kernel_rfl) (fun _ _ _ h => h) (Or.inl ⟨by rfl, ?_⟩) (by assumption) ?_
  rotate_left
  · intro w hSw; (try dsimp only at hSw); go_simp; try with_reducible rfl
  try simp only [Act.put, List.setIfInBounds_toArray, List.set_cons_zero, List.set_cons_succ]
  refine wpAnyH_take (i := 2) (v := ?_) (by simp only [List.getElem?_toArray, List.getElem?_cons_succ, List.getElem?_cons_zero]; rfl) (by kernel_rfl) (by kernel_rfl) (by kernel_rfl) (fun _ _ _ h => h) (Or.inl ⟨by rfl, ?_⟩) (by assumption) ?_
  rotate_left
  · intro w hSw; (try dsimp only at hSw); go_simp; try with_reducible rfl
  try simp only [Act.put, List.setIfInBounds_toArray, List.set_cons_zero, List.set_cons_succ]
  refine wpAnyH_take (i := 4) (v := ?_) (by simp only [List.getElem?_toArray, List.getElem?_cons_succ, List.getElem?_cons_zero]; rfl) (by kernel_rfl) (by kernel_rfl) (by kernel_rfl) (fun _ _ _ h => h) (Or.inl ⟨by rfl, ?_⟩) (by assumption) ?_
  rotate_left
  · intro w hSw; (try dsimp only at hSw); go_simp; try with_reducible rfl
  try simp only [Act.put, List.setIfInBounds_toArray, List.set_cons_zero, List.set_cons_succ]
  refine wpAnyH_take (i := 7) (v := ?_) (by simp only [List.getElem?_toArray, List.getElem?_cons_succ, List.getElem?_cons_zero]; rfl) (by kernel_rfl) (by kernel_rfl) (by kernel_rfl) (fun _ _ _ h => h) (Or.inl ⟨by rfl, ?_⟩) (by assumption) ?_
  rotate_left
  · intro w hSw; (try dsimp only at hSw); go_simp; try with_reducible rfl
  try simp only [Act.put, List.setIfInBounds_toArray, List.set_cons_zero, List.set_cons_succ]
  refine wpAnyH_take (i := 8) (v := ?_) (by simp only [List.getElem?_toArray, List.getElem?_cons_succ, List.getElem?_cons_zero]; rfl) (by kernel_rfl) (by kernel_rfl) (by kernel_rfl) (fun _ _ _ h => h) (Or.inl ⟨by rfl, ?_⟩) (by assumption) ?_
  rotate_left
  · intro w hSw; (try dsimp only at hSw); go_simp; try with_reducible rfl
  try simp only [Act.put, List.setIfInBounds_toArray, List.set_cons_zero, List.set_cons_succ]
  refine wpAnyH_take (i := 10) (v := ?_) (by simp only [List.getElem?_toArray, List.getElem?_cons_succ, List.getElem?_cons_zero]; rfl) (by kernel_rfl) (by kernel_rfl) (by kernel_rfl) (fun _ _ _ h => h) (Or.inl ⟨by rfl, ?_⟩) (by assumption) ?_
  rotate_left
  · intro w hSw; (try dsimp only at hSw); go_simp; try with_reducible rfl
  try simp only [Act.put, List.setIfInBounds_toArray, List.set_cons_zero, List.set_cons_succ]
  have hOld := hHeld; clear hHeld
  refine wpAnyH_ready (rs := [5]) (by kernel_rfl) (by simp) (AllReadyH.cons rfl (fun K hK => ?_) AllReadyH.nil)
  go_simp
  (go_at_call 25; (with_reducible refine (k1 _ false _ (by simp [go_sem, *]) (by simp [go_sem, *])).mono ?_); rintro e w1 ⟨rfl, hM⟩; have HT := Tw.start (w := w) (c := w.heap.size + 1 + 1 + 1 + 1) (p := false) (by (repeat (first | with_reducible assumption | with_reducible exact Below.refl _ _ | ((with_reducible refine Below.setCell ?_ ?_ _); rotate_left; (first | exact Nat.le_refl _ | (dsimp only; omega) | (simp; done) | (simp; omega))) | with_reducible refine below_alloc ?_ _ | with_reducible apply below_drewN | with_reducible apply Below.drew | with_reducible refine below_step ?_ (by assumption)))) hM (by omega) (by omega) (by omega) (by simp [go_sem, *]) (by simp [go_sem, *]))
  (try go_wp2_with (fail))
  refine hK.out _ _ ⟨(by first | exact mv_cell hM (by first | (dsimp only; omega) | (simp; omega)) hOld.1 | exact cell_later hM hOld.1 | exact HT.cb | exact HT.cc | (simp (maxDischargeDepth := 6) [go_sem, *]; done)), (by first | exact mv_cell hM (by first | (dsimp only; omega) | (simp; omega)) hOld.2.1 | exact cell_later hM hOld.2.1 | exact HT.cb | exact HT.cc | (simp (maxDischargeDepth := 6) [go_sem, *]; done)), (by first | exact mv_cell hM (by first | (dsimp only; omega) | (simp; omega)) hOld.2.2.1 | exact cell_later hM hOld.2.2.1 | exact HT.cb | exact HT.cc | (simp (maxDischargeDepth := 6) [go_sem, *]; done)), (by first | exact mv_cell hM (by first | (dsimp only; omega) | (simp; omega)) hOld.2.2.2.1 | exact cell_later hM hOld.2.2.2.1 | exact HT.cb | exact HT.cc | (simp (maxDischargeDepth := 6) [go_sem, *]; done)), (by first | exact mv_cell hM (by first | (dsimp only; omega) | (simp; omega)) hOld.2.2.2.2.1 | exact cell_later hM hOld.2.2.2.2.1 | exact HT.cb | exact HT.cc | (simp (maxDischargeDepth := 6) [go_sem, *]; done)), (by first | exact mv_cell hM (by first | (dsimp only; omega) | (simp; omega)) hOld.2.2.2.2.2.1 | exact cell_later hM hOld.2.2.2.2.2.1 | exact HT.cb | exact HT.cc | (simp (maxDischargeDepth := 6) [go_sem, *]; done)), (by first | exact mv_cell hM (by first | (dsimp only; omega) | (simp; omega)) hOld.2.2.2.2.2.2.1 | exact cell_later hM hOld.2.2.2.2.2.2.1 | exact HT.cb | exact HT.cc | (simp (maxDischargeDepth := 6) [go_sem, *]; done)), (by first | exact mv_cell hM (by first | (dsimp only; omega) | (simp; omega)) hOld.2.2.2.2.2.2.2 | exact cell_later hM hOld.2.2.2.2.2.2.2 | exact HT.cb | exact HT.cc | (simp (maxDischargeDepth := 6) [go_sem, *]; done))⟩ (fun hHeld => ?_)
  clear hK K hOld
  try simp only [Act.put, List.setIfInBounds_toArray, List.set_cons_zero, List.set_cons_succ]
  have hOld := hHeld; clear hHeld
  refine wpAnyH_ready (rs := [11]) (by kernel_rfl) (by simp) (AllReadyH.cons rfl (fun K hK => ?_) AllReadyH.nil)
  go_simp
  (go_at_call 26; (with_reducible refine (Tw.call2 (by (repeat (first | with_reducible assumption | with_reducible apply Tw.alloc | with_reducible apply Tw.drew | ((with_reducible apply Tw.after); rotate_left; (with_reducible assumption)) | ((with_reducible apply Tw.setCell); rotate_left; (first | (dsimp only; omega) | omega | (simp; omega)); (first | (dsimp only; omega) | omega | (simp; omega)); (first | (dsimp only; omega) | omega | (simp; omega)))))) (k2 _ _ _)).mono ?_); rintro e w1 ⟨rfl, hM, HT⟩)
  (try go_wp2_with (fail))
  refine hK.out _ _ ⟨(by first | exact mv_cell hM (by first | (dsimp only; omega) | (simp; omega)) hOld.1 | exact cell_later hM hOld.1 | exact HT.cb | exact HT.cc | (simp (maxDischargeDepth := 6) [go_sem, *]; done)), (by first | exact mv_cell hM (by first | (dsimp only; omega) | (simp; omega)) hOld.2.1 | exact cell_later hM hOld.2.1 | exact HT.cb | exact HT.cc | (simp (maxDischargeDepth := 6) [go_sem, *]; done)), (by first | exact mv_cell hM (by first | (dsimp only; omega) | (simp; omega)) hOld.2.2.1 | exact cell_later hM hOld.2.2.1 | exact HT.cb | exact HT.cc | (simp (maxDischargeDepth := 6) [go_sem, *]; done)), (by first | exact mv_cell hM (by first | (dsimp only; omega) | (simp; omega)) hOld.2.2.2.1 | exact cell_later hM hOld.2.2.2.1 | exact HT.cb | exact HT.cc | (simp (maxDischargeDepth := 6) [go_sem, *]; done)), (by first | exact mv_cell hM (by first | (dsimp only; omega) | (simp; omega)) hOld.2.2.2.2.1 | exact cell_later hM hOld.2.2.2.2.1 | exact HT.cb | exact HT.cc | (simp (maxDischargeDepth := 6) [go_sem, *]; done)), (by first | exact mv_cell hM (by first | (dsimp only; omega) | (simp; omega)) hOld.2.2.2.2.2.1 | exact cell_later hM hOld.2.2.2.2.2.1 | exact HT.cb | exact HT.cc | (simp (maxDischargeDepth := 6) [go_sem, *]; done)), (by first | exact mv_cell hM (by first | (dsimp only; omega) | (simp; omega)) hOld.2.2.2.2.2.2.1 | exact cell_later hM hOld.2.2.2.2.2.2.1 | exact HT.cb | exact HT.cc | (simp (maxDischargeDepth := 6) [go_sem, *]; done)), (by first | exact mv_cell hM (by first | (dsimp only; omega) | (simp; omega)) hOld.2.2.2.2.2.2.2 | exact cell_later hM hOld.2.2.2.2.2.2.2 | exact HT.cb | exact HT.cc | (simp (maxDischargeDepth := 6) [go_sem, *]; done))⟩ (fun hHeld => ?_)
  clear hK K hOld
  try simp only [Act.put, List.setIfInBounds_toArray, List.set_cons_zero, List.set_cons_succ]
  obtain ⟨ov, HT⟩ : ∃ ov, Tw (w.heap.size + 1 + 1 + 1) (w.heap.size + 1 + 1 + 1 + 1) ov ov w w1 := ⟨_, HT⟩
  have hcb := HT.cb; have hcc := HT.cc; have HB := HT.below
  refine wpAnyH_weaken (S' := (fun (w' : World) => w'.cell? ⟨w.heap.size, 0, none⟩ = some (.int .i64 x0) ∧ w'.cell? ⟨w.heap.size, 1, none⟩ = some (.int .i64 x1) ∧ w'.cell? ⟨w.heap.size, 2, none⟩ = some (.int .i64 x2) ∧ w'.cell? ⟨w.heap.size, 3, none⟩ = some (.int .i64 x3) ∧ w'.cell? ⟨w.heap.size + 1, 0, none⟩ = some (.int .i64 z0) ∧ w'.cell? ⟨w.heap.size + 1, 1, none⟩ = some (.int .i64 z1) ∧ w'.cell? ⟨w.heap.size + 1, 2, none⟩ = some (.int .i64 z2) ∧ w'.cell? ⟨w.heap.size + 1 + 1, 0, none⟩ = some (.int .i64 d) ∧ w'.cell? ⟨w.heap.size + 1 + 1 + 1, 0, none⟩ = some (.bool ov) ∧ w'.cell? ⟨w.heap.size + 1 + 1 + 1 + 1, 0, none⟩ = some (.bool ov))) (fun _ h => ⟨h.1, h.2.1, h.2.2.1, h.2.2.2.1, h.2.2.2.2.1, h.2.2.2.2.2.1, h.2.2.2.2.2.2.1, h.2.2.2.2.2.2.2.1⟩) _ _ _ _ ?_
  replace hHeld := (show ((fun (w' : World) => w'.cell? ⟨w.heap.size, 0, none⟩ = some (.int .i64 x0) ∧ w'.cell? ⟨w.heap.size, 1, none⟩ = some (.int .i64 x1) ∧ w'.cell? ⟨w.heap.size, 2, none⟩ = some (.int .i64 x2) ∧ w'.cell? ⟨w.heap.size, 3, none⟩ = some (.int .i64 x3) ∧ w'.cell? ⟨w.heap.size + 1, 0, none⟩ = some (.int .i64 z0) ∧ w'.cell? ⟨w.heap.size + 1, 1, none⟩ = some (.int .i64 z1) ∧ w'.cell? ⟨w.heap.size + 1, 2, none⟩ = some (.int .i64 z2) ∧ w'.cell? ⟨w.heap.size + 1 + 1, 0, none⟩ = some (.int .i64 d) ∧ w'.cell? ⟨w.heap.size + 1 + 1 + 1, 0, none⟩ = some (.bool ov) ∧ w'.cell? ⟨w.heap.size + 1 + 1 + 1 + 1, 0, none⟩ = some (.bool ov))) _ from ⟨(hHeld.1), (hHeld.2.1), (hHeld.2.2.1), (hHeld.2.2.2.1), (hHeld.2.2.2.2.1), (hHeld.2.2.2.2.2.1), (hHeld.2.2.2.2.2.2.1), (hHeld.2.2.2.2.2.2.2), (by first | assumption | (simp (maxDischargeDepth := 6) [go_sem, *]; done)), (by first | assumption | (simp (maxDischargeDepth := 6) [go_sem, *]; done))⟩)
  try dsimp only at hHeld
  refine wpAnyH_take (i := 12) (v := ?_) (by simp only [List.getElem?_toArray, List.getElem?_cons_succ, List.getElem?_cons_zero]; rfl) (by kernel_rfl) (by kernel_rfl) (by kernel_rfl) (fun _ _ _ h => h) (Or.inl ⟨by rfl, ?_⟩) (by assumption) ?_
  rotate_left
  · intro w hSw; (try dsimp only at hSw); go_simp; try with_reducible rfl
  try simp only [Act.put, List.setIfInBounds_toArray, List.set_cons_zero, List.set_cons_succ]
  refine wpAnyH_take (i := 13) (v := ?_) (by simp only [List.getElem?_toArray, List.getElem?_cons_succ, List.getElem?_cons_zero]; rfl) (by kernel_rfl) (by kernel_rfl) (by kernel_rfl) (fun _ _ _ h => h) (Or.inl ⟨by rfl, ?_⟩) (by assumption) ?_
  rotate_left
  · intro w hSw; (try dsimp only at hSw); go_simp; try with_reducible rfl
  try simp only [Act.put, List.setIfInBounds_toArray, List.set_cons_zero, List.set_cons_succ]
  refine wpAnyH_take (i := 14) (v := ?_) (by simp only [List.getElem?_toArray, List.getElem?_cons_succ, List.getElem?_cons_zero]; rfl) (by kernel_rfl) (by kernel_rfl) (by kernel_rfl) (fun _ _ _ h => h) (Or.inl ⟨by rfl, ?_⟩) (by assumption) ?_
  rotate_left
  · intro w hSw; (try dsimp only at hSw); go_simp; try with_reducible rfl
  try simp only [Act.put, List.setIfInBounds_toArray, List.set_cons_zero, List.set_cons_succ]
  refine wpAnyH_take (i := 15) (v := ?_) (by simp only [List.getElem?_toArray, List.getElem?_cons_succ, List.getElem?_cons_zero]; rfl) (by kernel_rfl) (by kernel_rfl) (by kernel_rfl) (fun _ _ _ h => h) (Or.inl ⟨by rfl, ?_⟩) (by assumption) ?_
  rotate_left
  · intro w hSw; (try dsimp only at hSw); go_simp; try with_reducible rfl
  try simp only [Act.put, List.setIfInBounds_toArray, List.set_cons_zero, List.set_cons_succ]
  refine wpAnyH_take (i := 16) (v := ?_) (by simp only [List.getElem?_toArray, List.getElem?_cons_succ, List.getElem?_cons_zero]; rfl) (by kernel_rfl) (by kernel_rfl) (by kernel_rfl) (fun _ _ _ h => h) (Or.inl ⟨by rfl, ?_⟩) (by assumption) ?_
  rotate_left
  · intro w hSw; (try dsimp only at hSw); go_simp; try with_reducible rfl
  try simp only [Act.put, List.setIfInBounds_toArray, List.set_cons_zero, List.set_cons_succ]
  refine wpAnyH_take (i := 18) (v := ?_) (by simp only [List.getElem?_toArray, List.getElem?_cons_succ, List.getElem?_cons_zero]; rfl) (by kernel_rfl) (by kernel_rfl) (by kernel_rfl) (fun _ _ _ h => h) (Or.inl ⟨by rfl, ?_⟩) (by assumption) ?_
  rotate_left
  · intro w hSw; (try dsimp only at hSw); go_simp; try with_reducible rfl
  try simp only [Act.put, List.setIfInBounds_toArray, List.set_cons_zero, List.set_cons_succ]
  refine wpAnyH_take (i := 19) (v := ?_) (by simp only [List.getElem?_toArray, List.getElem?_cons_succ, List.getElem?_cons_zero]; rfl) (by kernel_rfl) (by kernel_rfl) (by kernel_rfl) (fun _ _ _ h => h) (Or.inl ⟨by rfl, ?_⟩) (by assumption) ?_
  rotate_left
  · intro w hSw; (try dsimp only at hSw); go_simp; try with_reducible rfl
  try simp only [Act.put, List.setIfInBounds_toArray, List.set_cons_zero, List.set_cons_succ]
  refine wpAnyH_take (i := 20) (v := ?_) (by simp only [List.getElem?_toArray, List.getElem?_cons_succ, List.getElem?_cons_zero]; rfl) (by kernel_rfl) (by kernel_rfl) (by kernel_rfl) (fun _ _ _ h => h) (Or.inl ⟨by rfl, ?_⟩) (by assumption) ?_
  rotate_left
  · intro w hSw; (try dsimp only at hSw); go_simp; try with_reducible rfl
  try simp only [Act.put, List.setIfInBounds_toArray, List.set_cons_zero, List.set_cons_succ]
  refine wpAnyH_take (i := 17) (v := ?_) (by simp only [List.getElem?_toArray, List.getElem?_cons_succ, List.getElem?_cons_zero]; rfl) (by kernel_rfl) (by kernel_rfl) (by kernel_rfl) (fun _ _ _ h => h) (Or.inl ⟨by rfl, ?_⟩) (by assumption) ?_
  rotate_left
  · intro w hSw; (try dsimp only at hSw); go_simp; try with_reducible rfl
  try simp only [Act.put, List.setIfInBounds_toArray, List.set_cons_zero, List.set_cons_succ]
  refine wpAnyH_take (i := 21) (v := ?_) (by simp only [List.getElem?_toArray, List.getElem?_cons_succ, List.getElem?_cons_zero]; rfl) (by kernel_rfl) (by kernel_rfl) (by kernel_rfl) (fun _ _ _ h => h) (Or.inl ⟨by rfl, ?_⟩) (by assumption) ?_
  rotate_left
  · intro w hSw; (try dsimp only at hSw); go_simp; try with_reducible rfl
  try simp only [Act.put, List.setIfInBounds_toArray, List.set_cons_zero, List.set_cons_succ]
  refine wpAnyH_take (i := 22) (v := ?_) (by simp only [List.getElem?_toArray, List.getElem?_cons_succ, List.getElem?_cons_zero]; rfl) (by kernel_rfl) (by kernel_rfl) (by kernel_rfl) (fun _ _ _ h => h) (Or.inl ⟨by rfl, ?_⟩) (by assumption) ?_
  rotate_left
  · intro w hSw; (try dsimp only at hSw); go_simp; try with_reducible rfl
  try simp only [Act.put, List.setIfInBounds_toArray, List.set_cons_zero, List.set_cons_succ]
  refine wpAnyH_take (i := 23) (v := ?_) (by simp only [List.getElem?_toArray, List.getElem?_cons_succ, List.getElem?_cons_zero]; rfl) (by kernel_rfl) (by kernel_rfl) (by kernel_rfl) (fun _ _ _ h => h) (Or.inl ⟨by rfl, ?_⟩) (by assumption) ?_
  rotate_left
  · intro w hSw; (try dsimp only at hSw); go_simp; try with_reducible rfl
  try simp only [Act.put, List.setIfInBounds_toArray, List.set_cons_zero, List.set_cons_succ]
  refine wpAnyH_take (i := 24) (v := ?_) (by simp only [List.getElem?_toArray, List.getElem?_cons_succ, List.getElem?_cons_zero]; rfl) (by kernel_rfl) (by kernel_rfl) (by kernel_rfl) (fun _ _ _ h => h) (Or.inl ⟨by rfl, ?_⟩) (by assumption) ?_
  rotate_left
  · intro w hSw; (try dsimp only at hSw); go_simp; try with_reducible rfl
  try simp only [Act.put, List.setIfInBounds_toArray, List.set_cons_zero, List.set_cons_succ]
  refine wpAnyH_take (i := 25) (v := ?_) (by simp only [List.getElem?_toArray, List.getElem?_cons_succ, List.getElem?_cons_zero]; rfl) (by kernel_rfl) (by kernel_rfl) (by kernel_rfl) (fun _ _ _ h => h) (Or.inl ⟨by rfl, ?_⟩) (by assumption) ?_
  rotate_left
  · intro w hSw; (try dsimp only at hSw); go_simp; try with_reducible rfl
  try simp only [Act.put, List.setIfInBounds_toArray, List.set_cons_zero, List.set_cons_succ]
  refine wpAnyH_take (i := 26) (v := ?_) (by simp only [List.getElem?_toArray, List.getElem?_cons_succ, List.getElem?_cons_zero]; rfl) (by kernel_rfl) (by kernel_rfl) (by kernel_rfl) (fun _ _ _ h => h) (Or.inl ⟨by rfl, ?_⟩) (by assumption) ?_
  rotate_left
  · intro w hSw; (try dsimp only at hSw); go_simp; try with_reducible rfl
  try simp only [Act.put, List.setIfInBounds_toArray, List.set_cons_zero, List.set_cons_succ]
  refine wpAnyH_take (i := 28) (v := ?_) (by simp only [List.getElem?_toArray, List.getElem?_cons_succ, List.getElem?_cons_zero]; rfl) (by kernel_rfl) (by kernel_rfl) (by kernel_rfl) (fun _ _ _ h => h) (Or.inl ⟨by rfl, ?_⟩) (by assumption) ?_
  rotate_left
  · intro w hSw; (try dsimp only at hSw); go_simp; try with_reducible rfl
  try simp only [Act.put, List.setIfInBounds_toArray, List.set_cons_zero, List.set_cons_succ]
  have hOld := hHeld; clear hHeld
  refine wpAnyH_ready (rs := [27]) (by kernel_rfl) (by simp) (AllReadyH.cons rfl (fun K hK => ?_) AllReadyH.nil)
  go_simp
  (go_at_call 27; (with_reducible refine (k3 _ _).mono ?_); rintro e w1 ⟨rfl, hM⟩)
  (try go_wp2_with (fail))
  refine hK.out _ _ ⟨(by first | exact mv_cell hM (by first | (dsimp only; omega) | (simp; omega)) hOld.1 | exact cell_later hM hOld.1 | exact HT.cb | exact HT.cc | (simp (maxDischargeDepth := 6) [go_sem, *]; done)), (by first | exact mv_cell hM (by first | (dsimp only; omega) | (simp; omega)) hOld.2.1 | exact cell_later hM hOld.2.1 | exact HT.cb | exact HT.cc | (simp (maxDischargeDepth := 6) [go_sem, *]; done)), (by first | exact mv_cell hM (by first | (dsimp only; omega) | (simp; omega)) hOld.2.2.1 | exact cell_later hM hOld.2.2.1 | exact HT.cb | exact HT.cc | (simp (maxDischargeDepth := 6) [go_sem, *]; done)), (by first | exact mv_cell hM (by first | (dsimp only; omega) | (simp; omega)) hOld.2.2.2.1 | exact cell_later hM hOld.2.2.2.1 | exact HT.cb | exact HT.cc | (simp (maxDischargeDepth := 6) [go_sem, *]; done)), (by first | exact mv_cell hM (by first | (dsimp only; omega) | (simp; omega)) hOld.2.2.2.2.1 | exact cell_later hM hOld.2.2.2.2.1 | exact HT.cb | exact HT.cc | (simp (maxDischargeDepth := 6) [go_sem, *]; done)), (by first | exact mv_cell hM (by first | (dsimp only; omega) | (simp; omega)) hOld.2.2.2.2.2.1 | exact cell_later hM hOld.2.2.2.2.2.1 | exact HT.cb | exact HT.cc | (simp (maxDischargeDepth := 6) [go_sem, *]; done)), (by first | exact mv_cell hM (by first | (dsimp only; omega) | (simp; omega)) hOld.2.2.2.2.2.2.1 | exact cell_later hM hOld.2.2.2.2.2.2.1 | exact HT.cb | exact HT.cc | (simp (maxDischargeDepth := 6) [go_sem, *]; done)), (by first | exact mv_cell hM (by first | (dsimp only; omega) | (simp; omega)) hOld.2.2.2.2.2.2.2.1 | exact cell_later hM hOld.2.2.2.2.2.2.2.1 | exact HT.cb | exact HT.cc | (simp (maxDischargeDepth := 6) [go_sem, *]; done)), (by first | exact mv_cell hM (by first | (dsimp only; omega) | (simp; omega)) hOld.2.2.2.2.2.2.2.2.1 | exact cell_later hM hOld.2.2.2.2.2.2.2.2.1 | exact HT.cb | exact HT.cc | (simp (maxDischargeDepth := 6) [go_sem, *]; done)), (by first | exact mv_cell hM (by first | (dsimp only; omega) | (simp; omega)) hOld.2.2.2.2.2.2.2.2.2 | exact cell_later hM hOld.2.2.2.2.2.2.2.2.2 | exact HT.cb | exact HT.cc | (simp (maxDischargeDepth := 6) [go_sem, *]; done))⟩ (fun hHeld => ?_)
  clear hK K hOld
  try simp only [Act.put, List.setIfInBounds_toArray, List.set_cons_zero, List.set_cons_succ]
  have HB := below_step HB hM
  have hOld := hHeld; clear hHeld
  refine wpAnyH_ready (rs := [29]) (by kernel_rfl) (by simp) (AllReadyH.cons rfl (fun K hK => ?_) AllReadyH.nil)
  go_simp
  (go_at_call 28; (with_reducible refine (k4 _).mono ?_); rintro e w1 ⟨rfl, hM⟩)
  (try go_wp2_with (fail))
  refine hK.out _ _ ⟨(by first | exact mv_cell hM (by first | (dsimp only; omega) | (simp; omega)) hOld.1 | exact cell_later hM hOld.1 | exact HT.cb | exact HT.cc | (simp (maxDischargeDepth := 6) [go_sem, *]; done)), (by first | exact mv_cell hM (by first | (dsimp only; omega) | (simp; omega)) hOld.2.1 | exact cell_later hM hOld.2.1 | exact HT.cb | exact HT.cc | (simp (maxDischargeDepth := 6) [go_sem, *]; done)), (by first | exact mv_cell hM (by first | (dsimp only; omega) | (simp; omega)) hOld.2.2.1 | exact cell_later hM hOld.2.2.1 | exact HT.cb | exact HT.cc | (simp (maxDischargeDepth := 6) [go_sem, *]; done)), (by first | exact mv_cell hM (by first | (dsimp only; omega) | (simp; omega)) hOld.2.2.2.1 | exact cell_later hM hOld.2.2.2.1 | exact HT.cb | exact HT.cc | (simp (maxDischargeDepth := 6) [go_sem, *]; done)), (by first | exact mv_cell hM (by first | (dsimp only; omega) | (simp; omega)) hOld.2.2.2.2.1 | exact cell_later hM hOld.2.2.2.2.1 | exact HT.cb | exact HT.cc | (simp (maxDischargeDepth := 6) [go_sem, *]; done)), (by first | exact mv_cell hM (by first | (dsimp only; omega) | (simp; omega)) hOld.2.2.2.2.2.1 | exact cell_later hM hOld.2.2.2.2.2.1 | exact HT.cb | exact HT.cc | (simp (maxDischargeDepth := 6) [go_sem, *]; done)), (by first | exact mv_cell hM (by first | (dsimp only; omega) | (simp; omega)) hOld.2.2.2.2.2.2.1 | exact cell_later hM hOld.2.2.2.2.2.2.1 | exact HT.cb | exact HT.cc | (simp (maxDischargeDepth := 6) [go_sem, *]; done)), (by first | exact mv_cell hM (by first | (dsimp only; omega) | (simp; omega)) hOld.2.2.2.2.2.2.2.1 | exact cell_later hM hOld.2.2.2.2.2.2.2.1 | exact HT.cb | exact HT.cc | (simp (maxDischargeDepth := 6) [go_sem, *]; done)), (by first | exact mv_cell hM (by first | (dsimp only; omega) | (simp; omega)) hOld.2.2.2.2.2.2.2.2.1 | exact cell_later hM hOld.2.2.2.2.2.2.2.2.1 | exact HT.cb | exact HT.cc | (simp (maxDischargeDepth := 6) [go_sem, *]; done)), (by first | exact mv_cell hM (by first | (dsimp only; omega) | (simp; omega)) hOld.2.2.2.2.2.2.2.2.2 | exact cell_later hM hOld.2.2.2.2.2.2.2.2.2 | exact HT.cb | exact HT.cc | (simp (maxDischargeDepth := 6) [go_sem, *]; done))⟩ (fun hHeld => ?_)
  clear hK K hOld
  try simp only [Act.put, List.setIfInBounds_toArray, List.set_cons_zero, List.set_cons_succ]
  have HB := below_step HB hM
  refine wpAnyH_take (i := 30) (v := ?_) (by simp only [List.getElem?_toArray, List.getElem?_cons_succ, List.getElem?_cons_zero]; rfl) (by kernel_rfl) (by kernel_rfl) (by kernel_rfl) (fun _ _ _ h => h) (Or.inl ⟨by rfl, ?_⟩) (by assumption) ?_
  rotate_left
  · intro w hSw; (try dsimp only at hSw); go_simp; try with_reducible rfl
  try simp only [Act.put, List.setIfInBounds_toArray, List.set_cons_zero, List.set_cons_succ]
  refine wpAnyH_take (i := 31) (v := ?_) (by simp only [List.getElem?_toArray, List.getElem?_cons_succ, List.getElem?_cons_zero]; rfl) (by kernel_rfl) (by kernel_rfl) (by kernel_rfl) (fun _ _ _ h => h) (Or.inl ⟨by rfl, ?_⟩) (by assumption) ?_
  rotate_left
  · intro w hSw; (try dsimp only at hSw); go_simp; try with_reducible rfl
  try simp only [Act.put, List.setIfInBounds_toArray, List.set_cons_zero, List.set_cons_succ]
  refine wpAnyH_take (i := 32) (v := ?_) (by simp only [List.getElem?_toArray, List.getElem?_cons_succ, List.getElem?_cons_zero]; rfl) (by kernel_rfl) (by kernel_rfl) (by kernel_rfl) (fun _ _ _ h => h) (Or.inl ⟨by rfl, ?_⟩) (by assumption) ?_
  rotate_left
  · intro w hSw; (try dsimp only at hSw); go_simp; try with_reducible rfl
  try simp only [Act.put, List.setIfInBounds_toArray, List.set_cons_zero, List.set_cons_succ]
  have hOld := hHeld; clear hHeld
  refine wpAnyH_ready (rs := [33]) (by kernel_rfl) (by simp) (AllReadyH.cons rfl (fun K hK => ?_) AllReadyH.nil)
  go_simp
  (go_at_call 15; (with_reducible refine (cAwake6 _).mono ?_); rintro e w1 ⟨rfl, hM⟩)
  (try go_wp2_with (fail))
  refine hK.out _ _ ⟨(by first | exact mv_cell hM (by first | (dsimp only; omega) | (simp; omega)) hOld.1 | exact cell_later hM hOld.1 | exact HT.cb | exact HT.cc | (simp (maxDischargeDepth := 6) [go_sem, *]; done)), (by first | exact mv_cell hM (by first | (dsimp only; omega) | (simp; omega)) hOld.2.1 | exact cell_later hM hOld.2.1 | exact HT.cb | exact HT.cc | (simp (maxDischargeDepth := 6) [go_sem, *]; done)), (by first | exact mv_cell hM (by first | (dsimp only; omega) | (simp; omega)) hOld.2.2.1 | exact cell_later hM hOld.2.2.1 | exact HT.cb | exact HT.cc | (simp (maxDischargeDepth := 6) [go_sem, *]; done)), (by first | exact mv_cell hM (by first | (dsimp only; omega) | (simp; omega)) hOld.2.2.2.1 | exact cell_later hM hOld.2.2.2.1 | exact HT.cb | exact HT.cc | (simp (maxDischargeDepth := 6) [go_sem, *]; done)), (by first | exact mv_cell hM (by first | (dsimp only; omega) | (simp; omega)) hOld.2.2.2.2.1 | exact cell_later hM hOld.2.2.2.2.1 | exact HT.cb | exact HT.cc | (simp (maxDischargeDepth := 6) [go_sem, *]; done)), (by first | exact mv_cell hM (by first | (dsimp only; omega) | (simp; omega)) hOld.2.2.2.2.2.1 | exact cell_later hM hOld.2.2.2.2.2.1 | exact HT.cb | exact HT.cc | (simp (maxDischargeDepth := 6) [go_sem, *]; done)), (by first | exact mv_cell hM (by first | (dsimp only; omega) | (simp; omega)) hOld.2.2.2.2.2.2.1 | exact cell_later hM hOld.2.2.2.2.2.2.1 | exact HT.cb | exact HT.cc | (simp (maxDischargeDepth := 6) [go_sem, *]; done)), (by first | exact mv_cell hM (by first | (dsimp only; omega) | (simp; omega)) hOld.2.2.2.2.2.2.2.1 | exact cell_later hM hOld.2.2.2.2.2.2.2.1 | exact HT.cb | exact HT.cc | (simp (maxDischargeDepth := 6) [go_sem, *]; done)), (by first | exact mv_cell hM (by first | (dsimp only; omega) | (simp; omega)) hOld.2.2.2.2.2.2.2.2.1 | exact cell_later hM hOld.2.2.2.2.2.2.2.2.1 | exact HT.cb | exact HT.cc | (simp (maxDischargeDepth := 6) [go_sem, *]; done)), (by first | exact mv_cell hM (by first | (dsimp only; omega) | (simp; omega)) hOld.2.2.2.2.2.2.2.2.2 | exact cell_later hM hOld.2.2.2.2.2.2.2.2.2 | exact HT.cb | exact HT.cc | (simp (maxDischargeDepth := 6) [go_sem, *]; done))⟩ (fun hHeld => ?_)
  clear hK K hOld
  try simp only [Act.put, List.setIfInBounds_toArray, List.set_cons_zero, List.set_cons_succ]
  refine wpAnyH_take (i := 34) (v := ?_) (by simp only [List.getElem?_toArray, List.getElem?_cons_succ, List.getElem?_cons_zero]; rfl) (by kernel_rfl) (by kernel_rfl) (by kernel_rfl) (fun _ _ _ h => h) (Or.inl ⟨by rfl, ?_⟩) (by assumption) ?_
  rotate_left
  · intro w hSw; (try dsimp only at hSw); go_simp; try with_reducible rfl
  try simp only [Act.put, List.setIfInBounds_toArray, List.set_cons_zero, List.set_cons_succ]
  refine wpAnyH_take (i := 35) (v := ?_) (by simp only [List.getElem?_toArray, List.getElem?_cons_succ, List.getElem?_cons_zero]; rfl) (by kernel_rfl) (by kernel_rfl) (by kernel_rfl) (fun _ _ _ h => h) (Or.inl ⟨by rfl, ?_⟩) (by assumption) ?_
  rotate_left
  · intro w hSw; (try dsimp only at hSw); go_simp; try with_reducible rfl
  try simp only [Act.put, List.setIfInBounds_toArray, List.set_cons_zero, List.set_cons_succ]
  refine wpAnyH_done (by kernel_rfl) ?_ _
  (try refine NoPanic.normal ?_)
  (try clear q0); (try clear q1); (try clear q2); (try clear q3); (try clear q4); (try clear q5); (try clear q6); (try clear q7); (try clear q8); (try clear q9); obtain ⟨q0, q1, q2, q3, q4, q5, q6, q7, q8, q9⟩ := hHeld
  go_wp2
  go_ret
  exact ⟨rfl, by first | exact below_step HB hM | (repeat (first | with_reducible assumption | with_reducible exact Below.refl _ _ | ((with_reducible refine Below.setCell ?_ ?_ _); rotate_left; (first | exact Nat.le_refl _ | (dsimp only; omega) | (simp; done) | (simp; omega))) | with_reducible refine below_alloc ?_ _ | with_reducible apply below_drewN | with_reducible apply Below.drew | with_reducible refine below_step ?_ (by assumption)))⟩
end
end Go.Proofs.Ytjpkkpflamkjkaa
