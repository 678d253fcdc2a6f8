/- A vector turned back, by both; the walk of QuatTurns (X8 and L6b in one: a claim has 60 files at most). -/
import Derived.Test.YtjpkkpflamkjkaaX4
import Derived.Test.YtjpkkpflamkjkaaV5
import Derived.Test.YtjpkkpflamkjkaaV1
import Derived.Test.YtjpkkpflamkjkaaW5
import Derived.Test.YtjpkkpflamkjkaaX7
set_option linter.unusedSimpArgs false
set_option linter.unusedVariables false
namespace Go.Proofs.Ytjpkkpflamkjkaa
open Go.RowKit
set_option linter.unusedVariables false
set_option maxHeartbeats 8000000 in
set_option maxRecDepth 20000 in
theorem rBack (r0 r1 r2 r3 r4 r5 r6 r7 r8 v0 v1 v2 : Int) (b : Nat) (o : Bool) (w : World) (r0_0 : -9223372036854775808 ≤ r0) (r0_1 : r0 ≤ 9223372036854775807) (r1_0 : -9223372036854775808 ≤ r1) (r1_1 : r1 ≤ 9223372036854775807) (r2_0 : -9223372036854775808 ≤ r2) (r2_1 : r2 ≤ 9223372036854775807) (r3_0 : -9223372036854775808 ≤ r3) (r3_1 : r3 ≤ 9223372036854775807) (r4_0 : -9223372036854775808 ≤ r4) (r4_1 : r4 ≤ 9223372036854775807) (r5_0 : -9223372036854775808 ≤ r5) (r5_1 : r5 ≤ 9223372036854775807) (r6_0 : -9223372036854775808 ≤ r6) (r6_1 : r6 ≤ 9223372036854775807) (r7_0 : -9223372036854775808 ≤ r7) (r7_1 : r7 ≤ 9223372036854775807) (r8_0 : -9223372036854775808 ≤ r8) (r8_1 : r8 ≤ 9223372036854775807) (v0_0 : -9223372036854775808 ≤ v0) (v0_1 : v0 ≤ 9223372036854775807) (v1_0 : -9223372036854775808 ≤ v1) (v1_1 : v1 ≤ 9223372036854775807) (v2_0 : -9223372036854775808 ≤ v2) (v2_1 : v2 ≤ 9223372036854775807) (hc : w.cell? ⟨b, 0, none⟩ = some (.bool o)) (hf : w.frozen? ⟨b, 0, none⟩ = false) :
    Calls Try.prog 14 #[.pointer (some ⟨b, 0, none⟩), .agg #[.int .i64 r0, .int .i64 r1, .int .i64 r2, .int .i64 r3, .int .i64 r4, .int .i64 r5, .int .i64 r6, .int .i64 r7, .int .i64 r8], .agg #[.int .i64 v0, .int .i64 v1, .int .i64 v2]] w fun e w' =>
      e = .returned (.agg #[.int .i64 (dt r0 r3 r6 v0 v1 v2), .int .i64 (dt r1 r4 r7 v0 v1 v2), .int .i64 (dt r2 r5 r8 v0 v1 v2)]) ∧ Mv b (o || !dtok r0 r3 r6 v0 v1 v2 || !dtok r1 r4 r7 v0 v1 v2 || !dtok r2 r5 r8 v0 v1 v2) w w' := by
  have hb := lt_of_cell hc
  have HM := Mv.refl hc hf
  clear hc hf
  have k0 := fun W => rTurned r0 r1 r2 r3 r4 r5 r6 r7 r8 W
  have k1 := fun O W => rApply r0 r3 r6 r1 r4 r7 r2 r5 r8 v0 v1 v2 b O W r0_0 r0_1 r3_0 r3_1 r6_0 r6_1 r1_0 r1_1 r4_0 r4_1 r7_0 r7_1 r2_0 r2_1 r5_0 r5_1 r8_0 r8_1 v0_0 v0_1 v1_0 v1_1 v2_0 v2_1
  generalize dt r0 r3 r6 v0 v1 v2 = d0 at *
  generalize dt r1 r4 r7 v0 v1 v2 = d1 at *
  generalize dt r2 r5 r8 v0 v1 v2 = d2 at *
  generalize dtok r0 r3 r6 v0 v1 v2 = f0 at *
  generalize dtok r1 r4 r7 v0 v1 v2 = f1 at *
  generalize dtok r2 r5 r8 v0 v1 v2 = f2 at *
  clear r0_0 r0_1 r1_0 r1_1 r2_0 r2_1 r3_0 r3_1 r4_0 r4_1 r5_0 r5_1 r6_0 r6_1 r7_0 r7_1 r8_0 r8_1 v0_0 v0_1 v1_0 v1_1 v2_0 v2_1
  go_enter Try.func14, Try.ntmps14
  go_upto_region 1 with (fail)
  generalize hW : World.alloc _ _ = W1
  have hR : W1.heap[w.heap.size + 1 + 1]? = some (.cells #[.int .i64 0, .int .i64 0, .int .i64 0] 26 (0, 0)) := by
    rw [← hW]
    have := row_new ((w.alloc (.cells #[.int .i64 r0, .int .i64 r1, .int .i64 r2, .int .i64 r3, .int .i64 r4, .int .i64 r5, .int .i64 r6, .int .i64 r7, .int .i64 r8] 33)).alloc (.cells #[.int .i64 v0, .int .i64 v1, .int .i64 v2] 26)) (.cells #[.int .i64 0, .int .i64 0, .int .i64 0] 26)
    simpa only [World.size_alloc] using this
  have c0 : W1.cell? ⟨w.heap.size, 0, none⟩ = some (.int .i64 r0) := by rw [← hW]; simp [go_sem]
  have c1 : W1.cell? ⟨w.heap.size, 1, none⟩ = some (.int .i64 r1) := by rw [← hW]; simp [go_sem]
  have c2 : W1.cell? ⟨w.heap.size, 2, none⟩ = some (.int .i64 r2) := by rw [← hW]; simp [go_sem]
  have c3 : W1.cell? ⟨w.heap.size, 3, none⟩ = some (.int .i64 r3) := by rw [← hW]; simp [go_sem]
  have c4 : W1.cell? ⟨w.heap.size, 4, none⟩ = some (.int .i64 r4) := by rw [← hW]; simp [go_sem]
  have c5 : W1.cell? ⟨w.heap.size, 5, none⟩ = some (.int .i64 r5) := by rw [← hW]; simp [go_sem]
  have c6 : W1.cell? ⟨w.heap.size, 6, none⟩ = some (.int .i64 r6) := by rw [← hW]; simp [go_sem]
  have c7 : W1.cell? ⟨w.heap.size, 7, none⟩ = some (.int .i64 r7) := by rw [← hW]; simp [go_sem]
  have c8 : W1.cell? ⟨w.heap.size, 8, none⟩ = some (.int .i64 r8) := by rw [← hW]; simp [go_sem]
  have d0' : W1.cell? ⟨w.heap.size + 1, 0, none⟩ = some (.int .i64 v0) := by rw [← hW]; simp [go_sem]
  have d1' : W1.cell? ⟨w.heap.size + 1, 1, none⟩ = some (.int .i64 v1) := by rw [← hW]; simp [go_sem]
  have d2' : W1.cell? ⟨w.heap.size + 1, 2, none⟩ = some (.int .i64 v2) := by rw [← hW]; simp [go_sem]
  have HM : Mv b o w W1 := by rw [← hW]; exact ((HM.alloc _).alloc _).alloc _
  clear hW
  (try refine wp_region_noPanic ?_)
  refine wp_region_ssa (S := (fun (w' : World) => w'.cell? ⟨w.heap.size, 0, none⟩ = some (.int .i64 r0) ∧ w'.cell? ⟨w.heap.size, 1, none⟩ = some (.int .i64 r1) ∧ w'.cell? ⟨w.heap.size, 2, none⟩ = some (.int .i64 r2) ∧ w'.cell? ⟨w.heap.size, 3, none⟩ = some (.int .i64 r3) ∧ w'.cell? ⟨w.heap.size, 4, none⟩ = some (.int .i64 r4) ∧ w'.cell? ⟨w.heap.size, 5, none⟩ = some (.int .i64 r5) ∧ w'.cell? ⟨w.heap.size, 6, none⟩ = some (.int .i64 r6) ∧ w'.cell? ⟨w.heap.size, 7, none⟩ = some (.int .i64 r7) ∧ w'.cell? ⟨w.heap.size, 8, none⟩ = some (.int .i64 r8) ∧ w'.cell? ⟨w.heap.size + 1, 0, none⟩ = some (.int .i64 v0) ∧ w'.cell? ⟨w.heap.size + 1, 1, none⟩ = some (.int .i64 v1) ∧ w'.cell? ⟨w.heap.size + 1, 2, none⟩ = some (.int .i64 v2))) (#[none, none, none, none, none, none, none, some 0, some 1, some 2, some 3, some 4] : Array (Option Nat)) (by kernel_rfl) (by kernel_rfl) (by kernel_rfl) ⟨(by first | (simp (maxDischargeDepth := 6) [go_sem, *]; done)), (by first | (simp (maxDischargeDepth := 6) [go_sem, *]; done)), (by first | (simp (maxDischargeDepth := 6) [go_sem, *]; done)), (by first | (simp (maxDischargeDepth := 6) [go_sem, *]; done)), (by first | (simp (maxDischargeDepth := 6) [go_sem, *]; done)), (by first | (simp (maxDischargeDepth := 6) [go_sem, *]; done)), (by first | (simp (maxDischargeDepth := 6) [go_sem, *]; done)), (by first | (simp (maxDischargeDepth := 6) [go_sem, *]; done)), (by first | (simp (maxDischargeDepth := 6) [go_sem, *]; done)), (by first | (simp (maxDischargeDepth := 6) [go_sem, *]; done)), (by first | (simp (maxDischargeDepth := 6) [go_sem, *]; done)), (by first | (simp (maxDischargeDepth := 6) [go_sem, *]; done))⟩ (fun hSSA hHeld => ?_)
  refine wpAnyH_sl (n := 3) (l' := (#[true, true, false, true, false, false] : Array Bool)) [0, 1, 3] [some 7, some 8, some 10] hSSA (
    LvY.take (by rfl) (by intro w hSw; (try dsimp only at hSw); go_simp; try with_reducible rfl) <|
    LvY.take (by rfl) (by intro w hSw; (try dsimp only at hSw); go_simp; try with_reducible rfl) <|
    LvY.skip <|
    LvY.take (by rfl) (by intro w hSw; (try dsimp only at hSw); go_simp; try with_reducible rfl) <|
    LvY.skip <|
    LvY.skip <|
    LvY.nil) (by rfl) (by rfl) (by kernel_rfl) (fun _ _ _ _ _ h => h) (by kernel_rfl) (by kernel_rfl) (by kernel_rfl) (by assumption) ?_
  simp only [lvVs, putDs, Act.put, List.setIfInBounds_toArray, List.set_cons_zero, List.set_cons_succ]
  have hOld := hHeld; clear hHeld
  refine wpAnyH_on (i := 2) (n := 2) (l' := (#[true, true, true, true, false, false] : Array Bool)) (by kernel_rfl) (by kernel_rfl) (by kernel_rfl) (by simp only [List.getElem?_toArray, List.getElem?_cons_succ, List.getElem?_cons_zero]; rfl) (by rfl) (fun K hK => ?_)
  go_simp
  (go_at_call 43; (with_reducible refine (k0 _).mono ?_); rintro e w1 ⟨rfl, hM⟩); have HM := (HM.drew).below hM
  (try go_wp2_with (fail))
  refine hK.out _ _ ⟨(by first | exact mv_cell hM (by first | (dsimp only; omega) | (simp; omega)) hOld.1 | exact cell_later hM hOld.1 | exact HT.cb | exact HT.cc | (simp (maxDischargeDepth := 6) [go_sem, *]; done)), (by first | exact mv_cell hM (by first | (dsimp only; omega) | (simp; omega)) hOld.2.1 | exact cell_later hM hOld.2.1 | exact HT.cb | exact HT.cc | (simp (maxDischargeDepth := 6) [go_sem, *]; done)), (by first | exact mv_cell hM (by first | (dsimp only; omega) | (simp; omega)) hOld.2.2.1 | exact cell_later hM hOld.2.2.1 | exact HT.cb | exact HT.cc | (simp (maxDischargeDepth := 6) [go_sem, *]; done)), (by first | exact mv_cell hM (by first | (dsimp only; omega) | (simp; omega)) hOld.2.2.2.1 | exact cell_later hM hOld.2.2.2.1 | exact HT.cb | exact HT.cc | (simp (maxDischargeDepth := 6) [go_sem, *]; done)), (by first | exact mv_cell hM (by first | (dsimp only; omega) | (simp; omega)) hOld.2.2.2.2.1 | exact cell_later hM hOld.2.2.2.2.1 | exact HT.cb | exact HT.cc | (simp (maxDischargeDepth := 6) [go_sem, *]; done)), (by first | exact mv_cell hM (by first | (dsimp only; omega) | (simp; omega)) hOld.2.2.2.2.2.1 | exact cell_later hM hOld.2.2.2.2.2.1 | exact HT.cb | exact HT.cc | (simp (maxDischargeDepth := 6) [go_sem, *]; done)), (by first | exact mv_cell hM (by first | (dsimp only; omega) | (simp; omega)) hOld.2.2.2.2.2.2.1 | exact cell_later hM hOld.2.2.2.2.2.2.1 | exact HT.cb | exact HT.cc | (simp (maxDischargeDepth := 6) [go_sem, *]; done)), (by first | exact mv_cell hM (by first | (dsimp only; omega) | (simp; omega)) hOld.2.2.2.2.2.2.2.1 | exact cell_later hM hOld.2.2.2.2.2.2.2.1 | exact HT.cb | exact HT.cc | (simp (maxDischargeDepth := 6) [go_sem, *]; done)), (by first | exact mv_cell hM (by first | (dsimp only; omega) | (simp; omega)) hOld.2.2.2.2.2.2.2.2.1 | exact cell_later hM hOld.2.2.2.2.2.2.2.2.1 | exact HT.cb | exact HT.cc | (simp (maxDischargeDepth := 6) [go_sem, *]; done)), (by first | exact mv_cell hM (by first | (dsimp only; omega) | (simp; omega)) hOld.2.2.2.2.2.2.2.2.2.1 | exact cell_later hM hOld.2.2.2.2.2.2.2.2.2.1 | exact HT.cb | exact HT.cc | (simp (maxDischargeDepth := 6) [go_sem, *]; done)), (by first | exact mv_cell hM (by first | (dsimp only; omega) | (simp; omega)) hOld.2.2.2.2.2.2.2.2.2.2.1 | exact cell_later hM hOld.2.2.2.2.2.2.2.2.2.2.1 | exact HT.cb | exact HT.cc | (simp (maxDischargeDepth := 6) [go_sem, *]; done)), (by first | exact mv_cell hM (by first | (dsimp only; omega) | (simp; omega)) hOld.2.2.2.2.2.2.2.2.2.2.2 | exact cell_later hM hOld.2.2.2.2.2.2.2.2.2.2.2 | exact HT.cb | exact HT.cc | (simp (maxDischargeDepth := 6) [go_sem, *]; done))⟩ (fun hHeld => ?_)
  clear hK K hOld
  try simp only [Act.put, List.setIfInBounds_toArray, List.set_cons_zero, List.set_cons_succ]
  have hR := row_later (w := W1.drew) (by exact hR) hM; clear hM
  have hOld := hHeld; clear hHeld
  refine wpAnyH_on (i := 4) (n := 1) (l' := (#[true, true, true, true, true, false] : Array Bool)) (by kernel_rfl) (by kernel_rfl) (by kernel_rfl) (by simp only [List.getElem?_toArray, List.getElem?_cons_succ, List.getElem?_cons_zero]; rfl) (by rfl) (fun K hK => ?_)
  go_simp
  (go_at_call 12; (with_reducible refine (mvCall (b := b) (w0 := w) (by (repeat (first | with_reducible assumption | with_reducible exact Mv.refl (by assumption) (by assumption) | with_reducible apply Mv.alloc | with_reducible apply Mv.drew | with_reducible apply Mv.drewN | ((with_reducible apply Mv.setCell); rotate_left; (first | (dsimp only; omega) | omega | (simp; omega)); (first | (dsimp only; omega) | omega | (simp; omega))) | ((with_reducible apply Mv.below); rotate_left; (with_reducible assumption)) | ((with_reducible apply Mv.trans); rotate_left; (with_reducible assumption))))) (k1 _ _)).mono ?_); rintro e w1 ⟨rfl, hM, HM⟩)
  (try go_wp2_with (fail))
  refine hK.out _ _ ⟨(by first | exact mv_cell hM (by first | (dsimp only; omega) | (simp; omega)) hOld.1 | exact cell_later hM hOld.1 | exact HT.cb | exact HT.cc | (simp (maxDischargeDepth := 6) [go_sem, *]; done)), (by first | exact mv_cell hM (by first | (dsimp only; omega) | (simp; omega)) hOld.2.1 | exact cell_later hM hOld.2.1 | exact HT.cb | exact HT.cc | (simp (maxDischargeDepth := 6) [go_sem, *]; done)), (by first | exact mv_cell hM (by first | (dsimp only; omega) | (simp; omega)) hOld.2.2.1 | exact cell_later hM hOld.2.2.1 | exact HT.cb | exact HT.cc | (simp (maxDischargeDepth := 6) [go_sem, *]; done)), (by first | exact mv_cell hM (by first | (dsimp only; omega) | (simp; omega)) hOld.2.2.2.1 | exact cell_later hM hOld.2.2.2.1 | exact HT.cb | exact HT.cc | (simp (maxDischargeDepth := 6) [go_sem, *]; done)), (by first | exact mv_cell hM (by first | (dsimp only; omega) | (simp; omega)) hOld.2.2.2.2.1 | exact cell_later hM hOld.2.2.2.2.1 | exact HT.cb | exact HT.cc | (simp (maxDischargeDepth := 6) [go_sem, *]; done)), (by first | exact mv_cell hM (by first | (dsimp only; omega) | (simp; omega)) hOld.2.2.2.2.2.1 | exact cell_later hM hOld.2.2.2.2.2.1 | exact HT.cb | exact HT.cc | (simp (maxDischargeDepth := 6) [go_sem, *]; done)), (by first | exact mv_cell hM (by first | (dsimp only; omega) | (simp; omega)) hOld.2.2.2.2.2.2.1 | exact cell_later hM hOld.2.2.2.2.2.2.1 | exact HT.cb | exact HT.cc | (simp (maxDischargeDepth := 6) [go_sem, *]; done)), (by first | exact mv_cell hM (by first | (dsimp only; omega) | (simp; omega)) hOld.2.2.2.2.2.2.2.1 | exact cell_later hM hOld.2.2.2.2.2.2.2.1 | exact HT.cb | exact HT.cc | (simp (maxDischargeDepth := 6) [go_sem, *]; done)), (by first | exact mv_cell hM (by first | (dsimp only; omega) | (simp; omega)) hOld.2.2.2.2.2.2.2.2.1 | exact cell_later hM hOld.2.2.2.2.2.2.2.2.1 | exact HT.cb | exact HT.cc | (simp (maxDischargeDepth := 6) [go_sem, *]; done)), (by first | exact mv_cell hM (by first | (dsimp only; omega) | (simp; omega)) hOld.2.2.2.2.2.2.2.2.2.1 | exact cell_later hM hOld.2.2.2.2.2.2.2.2.2.1 | exact HT.cb | exact HT.cc | (simp (maxDischargeDepth := 6) [go_sem, *]; done)), (by first | exact mv_cell hM (by first | (dsimp only; omega) | (simp; omega)) hOld.2.2.2.2.2.2.2.2.2.2.1 | exact cell_later hM hOld.2.2.2.2.2.2.2.2.2.2.1 | exact HT.cb | exact HT.cc | (simp (maxDischargeDepth := 6) [go_sem, *]; done)), (by first | exact mv_cell hM (by first | (dsimp only; omega) | (simp; omega)) hOld.2.2.2.2.2.2.2.2.2.2.2 | exact cell_later hM hOld.2.2.2.2.2.2.2.2.2.2.2 | exact HT.cb | exact HT.cc | (simp (maxDischargeDepth := 6) [go_sem, *]; done))⟩ (fun hHeld => ?_)
  clear hK K hOld
  try simp only [Act.put, List.setIfInBounds_toArray, List.set_cons_zero, List.set_cons_succ]
  have hR := row_mv (g := w.heap.size + 1 + 1) hM hR (by omega); clear hM
  have hOld := hHeld; clear hHeld
  refine wpAnyH_on (i := 5) (n := 0) (l' := (#[true, true, true, true, true, true] : Array Bool)) (by kernel_rfl) (by kernel_rfl) (by kernel_rfl) (by simp only [List.getElem?_toArray, List.getElem?_cons_succ, List.getElem?_cons_zero]; rfl) (by rfl) (fun K hK => ?_)
  refine wp_store_row 26 _ _ rfl (w.heap.size + 1 + 1) #[.int .i64 d0, .int .i64 d1, .int .i64 d2] (by rfl) (by rfl) 26 _ hR (by kernel_rfl) rfl (by simp [Value.oneCell']) ?_
  refine hK.out _ _ ⟨cell_row hOld.1 (by dsimp only; omega), cell_row hOld.2.1 (by dsimp only; omega), cell_row hOld.2.2.1 (by dsimp only; omega), cell_row hOld.2.2.2.1 (by dsimp only; omega), cell_row hOld.2.2.2.2.1 (by dsimp only; omega), cell_row hOld.2.2.2.2.2.1 (by dsimp only; omega), cell_row hOld.2.2.2.2.2.2.1 (by dsimp only; omega), cell_row hOld.2.2.2.2.2.2.2.1 (by dsimp only; omega), cell_row hOld.2.2.2.2.2.2.2.2.1 (by dsimp only; omega), cell_row hOld.2.2.2.2.2.2.2.2.2.1 (by dsimp only; omega), cell_row hOld.2.2.2.2.2.2.2.2.2.2.1 (by dsimp only; omega), cell_row hOld.2.2.2.2.2.2.2.2.2.2.2 (by dsimp only; omega)⟩ (fun hHeld => ?_)
  clear hK K hOld
  try simp only [Act.put, List.setIfInBounds_toArray, List.set_cons_zero, List.set_cons_succ]
  refine wpAnyH_done (by kernel_rfl) ?_ _
  (try refine NoPanic.normal ?_)
  (try clear q0); (try clear q1); (try clear q2); (try clear q3); (try clear q4); (try clear q5); (try clear q6); (try clear q7); (try clear q8); (try clear q9); (try clear q10); (try clear q11); obtain ⟨q0, q1, q2, q3, q4, q5, q6, q7, q8, q9, q10, q11⟩ := hHeld
  have hR := row_put #[.int .i64 d0, .int .i64 d1, .int .i64 d2] hR
  go_wp2
  refine bodyPost_ret (results_cell_row rfl _ _ (w.heap.size + 1 + 1) 26 #[.int .i64 d0, .int .i64 d1, .int .i64 d2] (0, 0) _ (by rfl) hR Try.underlying26 rfl (by kernel_rfl)) rfl ⟨rfl, ?_⟩
  exact HM.row (by omega) (by omega) _
set_option maxHeartbeats 8000000 in
set_option maxRecDepth 20000 in
theorem cBack (r0 r1 r2 r3 r4 r5 r6 r7 r8 v0 v1 v2 : Int) (b : Nat) (o : Bool) (w : World) (r0_0 : -9223372036854775808 ≤ r0) (r0_1 : r0 ≤ 9223372036854775807) (r1_0 : -9223372036854775808 ≤ r1) (r1_1 : r1 ≤ 9223372036854775807) (r2_0 : -9223372036854775808 ≤ r2) (r2_1 : r2 ≤ 9223372036854775807) (r3_0 : -9223372036854775808 ≤ r3) (r3_1 : r3 ≤ 9223372036854775807) (r4_0 : -9223372036854775808 ≤ r4) (r4_1 : r4 ≤ 9223372036854775807) (r5_0 : -9223372036854775808 ≤ r5) (r5_1 : r5 ≤ 9223372036854775807) (r6_0 : -9223372036854775808 ≤ r6) (r6_1 : r6 ≤ 9223372036854775807) (r7_0 : -9223372036854775808 ≤ r7) (r7_1 : r7 ≤ 9223372036854775807) (r8_0 : -9223372036854775808 ≤ r8) (r8_1 : r8 ≤ 9223372036854775807) (v0_0 : -9223372036854775808 ≤ v0) (v0_1 : v0 ≤ 9223372036854775807) (v1_0 : -9223372036854775808 ≤ v1) (v1_1 : v1 ≤ 9223372036854775807) (v2_0 : -9223372036854775808 ≤ v2) (v2_1 : v2 ≤ 9223372036854775807) (hc : w.cell? ⟨b, 0, none⟩ = some (.bool o)) (hf : w.frozen? ⟨b, 0, none⟩ = false) :
    Calls Try.prog 13 #[.pointer (some ⟨b, 0, none⟩), .agg #[.int .i64 r0, .int .i64 r1, .int .i64 r2, .int .i64 r3, .int .i64 r4, .int .i64 r5, .int .i64 r6, .int .i64 r7, .int .i64 r8], .agg #[.int .i64 v0, .int .i64 v1, .int .i64 v2]] w fun e w' =>
      e = .returned (.agg #[.int .i64 (dt r0 r3 r6 v0 v1 v2), .int .i64 (dt r1 r4 r7 v0 v1 v2), .int .i64 (dt r2 r5 r8 v0 v1 v2)]) ∧ Mv b (o || !dtok r0 r3 r6 v0 v1 v2 || !dtok r1 r4 r7 v0 v1 v2 || !dtok r2 r5 r8 v0 v1 v2) w w' := by
  have hb := lt_of_cell hc
  have HM := Mv.refl hc hf
  clear hc hf
  have kS0 : ∀ (O : Bool) (W : World), W.cell? ⟨b, 0, none⟩ = some (.bool O) → W.frozen? ⟨b, 0, none⟩ = false → _ := fun O W h1 h2 => (cVScale r0 r1 r2 v0 b O W r0_0 r0_1 r1_0 r1_1 r2_0 r2_1 v0_0 v0_1 h1 h2).mono (fun e w' h => show _ ∧ Mv b (O || !(fx (rsh (r0 * v0)) && fx (rsh (r1 * v0)) && fx (rsh (r2 * v0)))) W w' from ⟨h.1, Mv.cast h.2 (by simp only [Bool.not_and, Bool.or_assoc])⟩)
  have kS1 : ∀ (O : Bool) (W : World), W.cell? ⟨b, 0, none⟩ = some (.bool O) → W.frozen? ⟨b, 0, none⟩ = false → _ := fun O W h1 h2 => (cVScale r3 r4 r5 v1 b O W r3_0 r3_1 r4_0 r4_1 r5_0 r5_1 v1_0 v1_1 h1 h2).mono (fun e w' h => show _ ∧ Mv b (O || !(fx (rsh (r3 * v1)) && fx (rsh (r4 * v1)) && fx (rsh (r5 * v1)))) W w' from ⟨h.1, Mv.cast h.2 (by simp only [Bool.not_and, Bool.or_assoc])⟩)
  have kS2 : ∀ (O : Bool) (W : World), W.cell? ⟨b, 0, none⟩ = some (.bool O) → W.frozen? ⟨b, 0, none⟩ = false → _ := fun O W h1 h2 => (cVScale r6 r7 r8 v2 b O W r6_0 r6_1 r7_0 r7_1 r8_0 r8_1 v2_0 v2_1 h1 h2).mono (fun e w' h => show _ ∧ Mv b (O || !(fx (rsh (r6 * v2)) && fx (rsh (r7 * v2)) && fx (rsh (r8 * v2)))) W w' from ⟨h.1, Mv.cast h.2 (by simp only [Bool.not_and, Bool.or_assoc])⟩)
  have p0_0 := sat_lo (rsh (r0 * v0))
  have p0_1 := sat_hi (rsh (r0 * v0))
  have p1_0 := sat_lo (rsh (r1 * v0))
  have p1_1 := sat_hi (rsh (r1 * v0))
  have p2_0 := sat_lo (rsh (r2 * v0))
  have p2_1 := sat_hi (rsh (r2 * v0))
  have p3_0 := sat_lo (rsh (r3 * v1))
  have p3_1 := sat_hi (rsh (r3 * v1))
  have p4_0 := sat_lo (rsh (r4 * v1))
  have p4_1 := sat_hi (rsh (r4 * v1))
  have p5_0 := sat_lo (rsh (r5 * v1))
  have p5_1 := sat_hi (rsh (r5 * v1))
  have p6_0 := sat_lo (rsh (r6 * v2))
  have p6_1 := sat_hi (rsh (r6 * v2))
  have p7_0 := sat_lo (rsh (r7 * v2))
  have p7_1 := sat_hi (rsh (r7 * v2))
  have p8_0 := sat_lo (rsh (r8 * v2))
  have p8_1 := sat_hi (rsh (r8 * v2))
  unfold dt dtok
  generalize sat (rsh (r0 * v0)) = p0 at *
  generalize fx (rsh (r0 * v0)) = u0 at *
  generalize sat (rsh (r1 * v0)) = p1 at *
  generalize fx (rsh (r1 * v0)) = u1 at *
  generalize sat (rsh (r2 * v0)) = p2 at *
  generalize fx (rsh (r2 * v0)) = u2 at *
  generalize sat (rsh (r3 * v1)) = p3 at *
  generalize fx (rsh (r3 * v1)) = u3 at *
  generalize sat (rsh (r4 * v1)) = p4 at *
  generalize fx (rsh (r4 * v1)) = u4 at *
  generalize sat (rsh (r5 * v1)) = p5 at *
  generalize fx (rsh (r5 * v1)) = u5 at *
  generalize sat (rsh (r6 * v2)) = p6 at *
  generalize fx (rsh (r6 * v2)) = u6 at *
  generalize sat (rsh (r7 * v2)) = p7 at *
  generalize fx (rsh (r7 * v2)) = u7 at *
  generalize sat (rsh (r8 * v2)) = p8 at *
  generalize fx (rsh (r8 * v2)) = u8 at *
  have kS3 := fun O W => cVAdd p0 p1 p2 p3 p4 p5 b O W p0_0 p0_1 p1_0 p1_1 p2_0 p2_1 p3_0 p3_1 p4_0 p4_1 p5_0 p5_1
  have s0_0 := sat_lo (p0 + p3)
  have s0_1 := sat_hi (p0 + p3)
  generalize sat (p0 + p3) = s0 at *
  generalize fx (p0 + p3) = f0 at *
  have s1_0 := sat_lo (p1 + p4)
  have s1_1 := sat_hi (p1 + p4)
  generalize sat (p1 + p4) = s1 at *
  generalize fx (p1 + p4) = f1 at *
  have s2_0 := sat_lo (p2 + p5)
  have s2_1 := sat_hi (p2 + p5)
  generalize sat (p2 + p5) = s2 at *
  generalize fx (p2 + p5) = f2 at *
  have kS4 := fun O W => cVAdd s0 s1 s2 p6 p7 p8 b O W s0_0 s0_1 s1_0 s1_1 s2_0 s2_1 p6_0 p6_1 p7_0 p7_1 p8_0 p8_1
  generalize sat (s0 + p6) = d0 at *
  generalize fx (s0 + p6) = h0 at *
  generalize sat (s1 + p7) = d1 at *
  generalize fx (s1 + p7) = h1 at *
  generalize sat (s2 + p8) = d2 at *
  generalize fx (s2 + p8) = h2 at *
  clear p0_0 p0_1 r0_0 r0_1
  clear p1_0 p1_1 r1_0 r1_1
  clear p2_0 p2_1 r2_0 r2_1
  clear p3_0 p3_1 r3_0 r3_1
  clear p4_0 p4_1 r4_0 r4_1
  clear p5_0 p5_1 r5_0 r5_1
  clear p6_0 p6_1 r6_0 r6_1
  clear p7_0 p7_1 r7_0 r7_1
  clear p8_0 p8_1 r8_0 r8_1
  clear s0_0 s0_1 s1_0 s1_1 s2_0 s2_1 v0_0 v0_1 v1_0 v1_1 v2_0 v2_1
  go_enter Try.func13, Try.ntmps13
  go_upto_region 1 with (fail)
  generalize hW : World.alloc _ _ = W1
  have hR : W1.heap[w.heap.size + 1 + 1]? = some (.cells #[.int .i64 0, .int .i64 0, .int .i64 0] 26 (0, 0)) := by
    rw [← hW]
    have := row_new ((w.alloc (.cells #[.int .i64 r0, .int .i64 r1, .int .i64 r2, .int .i64 r3, .int .i64 r4, .int .i64 r5, .int .i64 r6, .int .i64 r7, .int .i64 r8] 33)).alloc (.cells #[.int .i64 v0, .int .i64 v1, .int .i64 v2] 26)) (.cells #[.int .i64 0, .int .i64 0, .int .i64 0] 26)
    simpa only [World.size_alloc] using this
  have BA : Bk w.heap.size 0 [.int .i64 r0, .int .i64 r1, .int .i64 r2, .int .i64 r3, .int .i64 r4, .int .i64 r5, .int .i64 r6, .int .i64 r7, .int .i64 r8] W1 := by rw [← hW]; simp [Bk, go_sem]
  have BV : Bk (w.heap.size + 1) 0 [.int .i64 v0, .int .i64 v1, .int .i64 v2] W1 := by rw [← hW]; simp [Bk, go_sem]
  have HM0 : Mv b o w W1 := by rw [← hW]; exact ((HM.alloc _).alloc _).alloc _
  have hz0 : W1.heap.size = w.heap.size + 3 := by rw [← hW]; simp
  clear hW HM
  have HM : Mv b o W1 W1 := Mv.refl HM0.cell HM0.free
  have C_BA := BA
  have C_BV := BV
  simp only [Bk] at C_BA C_BV
  (try simp only [List.cons_append, List.nil_append])
  (try refine wp_region_noPanic ?_)
  refine wp_region_ssa (S := (fun (w' : World) => Bk w.heap.size 0 [.int .i64 r0, .int .i64 r1, .int .i64 r2, .int .i64 r3, .int .i64 r4, .int .i64 r5, .int .i64 r6, .int .i64 r7, .int .i64 r8] w' ∧ Bk (w.heap.size + 1) 0 [.int .i64 v0, .int .i64 v1, .int .i64 v2] w')) (#[none, none, none, none, none, none, none, some 18, some 19, some 20, some 0, some 1, some 2, some 3, some 4, some 5, some 6, some 7, some 8, some 9, some 10, some 11, some 12, some 13, some 14, some 15, some 16, some 17] : Array (Option Nat)) (by kernel_rfl) (by kernel_rfl) (by kernel_rfl) ⟨by (repeat (first | with_reducible assumption | with_reducible apply Bk.drew | with_reducible apply Bk.alloc | with_reducible apply Bk.later (hB := hR) | with_reducible apply Bk.later (hB := hM) | ((with_reducible apply Bk.mv hM); (focus omega)) | ((with_reducible apply Bk.later); rotate_left; (with_reducible assumption)) | ((with_reducible apply Bk.put); rotate_left; (first | (dsimp only; omega))))), by (repeat (first | with_reducible assumption | with_reducible apply Bk.drew | with_reducible apply Bk.alloc | with_reducible apply Bk.later (hB := hR) | with_reducible apply Bk.later (hB := hM) | ((with_reducible apply Bk.mv hM); (focus omega)) | ((with_reducible apply Bk.later); rotate_left; (with_reducible assumption)) | ((with_reducible apply Bk.put); rotate_left; (first | (dsimp only; omega)))))⟩ (fun hSSA hHeld => ?_)
  refine wpAnyH_sl (n := 15) (l' := (#[true, true, false, true, false, false, true, true, false, true, false, false, true, true, false, true, false, false, false, false, false, false, false, false] : Array Bool)) [0, 1, 3, 6, 7, 9, 12, 13, 15] [some 10, some 11, some 13, some 16, some 17, some 19, some 22, some 23, some 25] hSSA (
    LvY.take (by rfl) (by intro w hSw; (try dsimp only at hSw); (try simp only [Bk] at hSw); go_simp; try with_reducible rfl) <|
    LvY.take (by rfl) (by intro w hSw; (try dsimp only at hSw); (try simp only [Bk] at hSw); go_simp; try with_reducible rfl) <|
    LvY.skip <|
    LvY.take (by rfl) (by intro w hSw; (try dsimp only at hSw); (try simp only [Bk] at hSw); go_simp; try with_reducible rfl) <|
    LvY.skip <|
    LvY.skip <|
    LvY.take (by rfl) (by intro w hSw; (try dsimp only at hSw); (try simp only [Bk] at hSw); go_simp; try with_reducible rfl) <|
    LvY.take (by rfl) (by intro w hSw; (try dsimp only at hSw); (try simp only [Bk] at hSw); go_simp; try with_reducible rfl) <|
    LvY.skip <|
    LvY.take (by rfl) (by intro w hSw; (try dsimp only at hSw); (try simp only [Bk] at hSw); go_simp; try with_reducible rfl) <|
    LvY.skip <|
    LvY.skip <|
    LvY.take (by rfl) (by intro w hSw; (try dsimp only at hSw); (try simp only [Bk] at hSw); go_simp; try with_reducible rfl) <|
    LvY.take (by rfl) (by intro w hSw; (try dsimp only at hSw); (try simp only [Bk] at hSw); go_simp; try with_reducible rfl) <|
    LvY.skip <|
    LvY.take (by rfl) (by intro w hSw; (try dsimp only at hSw); (try simp only [Bk] at hSw); go_simp; try with_reducible rfl) <|
    LvY.skip <|
    LvY.skip <|
    LvY.skip <|
    LvY.skip <|
    LvY.skip <|
    LvY.skip <|
    LvY.skip <|
    LvY.skip <|
    LvY.nil) (by rfl) (by rfl) (by kernel_rfl) (fun _ _ _ _ _ h => h) (by kernel_rfl) (by kernel_rfl) (by kernel_rfl) (by assumption) ?_
  simp only [lvVs, putDs, Act.put, List.setIfInBounds_toArray, List.set_cons_zero, List.set_cons_succ]
  refine wpAnyH_sl (n := 9) (l' := (#[true, true, true, true, true, false, true, true, true, true, true, false, true, true, true, true, true, false, false, false, false, false, false, false] : Array Bool)) [2, 4, 8, 10, 14, 16] [some 12, some 14, some 18, some 20, some 24, some 26] hSSA (
    LvY.skip <|
    LvY.skip <|
    LvY.take (by rfl) (by intro w hSw; (try dsimp only at hSw); (try simp only [Bk] at hSw); go_simp; try with_reducible rfl) <|
    LvY.skip <|
    LvY.take (by rfl) (by intro w hSw; (try dsimp only at hSw); (try simp only [Bk] at hSw); go_simp; try with_reducible rfl) <|
    LvY.skip <|
    LvY.skip <|
    LvY.skip <|
    LvY.take (by rfl) (by intro w hSw; (try dsimp only at hSw); (try simp only [Bk] at hSw); go_simp; try with_reducible rfl) <|
    LvY.skip <|
    LvY.take (by rfl) (by intro w hSw; (try dsimp only at hSw); (try simp only [Bk] at hSw); go_simp; try with_reducible rfl) <|
    LvY.skip <|
    LvY.skip <|
    LvY.skip <|
    LvY.take (by rfl) (by intro w hSw; (try dsimp only at hSw); (try simp only [Bk] at hSw); go_simp; try with_reducible rfl) <|
    LvY.skip <|
    LvY.take (by rfl) (by intro w hSw; (try dsimp only at hSw); (try simp only [Bk] at hSw); go_simp; try with_reducible rfl) <|
    LvY.skip <|
    LvY.skip <|
    LvY.skip <|
    LvY.skip <|
    LvY.skip <|
    LvY.skip <|
    LvY.skip <|
    LvY.nil) (by rfl) (by rfl) (by kernel_rfl) (fun _ _ _ _ _ h => h) (by kernel_rfl) (by kernel_rfl) (by kernel_rfl) (by assumption) ?_
  simp only [lvVs, putDs, Act.put, List.setIfInBounds_toArray, List.set_cons_zero, List.set_cons_succ]
  refine wpAnyH_listed (l' := #[true, true, true, true, true, false, true, true, true, true, true, false, true, true, true, true, true, false, false, false, false, false, false, false]) (by kernel_rfl) ?_
  refine wpAnyH_from2 [17, 18, 19, 20] (fun l0 a0 l a w' => ∃ (c0 c1 c2 b0 b1 b2 : Bool) (x0 x1 x2 y0 y1 y2 : Value), l = sets l0 [(5, c0), (11, c1), (17, c2), (18, b0), (19, b1), (20, b2)] ∧ a = puts a0 [(15, x0), (21, x1), (27, x2), (7, y0), (8, y1), (9, y2)] ∧ (c1 = true → c0 = true) ∧ (c2 = true → c1 = true) ∧ (c0 = true → x0 = .agg #[.int .i64 p0, .int .i64 p1, .int .i64 p2]) ∧ (c1 = true → x1 = .agg #[.int .i64 p3, .int .i64 p4, .int .i64 p5]) ∧ (c2 = true → x2 = .agg #[.int .i64 p6, .int .i64 p7, .int .i64 p8]) ∧ (b0 = true → ∃ g : Nat, y0 = .pointer (some ⟨g, 0, none⟩) ∧ Bk g 0 [.int .i64 0, .int .i64 0, .int .i64 0] w' ∧ (W1).heap.size ≤ g) ∧ (b1 = true → ∃ g : Nat, y1 = .pointer (some ⟨g, 0, none⟩) ∧ Bk g 0 [.int .i64 0, .int .i64 0, .int .i64 0] w' ∧ (W1).heap.size ≤ g) ∧ (b2 = true → ∃ g : Nat, y2 = .pointer (some ⟨g, 0, none⟩) ∧ Bk g 0 [.int .i64 0, .int .i64 0, .int .i64 0] w' ∧ (W1).heap.size ≤ g) ∧ (b0 = true → b1 = true → y0 ≠ y1) ∧ (b0 = true → b2 = true → y0 ≠ y2) ∧ (b1 = true → b2 = true → y1 ≠ y2) ∧ Bk w.heap.size 0 [.int .i64 r0, .int .i64 r1, .int .i64 r2, .int .i64 r3, .int .i64 r4, .int .i64 r5, .int .i64 r6, .int .i64 r7, .int .i64 r8] w' ∧ Bk (w.heap.size + 1) 0 [.int .i64 v0, .int .i64 v1, .int .i64 v2] w' ∧ (W1).heap.size ≤ w'.heap.size ∧ Mv b ((o) || (c0 && !(u0 && u1 && u2)) || (c1 && !(u3 && u4 && u5)) || (c2 && !(u6 && u7 && u8))) W1 w') (by kernel_rfl) ?_ ?_ ?_ ?_ ?_ ?_
  rotate_left 4
  · exact of_decide_eq_true (by kernel_rfl)
  · exact ⟨false, false, false, false, false, false, undef, undef, undef, undef, undef, undef, by first | (simp only [sets, List.setIfInBounds_toArray, List.set_cons_zero, List.set_cons_succ]; done) | rfl, by first | (simp only [puts, Act.put, List.setIfInBounds_toArray, List.set_cons_zero, List.set_cons_succ]; done) | rfl, (fun h => by cases h), (fun h => by cases h), (fun h => by cases h), (fun h => by cases h), (fun h => by cases h), (fun h => by cases h), (fun h => by cases h), (fun h => by cases h), (fun h => by cases h), (fun h => by cases h), (fun h => by cases h), by (repeat (first | with_reducible assumption | with_reducible apply Bk.drew | with_reducible apply Bk.alloc | with_reducible apply Bk.later (hB := hR) | with_reducible apply Bk.later (hB := hM) | ((with_reducible apply Bk.mv hM); (focus omega)) | ((with_reducible apply Bk.later); rotate_left; (with_reducible assumption)) | ((with_reducible apply Bk.put); rotate_left; (first | (dsimp only; omega))))), by (repeat (first | with_reducible assumption | with_reducible apply Bk.drew | with_reducible apply Bk.alloc | with_reducible apply Bk.later (hB := hR) | with_reducible apply Bk.later (hB := hM) | ((with_reducible apply Bk.mv hM); (focus omega)) | ((with_reducible apply Bk.later); rotate_left; (with_reducible assumption)) | ((with_reducible apply Bk.put); rotate_left; (first | (dsimp only; omega))))), by first | exact Nat.le_refl _ | (simp; done), Mv.cast (by (repeat (first | with_reducible assumption | with_reducible exact Mv.refl (by assumption) (by assumption) | with_reducible apply Mv.alloc | with_reducible apply Mv.drew | with_reducible apply Mv.drewN | ((with_reducible apply Mv.setCell); rotate_left; (first | (dsimp only; omega) | omega | (simp; omega)); (first | (dsimp only; omega) | omega | (simp; omega))) | ((with_reducible apply Mv.below); rotate_left; (with_reducible assumption)) | ((with_reducible apply Mv.trans); rotate_left; (with_reducible assumption))))) (by simp only [Bool.false_and, Bool.or_false])⟩
  · rintro l a w' ⟨c0, c1, c2, b0, b1, b2, x0, x1, x2, y0, y1, y2, rfl, rfl, k0, k1, v0, v1, v2, a0, a1, a2, e0_1, e0_2, e1_2, B0, B1, hz9, HM⟩; rw [sets_size]; kernel_rfl
  · rintro l a w' ⟨c0, c1, c2, b0, b1, b2, x0, x1, x2, y0, y1, y2, rfl, rfl, k0, k1, v0, v1, v2, a0, a1, a2, e0_1, e0_2, e1_2, B0, B1, hz9, HM⟩; exact ⟨B0, B1⟩
  · rintro l a w' ⟨c0, c1, c2, b0, b1, b2, x0, x1, x2, y0, y1, y2, rfl, rfl, k0, k1, v0, v1, v2, a0, a1, a2, e0_1, e0_2, e1_2, B0, B1, hz9, HM⟩ hf i hi hd
    have hcd := cand_of [(5, c0), (11, c1), (17, c2), (18, b0), (19, b1), (20, b2)] (cand := [5, 11, 17, 18, 19, 20, 21, 22, 23]) (by kernel_rfl) (by kernel_rfl) hi
    simp only [List.mem_cons, List.not_mem_nil, or_false] at hcd
    rcases hcd with rfl | rfl | rfl | rfl | rfl | rfl | rfl | rfl | rfl
    · have hi0 := hi
      simp only [sets, List.setIfInBounds_toArray, List.set_cons_zero, List.set_cons_succ, Array.getD_eq_getD_getElem?, List.getElem?_toArray, List.getElem?_cons_zero, List.getElem?_cons_succ, Option.getD_some] at hi
      subst hi
      clear hf hd hi0
      refine wpOp_shut rfl (fun K hK => ?_)
      simp only [puts, Act.put, List.setIfInBounds_toArray, List.set_cons_zero, List.set_cons_succ]
      have hbL := lt_of_cell HM.cell
      go_simp
      (go_at_call 41; (with_reducible refine (mvCall (b := b) (w0 := W1) HM (kS0 _ _)).mono ?_); rintro e wr ⟨rfl, hR, HM⟩)
      have hzr := hR.size
      (try go_wp2_with (fail))
      exact hK.out _ _ ⟨true, c1, c2, b0, b1, b2, .agg #[.int .i64 p0, .int .i64 p1, .int .i64 p2], x1, x2, y0, y1, y2, by first | (simp only [sets, List.setIfInBounds_toArray, List.set_cons_zero, List.set_cons_succ]; done) | rfl, by first | (simp only [puts, Act.put, List.setIfInBounds_toArray, List.set_cons_zero, List.set_cons_succ]; done) | rfl, (fun _ => rfl), k1, (fun _ => rfl), v1, v2, (fun h => by obtain ⟨g, h1, h2, h3⟩ := a0 h; exact ⟨g, h1, Bk.mv hR (by omega) h2, h3⟩), (fun h => by obtain ⟨g, h1, h2, h3⟩ := a1 h; exact ⟨g, h1, Bk.mv hR (by omega) h2, h3⟩), (fun h => by obtain ⟨g, h1, h2, h3⟩ := a2 h; exact ⟨g, h1, Bk.mv hR (by omega) h2, h3⟩), e0_1, e0_2, e1_2, Bk.mv hR (by omega) B0, Bk.mv hR (by omega) B1, (by omega), Mv.cast HM (by simp only [Bool.true_and, Bool.false_and, Bool.or_false, Bool.false_or, Bool.or_assoc, Bool.or_left_comm, Bool.or_comm])⟩
    · have hi0 := hi
      simp only [sets, List.setIfInBounds_toArray, List.set_cons_zero, List.set_cons_succ, Array.getD_eq_getD_getElem?, List.getElem?_toArray, List.getElem?_cons_zero, List.getElem?_cons_succ, Option.getD_some] at hi
      subst hi
      have hx := dep_of hd 5 (by kernel_rfl); simp only [sets, List.setIfInBounds_toArray, List.set_cons_zero, List.set_cons_succ, Array.getD_eq_getD_getElem?, List.getElem?_toArray, List.getElem?_cons_zero, List.getElem?_cons_succ, Option.getD_some] at hx; subst hx
      clear hf hd hi0
      refine wpOp_shut rfl (fun K hK => ?_)
      simp only [puts, Act.put, List.setIfInBounds_toArray, List.set_cons_zero, List.set_cons_succ]
      have hv0 := v0 rfl; subst hv0
      have hbL := lt_of_cell HM.cell
      go_simp
      (go_at_call 41; (with_reducible refine (mvCall (b := b) (w0 := W1) HM (kS1 _ _)).mono ?_); rintro e wr ⟨rfl, hR, HM⟩)
      have hzr := hR.size
      (try go_wp2_with (fail))
      exact hK.out _ _ ⟨true, true, c2, b0, b1, b2, .agg #[.int .i64 p0, .int .i64 p1, .int .i64 p2], .agg #[.int .i64 p3, .int .i64 p4, .int .i64 p5], x2, y0, y1, y2, by first | (simp only [sets, List.setIfInBounds_toArray, List.set_cons_zero, List.set_cons_succ]; done) | rfl, by first | (simp only [puts, Act.put, List.setIfInBounds_toArray, List.set_cons_zero, List.set_cons_succ]; done) | rfl, (fun _ => rfl), (fun _ => rfl), (fun _ => rfl), (fun _ => rfl), v2, (fun h => by obtain ⟨g, h1, h2, h3⟩ := a0 h; exact ⟨g, h1, Bk.mv hR (by omega) h2, h3⟩), (fun h => by obtain ⟨g, h1, h2, h3⟩ := a1 h; exact ⟨g, h1, Bk.mv hR (by omega) h2, h3⟩), (fun h => by obtain ⟨g, h1, h2, h3⟩ := a2 h; exact ⟨g, h1, Bk.mv hR (by omega) h2, h3⟩), e0_1, e0_2, e1_2, Bk.mv hR (by omega) B0, Bk.mv hR (by omega) B1, (by omega), Mv.cast HM (by simp only [Bool.true_and, Bool.false_and, Bool.or_false, Bool.false_or, Bool.or_assoc, Bool.or_left_comm, Bool.or_comm])⟩
    · have hi0 := hi
      simp only [sets, List.setIfInBounds_toArray, List.set_cons_zero, List.set_cons_succ, Array.getD_eq_getD_getElem?, List.getElem?_toArray, List.getElem?_cons_zero, List.getElem?_cons_succ, Option.getD_some] at hi
      subst hi
      have hx := dep_of hd 11 (by kernel_rfl); simp only [sets, List.setIfInBounds_toArray, List.set_cons_zero, List.set_cons_succ, Array.getD_eq_getD_getElem?, List.getElem?_toArray, List.getElem?_cons_zero, List.getElem?_cons_succ, Option.getD_some] at hx; subst hx
      clear hf hd hi0
      refine wpOp_shut rfl (fun K hK => ?_)
      have hk0 := k0 rfl; subst hk0
      simp only [puts, Act.put, List.setIfInBounds_toArray, List.set_cons_zero, List.set_cons_succ]
      have hv0 := v0 rfl; subst hv0
      have hv1 := v1 rfl; subst hv1
      have hbL := lt_of_cell HM.cell
      go_simp
      (go_at_call 41; (with_reducible refine (mvCall (b := b) (w0 := W1) HM (kS2 _ _)).mono ?_); rintro e wr ⟨rfl, hR, HM⟩)
      have hzr := hR.size
      (try go_wp2_with (fail))
      exact hK.out _ _ ⟨true, true, true, b0, b1, b2, .agg #[.int .i64 p0, .int .i64 p1, .int .i64 p2], .agg #[.int .i64 p3, .int .i64 p4, .int .i64 p5], .agg #[.int .i64 p6, .int .i64 p7, .int .i64 p8], y0, y1, y2, by first | (simp only [sets, List.setIfInBounds_toArray, List.set_cons_zero, List.set_cons_succ]; done) | rfl, by first | (simp only [puts, Act.put, List.setIfInBounds_toArray, List.set_cons_zero, List.set_cons_succ]; done) | rfl, (fun _ => rfl), (fun _ => rfl), (fun _ => rfl), (fun _ => rfl), (fun _ => rfl), (fun h => by obtain ⟨g, h1, h2, h3⟩ := a0 h; exact ⟨g, h1, Bk.mv hR (by omega) h2, h3⟩), (fun h => by obtain ⟨g, h1, h2, h3⟩ := a1 h; exact ⟨g, h1, Bk.mv hR (by omega) h2, h3⟩), (fun h => by obtain ⟨g, h1, h2, h3⟩ := a2 h; exact ⟨g, h1, Bk.mv hR (by omega) h2, h3⟩), e0_1, e0_2, e1_2, Bk.mv hR (by omega) B0, Bk.mv hR (by omega) B1, (by omega), Mv.cast HM (by simp only [Bool.true_and, Bool.false_and, Bool.or_false, Bool.false_or, Bool.or_assoc, Bool.or_left_comm, Bool.or_comm])⟩
    · have hi0 := hi
      simp only [sets, List.setIfInBounds_toArray, List.set_cons_zero, List.set_cons_succ, Array.getD_eq_getD_getElem?, List.getElem?_toArray, List.getElem?_cons_zero, List.getElem?_cons_succ, Option.getD_some] at hi
      subst hi
      clear hf hd hi0
      refine wpOp_shut rfl (fun K hK => ?_)
      simp only [puts, Act.put, List.setIfInBounds_toArray, List.set_cons_zero, List.set_cons_succ]
      have hzn := hz9
      go_simp
      exact hK.out _ _ ⟨c0, c1, c2, true, b1, b2, x0, x1, x2, .pointer (some ⟨w'.heap.size, 0, none⟩), y1, y2, by first | (simp only [sets, List.setIfInBounds_toArray, List.set_cons_zero, List.set_cons_succ]; done) | rfl, by first | (simp only [puts, Act.put, List.setIfInBounds_toArray, List.set_cons_zero, List.set_cons_succ]; done) | rfl, k0, k1, v0, v1, v2, (fun _ => ⟨w'.heap.size, rfl, by simp [Bk, go_sem], hz9⟩), (fun h => by obtain ⟨g, h1, h2, h3⟩ := a1 h; exact ⟨g, h1, Bk.alloc h2 _, h3⟩), (fun h => by obtain ⟨g, h1, h2, h3⟩ := a2 h; exact ⟨g, h1, Bk.alloc h2 _, h3⟩), (fun _ h => by obtain ⟨g, h1, h2, h3⟩ := a1 h; rw [h1]; intro hh; simp at hh; have := World.block_lt_of_cell? _ _ h2.1; dsimp only at this; omega), (fun _ h => by obtain ⟨g, h1, h2, h3⟩ := a2 h; rw [h1]; intro hh; simp at hh; have := World.block_lt_of_cell? _ _ h2.1; dsimp only at this; omega), e1_2, Bk.alloc B0 _, Bk.alloc B1 _, (by simp only [World.size_alloc]; omega), HM.alloc _⟩
    · have hi0 := hi
      simp only [sets, List.setIfInBounds_toArray, List.set_cons_zero, List.set_cons_succ, Array.getD_eq_getD_getElem?, List.getElem?_toArray, List.getElem?_cons_zero, List.getElem?_cons_succ, Option.getD_some] at hi
      subst hi
      clear hf hd hi0
      refine wpOp_shut rfl (fun K hK => ?_)
      simp only [puts, Act.put, List.setIfInBounds_toArray, List.set_cons_zero, List.set_cons_succ]
      have hzn := hz9
      go_simp
      exact hK.out _ _ ⟨c0, c1, c2, b0, true, b2, x0, x1, x2, y0, .pointer (some ⟨w'.heap.size, 0, none⟩), y2, by first | (simp only [sets, List.setIfInBounds_toArray, List.set_cons_zero, List.set_cons_succ]; done) | rfl, by first | (simp only [puts, Act.put, List.setIfInBounds_toArray, List.set_cons_zero, List.set_cons_succ]; done) | rfl, k0, k1, v0, v1, v2, (fun h => by obtain ⟨g, h1, h2, h3⟩ := a0 h; exact ⟨g, h1, Bk.alloc h2 _, h3⟩), (fun _ => ⟨w'.heap.size, rfl, by simp [Bk, go_sem], hz9⟩), (fun h => by obtain ⟨g, h1, h2, h3⟩ := a2 h; exact ⟨g, h1, Bk.alloc h2 _, h3⟩), (fun h _ => by obtain ⟨g, h1, h2, h3⟩ := a0 h; rw [h1]; intro hh; simp at hh; have := World.block_lt_of_cell? _ _ h2.1; dsimp only at this; omega), e0_2, (fun _ h => by obtain ⟨g, h1, h2, h3⟩ := a2 h; rw [h1]; intro hh; simp at hh; have := World.block_lt_of_cell? _ _ h2.1; dsimp only at this; omega), Bk.alloc B0 _, Bk.alloc B1 _, (by simp only [World.size_alloc]; omega), HM.alloc _⟩
    · have hi0 := hi
      simp only [sets, List.setIfInBounds_toArray, List.set_cons_zero, List.set_cons_succ, Array.getD_eq_getD_getElem?, List.getElem?_toArray, List.getElem?_cons_zero, List.getElem?_cons_succ, Option.getD_some] at hi
      subst hi
      clear hf hd hi0
      refine wpOp_shut rfl (fun K hK => ?_)
      simp only [puts, Act.put, List.setIfInBounds_toArray, List.set_cons_zero, List.set_cons_succ]
      have hzn := hz9
      go_simp
      exact hK.out _ _ ⟨c0, c1, c2, b0, b1, true, x0, x1, x2, y0, y1, .pointer (some ⟨w'.heap.size, 0, none⟩), by first | (simp only [sets, List.setIfInBounds_toArray, List.set_cons_zero, List.set_cons_succ]; done) | rfl, by first | (simp only [puts, Act.put, List.setIfInBounds_toArray, List.set_cons_zero, List.set_cons_succ]; done) | rfl, k0, k1, v0, v1, v2, (fun h => by obtain ⟨g, h1, h2, h3⟩ := a0 h; exact ⟨g, h1, Bk.alloc h2 _, h3⟩), (fun h => by obtain ⟨g, h1, h2, h3⟩ := a1 h; exact ⟨g, h1, Bk.alloc h2 _, h3⟩), (fun _ => ⟨w'.heap.size, rfl, by simp [Bk, go_sem], hz9⟩), e0_1, (fun h _ => by obtain ⟨g, h1, h2, h3⟩ := a0 h; rw [h1]; intro hh; simp at hh; have := World.block_lt_of_cell? _ _ h2.1; dsimp only at this; omega), (fun h _ => by obtain ⟨g, h1, h2, h3⟩ := a1 h; rw [h1]; intro hh; simp at hh; have := World.block_lt_of_cell? _ _ h2.1; dsimp only at this; omega), Bk.alloc B0 _, Bk.alloc B1 _, (by simp only [World.size_alloc]; omega), HM.alloc _⟩
    · have hi0 := hi
      have hx0 := dep_of hd 17 (by kernel_rfl); simp only [sets, List.setIfInBounds_toArray, List.set_cons_zero, List.set_cons_succ, Array.getD_eq_getD_getElem?, List.getElem?_toArray, List.getElem?_cons_zero, List.getElem?_cons_succ, Option.getD_some] at hx0; subst hx0
      have hx1 := dep_of hd 18 (by kernel_rfl); simp only [sets, List.setIfInBounds_toArray, List.set_cons_zero, List.set_cons_succ, Array.getD_eq_getD_getElem?, List.getElem?_toArray, List.getElem?_cons_zero, List.getElem?_cons_succ, Option.getD_some] at hx1; subst hx1
      have hx2 := dep_of hd 19 (by kernel_rfl); simp only [sets, List.setIfInBounds_toArray, List.set_cons_zero, List.set_cons_succ, Array.getD_eq_getD_getElem?, List.getElem?_toArray, List.getElem?_cons_zero, List.getElem?_cons_succ, Option.getD_some] at hx2; subst hx2
      have hx3 := dep_of hd 20 (by kernel_rfl); simp only [sets, List.setIfInBounds_toArray, List.set_cons_zero, List.set_cons_succ, Array.getD_eq_getD_getElem?, List.getElem?_toArray, List.getElem?_cons_zero, List.getElem?_cons_succ, Option.getD_some] at hx3; subst hx3
      obtain ⟨q, hq, hf⟩ := hf; simp only [List.mem_cons, List.not_mem_nil, or_false] at hq
      rcases hq with rfl | rfl | rfl | rfl <;> simp only [sets, List.setIfInBounds_toArray, List.set_cons_zero, List.set_cons_succ, Array.getD_eq_getD_getElem?, List.getElem?_toArray, List.getElem?_cons_zero, List.getElem?_cons_succ, Option.getD_some] at hf <;> cases hf
    · have hi0 := hi
      have hx := dep_of hd 21 (by kernel_rfl); simp only [sets, List.setIfInBounds_toArray, List.set_cons_zero, List.set_cons_succ, Array.getD_eq_getD_getElem?, List.getElem?_toArray, List.getElem?_cons_zero, List.getElem?_cons_succ, Option.getD_some] at hx; cases hx
    · have hi0 := hi
      have hx := dep_of hd 21 (by kernel_rfl); simp only [sets, List.setIfInBounds_toArray, List.set_cons_zero, List.set_cons_succ, Array.getD_eq_getD_getElem?, List.getElem?_toArray, List.getElem?_cons_zero, List.getElem?_cons_succ, Option.getD_some] at hx; cases hx
  rintro l a w' n ⟨c0, c1, c2, b0, b1, b2, x0, x1, x2, y0, y1, y2, rfl, rfl, k0, k1, v0, v1, v2, a0, a1, a2, e0_1, e0_2, e1_2, B0, B1, hz9, HM⟩ hf hu
  have hf0 := hf 17 (by simp); simp only [sets, List.setIfInBounds_toArray, List.set_cons_zero, List.set_cons_succ, Array.getD_eq_getD_getElem?, List.getElem?_toArray, List.getElem?_cons_zero, List.getElem?_cons_succ, Option.getD_some] at hf0; subst hf0
  have hf1 := hf 18 (by simp); simp only [sets, List.setIfInBounds_toArray, List.set_cons_zero, List.set_cons_succ, Array.getD_eq_getD_getElem?, List.getElem?_toArray, List.getElem?_cons_zero, List.getElem?_cons_succ, Option.getD_some] at hf1; subst hf1
  have hf2 := hf 19 (by simp); simp only [sets, List.setIfInBounds_toArray, List.set_cons_zero, List.set_cons_succ, Array.getD_eq_getD_getElem?, List.getElem?_toArray, List.getElem?_cons_zero, List.getElem?_cons_succ, Option.getD_some] at hf2; subst hf2
  have hf3 := hf 20 (by simp); simp only [sets, List.setIfInBounds_toArray, List.set_cons_zero, List.set_cons_succ, Array.getD_eq_getD_getElem?, List.getElem?_toArray, List.getElem?_cons_zero, List.getElem?_cons_succ, Option.getD_some] at hf3; subst hf3
  have hk1 := k1 rfl; subst hk1
  have hk0 := k0 rfl; subst hk0
  have hv0 := v0 rfl; subst hv0
  have hv1 := v1 rfl; subst hv1
  have hv2 := v2 rfl; subst hv2
  obtain ⟨g0, rfl, G0, L0⟩ := a0 rfl
  obtain ⟨g1, rfl, G1, L1⟩ := a1 rfl
  obtain ⟨g2, rfl, G2, L2⟩ := a2 rfl
  have ne0_1 : g0 ≠ g1 := fun h => e0_1 rfl rfl (by rw [h])
  have ne1_0 := ne0_1.symm
  have ne0_2 : g0 ≠ g2 := fun h => e0_2 rfl rfl (by rw [h])
  have ne2_0 := ne0_2.symm
  have ne1_2 : g1 ≠ g2 := fun h => e1_2 rfl rfl (by rw [h])
  have ne2_1 := ne1_2.symm
  have hbL := lt_of_cell HM.cell
  have N0 : g0 ≠ b := by omega
  have N1 : g1 ≠ b := by omega
  have N2 : g2 ≠ b := by omega
  obtain ⟨n, rfl⟩ : ∃ q, n = q + 3 := ⟨n - 3, by have hu2 := Nat.le_trans (by (simp only [sets, List.setIfInBounds_toArray, List.set_cons_zero, List.set_cons_succ]); exact of_decide_eq_true (by kernel_rfl) : 3 ≤ _) hu; omega⟩
  simp only [sets, puts, Act.put, List.setIfInBounds_toArray, List.set_cons_zero, List.set_cons_succ]
  clear hu k0 k1 v0 v1 v2
  have hHeld : (fun (w' : World) => Bk w.heap.size 0 [.int .i64 r0, .int .i64 r1, .int .i64 r2, .int .i64 r3, .int .i64 r4, .int .i64 r5, .int .i64 r6, .int .i64 r7, .int .i64 r8] w' ∧ Bk (w.heap.size + 1) 0 [.int .i64 v0, .int .i64 v1, .int .i64 v2] w') w' := ⟨B0, B1⟩
  have C_B0 := B0; simp only [Bk] at C_B0
  have C_B1 := B1; simp only [Bk] at C_B1
  have C_G0 := G0; simp only [Bk] at C_G0
  have C_G1 := G1; simp only [Bk] at C_G1
  have C_G2 := G2; simp only [Bk] at C_G2
  have hOld := hHeld; clear hHeld
  refine wpAnyH_ready (rs := [21]) (by kernel_rfl) (by simp) (AllReadyH.cons rfl (fun K hK => ?_) AllReadyH.nil)
  go_simp
  refine hK.out _ _ ⟨by (repeat (first | with_reducible assumption | with_reducible apply Bk.drew | with_reducible apply Bk.alloc | with_reducible apply Bk.later (hB := hR) | with_reducible apply Bk.later (hB := hM) | ((with_reducible apply Bk.mv hM); (focus omega)) | ((with_reducible apply Bk.later); rotate_left; (with_reducible assumption)) | ((with_reducible apply Bk.put); rotate_left; (first | (dsimp only; omega))))), by (repeat (first | with_reducible assumption | with_reducible apply Bk.drew | with_reducible apply Bk.alloc | with_reducible apply Bk.later (hB := hR) | with_reducible apply Bk.later (hB := hM) | ((with_reducible apply Bk.mv hM); (focus omega)) | ((with_reducible apply Bk.later); rotate_left; (with_reducible assumption)) | ((with_reducible apply Bk.put); rotate_left; (first | (dsimp only; omega)))))⟩ (fun hHeld => ?_)
  clear hK K hOld
  (try simp only [Act.put, List.setIfInBounds_toArray]); (try dsimp only [List.set_cons_zero, List.set_cons_succ])
  have hOld := hHeld; clear hHeld
  refine wpAnyH_ready (rs := [22]) (by kernel_rfl) (by simp) (AllReadyH.cons rfl (fun K hK => ?_) AllReadyH.nil)
  go_simp
  refine hK.out _ _ ⟨by (repeat (first | with_reducible assumption | with_reducible apply Bk.drew | with_reducible apply Bk.alloc | with_reducible apply Bk.later (hB := hR) | with_reducible apply Bk.later (hB := hM) | ((with_reducible apply Bk.mv hM); (focus omega)) | ((with_reducible apply Bk.later); rotate_left; (with_reducible assumption)) | ((with_reducible apply Bk.put); rotate_left; (first | (dsimp only; omega))))), by (repeat (first | with_reducible assumption | with_reducible apply Bk.drew | with_reducible apply Bk.alloc | with_reducible apply Bk.later (hB := hR) | with_reducible apply Bk.later (hB := hM) | ((with_reducible apply Bk.mv hM); (focus omega)) | ((with_reducible apply Bk.later); rotate_left; (with_reducible assumption)) | ((with_reducible apply Bk.put); rotate_left; (first | (dsimp only; omega)))))⟩ (fun hHeld => ?_)
  clear hK K hOld
  (try simp only [Act.put, List.setIfInBounds_toArray]); (try dsimp only [List.set_cons_zero, List.set_cons_succ])
  have hOld := hHeld; clear hHeld
  refine wpAnyH_ready (rs := [23]) (by kernel_rfl) (by simp) (AllReadyH.cons rfl (fun K hK => ?_) AllReadyH.nil)
  go_simp
  refine hK.out _ _ ⟨by (repeat (first | with_reducible assumption | with_reducible apply Bk.drew | with_reducible apply Bk.alloc | with_reducible apply Bk.later (hB := hR) | with_reducible apply Bk.later (hB := hM) | ((with_reducible apply Bk.mv hM); (focus omega)) | ((with_reducible apply Bk.later); rotate_left; (with_reducible assumption)) | ((with_reducible apply Bk.put); rotate_left; (first | (dsimp only; omega))))), by (repeat (first | with_reducible assumption | with_reducible apply Bk.drew | with_reducible apply Bk.alloc | with_reducible apply Bk.later (hB := hR) | with_reducible apply Bk.later (hB := hM) | ((with_reducible apply Bk.mv hM); (focus omega)) | ((with_reducible apply Bk.later); rotate_left; (with_reducible assumption)) | ((with_reducible apply Bk.put); rotate_left; (first | (dsimp only; omega)))))⟩ (fun hHeld => ?_)
  clear hK K hOld
  (try simp only [Act.put, List.setIfInBounds_toArray]); (try dsimp only [List.set_cons_zero, List.set_cons_succ])
  refine wpAnyH_done (by kernel_rfl) ?_ _
  (try refine NoPanic.normal ?_)
  obtain ⟨ov, hov⟩ : ∃ v, (o || (true && !(u0 && u1 && u2)) || (true && !(u3 && u4 && u5)) || (true && !(u6 && u7 && u8))) = v := ⟨_, rfl⟩
  rw [hov] at HM
  have HOV := Lib.hid hov
  clear hov kS0 kS1 kS2 a0 C_BA C_BV BA BV C_B0 C_B1 B0 B1
  go_upto_region 2 with (fail)
  generalize hW2 : World.setCell _ _ _ = W2
  have E0 : Bk g0 0 [.int .i64 p0, .int .i64 p1, .int .i64 p2] W2 := by rw [← hW2]; clear hW2; simp only [Bk]; simp (maxDischargeDepth := 10) [go_sem, *]
  have E1 : Bk g1 0 [.int .i64 p3, .int .i64 p4, .int .i64 p5] W2 := by rw [← hW2]; clear hW2; simp only [Bk]; simp (maxDischargeDepth := 10) [go_sem, *]
  have E2 : Bk g2 0 [.int .i64 p6, .int .i64 p7, .int .i64 p8] W2 := by rw [← hW2]; clear hW2; simp only [Bk]; simp (maxDischargeDepth := 10) [go_sem, *]
  have HM : Mv b ov W1 W2 := by rw [← hW2]; (repeat (first | with_reducible assumption | with_reducible exact Mv.refl (by assumption) (by assumption) | with_reducible apply Mv.alloc | with_reducible apply Mv.drew | with_reducible apply Mv.drewN | ((with_reducible apply Mv.setCell); rotate_left; (first | (dsimp only; omega) | omega | (simp; omega)); (first | (dsimp only; omega) | omega | (simp; omega))) | ((with_reducible apply Mv.below); rotate_left; (with_reducible assumption)) | ((with_reducible apply Mv.trans); rotate_left; (with_reducible assumption))))
  have hR := row_mv (g := w.heap.size + 1 + 1) HM hR (by omega)
  have HM := HM0.trans HM
  clear hW2 HM0
  clear C_G0 C_G1 C_G2 G0 G1 G2
  simp only [Bk] at E0 E1 E2
  (try refine wp_region_noPanic ?_)
  refine wp_region_ssa (S := (fun (w' : World) => w'.cell? ⟨g0, 0, none⟩ = some (.int .i64 p0) ∧ w'.cell? ⟨g0, 1, none⟩ = some (.int .i64 p1) ∧ w'.cell? ⟨g0, 2, none⟩ = some (.int .i64 p2) ∧ w'.cell? ⟨g1, 0, none⟩ = some (.int .i64 p3) ∧ w'.cell? ⟨g1, 1, none⟩ = some (.int .i64 p4) ∧ w'.cell? ⟨g1, 2, none⟩ = some (.int .i64 p5) ∧ w'.cell? ⟨g2, 0, none⟩ = some (.int .i64 p6) ∧ w'.cell? ⟨g2, 1, none⟩ = some (.int .i64 p7) ∧ w'.cell? ⟨g2, 2, none⟩ = some (.int .i64 p8))) (#[none, none, none, none, none, none, none, none, none, none, none, none, none, none, none, none, none, none, none, none, none, none, none, none, none, none, none, none, some 0, some 1, some 2, some 3, some 4, some 5, some 6] : Array (Option Nat)) (by kernel_rfl) (by kernel_rfl) (by kernel_rfl) ⟨(by first | (simp (maxDischargeDepth := 6) [go_sem, *]; done)), (by first | (simp (maxDischargeDepth := 6) [go_sem, *]; done)), (by first | (simp (maxDischargeDepth := 6) [go_sem, *]; done)), (by first | (simp (maxDischargeDepth := 6) [go_sem, *]; done)), (by first | (simp (maxDischargeDepth := 6) [go_sem, *]; done)), (by first | (simp (maxDischargeDepth := 6) [go_sem, *]; done)), (by first | (simp (maxDischargeDepth := 6) [go_sem, *]; done)), (by first | (simp (maxDischargeDepth := 6) [go_sem, *]; done)), (by first | (simp (maxDischargeDepth := 6) [go_sem, *]; done))⟩ (fun hSSA hHeld => ?_)
  refine wpAnyH_sl (n := 3) (l' := (#[true, true, true, true, false, true, false, false] : Array Bool)) [0, 1, 2, 3, 5] [some 28, some 29, some 30, some 31, some 33] hSSA (
    LvY.take (by rfl) (by intro w hSw; (try dsimp only at hSw); go_simp; try with_reducible rfl) <|
    LvY.take (by rfl) (by intro w hSw; (try dsimp only at hSw); go_simp; try with_reducible rfl) <|
    LvY.take (by rfl) (by intro w hSw; (try dsimp only at hSw); go_simp; try with_reducible rfl) <|
    LvY.take (by rfl) (by intro w hSw; (try dsimp only at hSw); go_simp; try with_reducible rfl) <|
    LvY.skip <|
    LvY.take (by rfl) (by intro w hSw; (try dsimp only at hSw); go_simp; try with_reducible rfl) <|
    LvY.skip <|
    LvY.skip <|
    LvY.nil) (by rfl) (by rfl) (by kernel_rfl) (fun _ _ _ _ _ h => h) (by kernel_rfl) (by kernel_rfl) (by kernel_rfl) (by assumption) ?_
  simp only [lvVs, putDs, Act.put, List.setIfInBounds_toArray, List.set_cons_zero, List.set_cons_succ]
  have hOld := hHeld; clear hHeld
  refine wpAnyH_on (i := 4) (n := 2) (l' := (#[true, true, true, true, true, true, false, false] : Array Bool)) (by kernel_rfl) (by kernel_rfl) (by kernel_rfl) (by simp only [List.getElem?_toArray, List.getElem?_cons_succ, List.getElem?_cons_zero]; rfl) (by rfl) (fun K hK => ?_)
  go_simp
  (go_at_call 42; (with_reducible refine (mvCall (b := b) (w0 := w) (by (repeat (first | with_reducible assumption | with_reducible exact Mv.refl (by assumption) (by assumption) | with_reducible apply Mv.alloc | with_reducible apply Mv.drew | with_reducible apply Mv.drewN | ((with_reducible apply Mv.setCell); rotate_left; (first | (dsimp only; omega) | omega | (simp; omega)); (first | (dsimp only; omega) | omega | (simp; omega))) | ((with_reducible apply Mv.below); rotate_left; (with_reducible assumption)) | ((with_reducible apply Mv.trans); rotate_left; (with_reducible assumption))))) (kS3 _ _)).mono ?_); rintro e w1 ⟨rfl, hM, HM⟩)
  (try go_wp2_with (fail))
  refine hK.out _ _ ⟨(by first | exact mv_cell hM (by first | (dsimp only; omega) | (simp; omega)) hOld.1 | exact cell_later hM hOld.1 | exact HT.cb | exact HT.cc | (simp (maxDischargeDepth := 6) [go_sem, *]; done)), (by first | exact mv_cell hM (by first | (dsimp only; omega) | (simp; omega)) hOld.2.1 | exact cell_later hM hOld.2.1 | exact HT.cb | exact HT.cc | (simp (maxDischargeDepth := 6) [go_sem, *]; done)), (by first | exact mv_cell hM (by first | (dsimp only; omega) | (simp; omega)) hOld.2.2.1 | exact cell_later hM hOld.2.2.1 | exact HT.cb | exact HT.cc | (simp (maxDischargeDepth := 6) [go_sem, *]; done)), (by first | exact mv_cell hM (by first | (dsimp only; omega) | (simp; omega)) hOld.2.2.2.1 | exact cell_later hM hOld.2.2.2.1 | exact HT.cb | exact HT.cc | (simp (maxDischargeDepth := 6) [go_sem, *]; done)), (by first | exact mv_cell hM (by first | (dsimp only; omega) | (simp; omega)) hOld.2.2.2.2.1 | exact cell_later hM hOld.2.2.2.2.1 | exact HT.cb | exact HT.cc | (simp (maxDischargeDepth := 6) [go_sem, *]; done)), (by first | exact mv_cell hM (by first | (dsimp only; omega) | (simp; omega)) hOld.2.2.2.2.2.1 | exact cell_later hM hOld.2.2.2.2.2.1 | exact HT.cb | exact HT.cc | (simp (maxDischargeDepth := 6) [go_sem, *]; done)), (by first | exact mv_cell hM (by first | (dsimp only; omega) | (simp; omega)) hOld.2.2.2.2.2.2.1 | exact cell_later hM hOld.2.2.2.2.2.2.1 | exact HT.cb | exact HT.cc | (simp (maxDischargeDepth := 6) [go_sem, *]; done)), (by first | exact mv_cell hM (by first | (dsimp only; omega) | (simp; omega)) hOld.2.2.2.2.2.2.2.1 | exact cell_later hM hOld.2.2.2.2.2.2.2.1 | exact HT.cb | exact HT.cc | (simp (maxDischargeDepth := 6) [go_sem, *]; done)), (by first | exact mv_cell hM (by first | (dsimp only; omega) | (simp; omega)) hOld.2.2.2.2.2.2.2.2 | exact cell_later hM hOld.2.2.2.2.2.2.2.2 | exact HT.cb | exact HT.cc | (simp (maxDischargeDepth := 6) [go_sem, *]; done))⟩ (fun hHeld => ?_)
  clear hK K hOld
  try simp only [Act.put, List.setIfInBounds_toArray, List.set_cons_zero, List.set_cons_succ]
  have hR := row_mv (g := w.heap.size + 1 + 1) hM hR (by omega); clear hM
  have hOld := hHeld; clear hHeld
  refine wpAnyH_on (i := 6) (n := 1) (l' := (#[true, true, true, true, true, true, true, false] : Array Bool)) (by kernel_rfl) (by kernel_rfl) (by kernel_rfl) (by simp only [List.getElem?_toArray, List.getElem?_cons_succ, List.getElem?_cons_zero]; rfl) (by rfl) (fun K hK => ?_)
  go_simp
  (go_at_call 42; (with_reducible refine (mvCall (b := b) (w0 := w) (by (repeat (first | with_reducible assumption | with_reducible exact Mv.refl (by assumption) (by assumption) | with_reducible apply Mv.alloc | with_reducible apply Mv.drew | with_reducible apply Mv.drewN | ((with_reducible apply Mv.setCell); rotate_left; (first | (dsimp only; omega) | omega | (simp; omega)); (first | (dsimp only; omega) | omega | (simp; omega))) | ((with_reducible apply Mv.below); rotate_left; (with_reducible assumption)) | ((with_reducible apply Mv.trans); rotate_left; (with_reducible assumption))))) (kS4 _ _)).mono ?_); rintro e w1 ⟨rfl, hM, HM⟩)
  (try go_wp2_with (fail))
  refine hK.out _ _ ⟨(by first | exact mv_cell hM (by first | (dsimp only; omega) | (simp; omega)) hOld.1 | exact cell_later hM hOld.1 | exact HT.cb | exact HT.cc | (simp (maxDischargeDepth := 6) [go_sem, *]; done)), (by first | exact mv_cell hM (by first | (dsimp only; omega) | (simp; omega)) hOld.2.1 | exact cell_later hM hOld.2.1 | exact HT.cb | exact HT.cc | (simp (maxDischargeDepth := 6) [go_sem, *]; done)), (by first | exact mv_cell hM (by first | (dsimp only; omega) | (simp; omega)) hOld.2.2.1 | exact cell_later hM hOld.2.2.1 | exact HT.cb | exact HT.cc | (simp (maxDischargeDepth := 6) [go_sem, *]; done)), (by first | exact mv_cell hM (by first | (dsimp only; omega) | (simp; omega)) hOld.2.2.2.1 | exact cell_later hM hOld.2.2.2.1 | exact HT.cb | exact HT.cc | (simp (maxDischargeDepth := 6) [go_sem, *]; done)), (by first | exact mv_cell hM (by first | (dsimp only; omega) | (simp; omega)) hOld.2.2.2.2.1 | exact cell_later hM hOld.2.2.2.2.1 | exact HT.cb | exact HT.cc | (simp (maxDischargeDepth := 6) [go_sem, *]; done)), (by first | exact mv_cell hM (by first | (dsimp only; omega) | (simp; omega)) hOld.2.2.2.2.2.1 | exact cell_later hM hOld.2.2.2.2.2.1 | exact HT.cb | exact HT.cc | (simp (maxDischargeDepth := 6) [go_sem, *]; done)), (by first | exact mv_cell hM (by first | (dsimp only; omega) | (simp; omega)) hOld.2.2.2.2.2.2.1 | exact cell_later hM hOld.2.2.2.2.2.2.1 | exact HT.cb | exact HT.cc | (simp (maxDischargeDepth := 6) [go_sem, *]; done)), (by first | exact mv_cell hM (by first | (dsimp only; omega) | (simp; omega)) hOld.2.2.2.2.2.2.2.1 | exact cell_later hM hOld.2.2.2.2.2.2.2.1 | exact HT.cb | exact HT.cc | (simp (maxDischargeDepth := 6) [go_sem, *]; done)), (by first | exact mv_cell hM (by first | (dsimp only; omega) | (simp; omega)) hOld.2.2.2.2.2.2.2.2 | exact cell_later hM hOld.2.2.2.2.2.2.2.2 | exact HT.cb | exact HT.cc | (simp (maxDischargeDepth := 6) [go_sem, *]; done))⟩ (fun hHeld => ?_)
  clear hK K hOld
  try simp only [Act.put, List.setIfInBounds_toArray, List.set_cons_zero, List.set_cons_succ]
  have hR := row_mv (g := w.heap.size + 1 + 1) hM hR (by omega); clear hM
  have hOld := hHeld; clear hHeld
  refine wpAnyH_on (i := 7) (n := 0) (l' := (#[true, true, true, true, true, true, true, true] : Array Bool)) (by kernel_rfl) (by kernel_rfl) (by kernel_rfl) (by simp only [List.getElem?_toArray, List.getElem?_cons_succ, List.getElem?_cons_zero]; rfl) (by rfl) (fun K hK => ?_)
  refine wp_store_row 26 _ _ rfl (w.heap.size + 1 + 1) #[.int .i64 d0, .int .i64 d1, .int .i64 d2] (by rfl) (by rfl) 26 _ hR (by kernel_rfl) rfl (by simp [Value.oneCell']) ?_
  refine hK.out _ _ ⟨cell_row hOld.1 (by dsimp only; omega), cell_row hOld.2.1 (by dsimp only; omega), cell_row hOld.2.2.1 (by dsimp only; omega), cell_row hOld.2.2.2.1 (by dsimp only; omega), cell_row hOld.2.2.2.2.1 (by dsimp only; omega), cell_row hOld.2.2.2.2.2.1 (by dsimp only; omega), cell_row hOld.2.2.2.2.2.2.1 (by dsimp only; omega), cell_row hOld.2.2.2.2.2.2.2.1 (by dsimp only; omega), cell_row hOld.2.2.2.2.2.2.2.2 (by dsimp only; omega)⟩ (fun hHeld => ?_)
  clear hK K hOld
  try simp only [Act.put, List.setIfInBounds_toArray, List.set_cons_zero, List.set_cons_succ]
  refine wpAnyH_done (by kernel_rfl) ?_ _
  (try refine NoPanic.normal ?_)
  (try clear q0); (try clear q1); (try clear q2); (try clear q3); (try clear q4); (try clear q5); (try clear q6); (try clear q7); (try clear q8); obtain ⟨q0, q1, q2, q3, q4, q5, q6, q7, q8⟩ := hHeld
  have hR := row_put #[.int .i64 d0, .int .i64 d1, .int .i64 d2] hR
  go_wp2
  refine bodyPost_ret (results_cell_row rfl _ _ (w.heap.size + 1 + 1) 26 #[.int .i64 d0, .int .i64 d1, .int .i64 d2] (0, 0) _ (by rfl) hR Try.underlying26 rfl (by kernel_rfl)) rfl ⟨rfl, ?_⟩
  refine Mv.cast (HM.row (by omega) (by omega) _) ?_
  rw [← HOV.out]
  simp only [Bool.true_and, Bool.not_and, Bool.or_assoc, Bool.or_comm, Bool.or_left_comm]
set_option maxHeartbeats 16000000 in
set_option maxRecDepth 20000 in
theorem walk_QuatTurns (x0 x1 x2 x3 v0 v1 v2 : Int) (w : World) (x0_0 : -9223372036854775808 ≤ x0) (x0_1 : x0 ≤ 9223372036854775807) (x1_0 : -9223372036854775808 ≤ x1) (x1_1 : x1 ≤ 9223372036854775807) (x2_0 : -9223372036854775808 ≤ x2) (x2_1 : x2 ≤ 9223372036854775807) (x3_0 : -9223372036854775808 ≤ x3) (x3_1 : x3 ≤ 9223372036854775807) (v0_0 : -9223372036854775808 ≤ v0) (v0_1 : v0 ≤ 9223372036854775807) (v1_0 : -9223372036854775808 ≤ v1) (v1_1 : v1 ≤ 9223372036854775807) (v2_0 : -9223372036854775808 ≤ v2) (v2_1 : v2 ≤ 9223372036854775807) :
    Calls Try.prog 3 #[.agg #[.int .i64 x0, .int .i64 x1, .int .i64 x2, .int .i64 x3], .agg #[.int .i64 v0, .int .i64 v1, .int .i64 v2]] w fun e w' => e = .returned (.bool true) ∧ Below w.heap.size w w' := by
  have k1 : ∀ (c : Nat) (O : Bool) (W : World), W.cell? ⟨c, 0, none⟩ = some (.bool O) → W.frozen? ⟨c, 0, none⟩ = false → _ := fun c O W h1 h2 => (cMatrix x0 x1 x2 x3 c O W x0_0 x0_1 x1_0 x1_1 x2_0 x2_1 x3_0 x3_1 h1 h2).mono (fun e w' h => show _ ∧ Mv c (O || !rmk x0 x1 x2 x3) W w' from ⟨h.1, Mv.cast h.2 (by rw [← cmk_eq]; simp only [cmk, Bool.not_and, Bool.or_assoc])⟩)
  have k2 := fun c o W => rMatrix x0 x1 x2 x3 c o W x0_0 x0_1 x1_0 x1_1 x2_0 x2_1 x3_0 x3_1
  have r0_0 : -9223372036854775808 ≤ mo x2 x3 := by unfold mo; exact sat_lo _
  have r0_1 : mo x2 x3 ≤ 9223372036854775807 := by unfold mo; exact sat_hi _
  have r1_0 : -9223372036854775808 ≤ mn x1 x2 x0 x3 := by unfold mn tw; exact sat_lo _
  have r1_1 : mn x1 x2 x0 x3 ≤ 9223372036854775807 := by unfold mn tw; exact sat_hi _
  have r2_0 : -9223372036854775808 ≤ mp x1 x3 x0 x2 := by unfold mp tw; exact sat_lo _
  have r2_1 : mp x1 x3 x0 x2 ≤ 9223372036854775807 := by unfold mp tw; exact sat_hi _
  have r3_0 : -9223372036854775808 ≤ mp x1 x2 x0 x3 := by unfold mp tw; exact sat_lo _
  have r3_1 : mp x1 x2 x0 x3 ≤ 9223372036854775807 := by unfold mp tw; exact sat_hi _
  have r4_0 : -9223372036854775808 ≤ mo x1 x3 := by unfold mo; exact sat_lo _
  have r4_1 : mo x1 x3 ≤ 9223372036854775807 := by unfold mo; exact sat_hi _
  have r5_0 : -9223372036854775808 ≤ mn x2 x3 x0 x1 := by unfold mn tw; exact sat_lo _
  have r5_1 : mn x2 x3 x0 x1 ≤ 9223372036854775807 := by unfold mn tw; exact sat_hi _
  have r6_0 : -9223372036854775808 ≤ mn x1 x3 x0 x2 := by unfold mn tw; exact sat_lo _
  have r6_1 : mn x1 x3 x0 x2 ≤ 9223372036854775807 := by unfold mn tw; exact sat_hi _
  have r7_0 : -9223372036854775808 ≤ mp x2 x3 x0 x1 := by unfold mp tw; exact sat_lo _
  have r7_1 : mp x2 x3 x0 x1 ≤ 9223372036854775807 := by unfold mp tw; exact sat_hi _
  have r8_0 : -9223372036854775808 ≤ mo x1 x2 := by unfold mo; exact sat_lo _
  have r8_1 : mo x1 x2 ≤ 9223372036854775807 := by unfold mo; exact sat_hi _
  generalize rmk x0 x1 x2 x3 = fm at *
  generalize mo x2 x3 = r0 at *
  generalize mn x1 x2 x0 x3 = r1 at *
  generalize mp x1 x3 x0 x2 = r2 at *
  generalize mp x1 x2 x0 x3 = r3 at *
  generalize mo x1 x3 = r4 at *
  generalize mn x2 x3 x0 x1 = r5 at *
  generalize mn x1 x3 x0 x2 = r6 at *
  generalize mp x2 x3 x0 x1 = r7 at *
  generalize mo x1 x2 = r8 at *
  have k3 := fun c o W => cApply r0 r1 r2 r3 r4 r5 r6 r7 r8 v0 v1 v2 c o W r0_0 r0_1 r1_0 r1_1 r2_0 r2_1 r3_0 r3_1 r4_0 r4_1 r5_0 r5_1 r6_0 r6_1 r7_0 r7_1 r8_0 r8_1 v0_0 v0_1 v1_0 v1_1 v2_0 v2_1
  have k4 := fun c o W => rApply r0 r1 r2 r3 r4 r5 r6 r7 r8 v0 v1 v2 c o W r0_0 r0_1 r1_0 r1_1 r2_0 r2_1 r3_0 r3_1 r4_0 r4_1 r5_0 r5_1 r6_0 r6_1 r7_0 r7_1 r8_0 r8_1 v0_0 v0_1 v1_0 v1_1 v2_0 v2_1
  have k5 := fun c o W => cBack r0 r1 r2 r3 r4 r5 r6 r7 r8 v0 v1 v2 c o W r0_0 r0_1 r1_0 r1_1 r2_0 r2_1 r3_0 r3_1 r4_0 r4_1 r5_0 r5_1 r6_0 r6_1 r7_0 r7_1 r8_0 r8_1 v0_0 v0_1 v1_0 v1_1 v2_0 v2_1
  have k6 := fun c o W => rBack r0 r1 r2 r3 r4 r5 r6 r7 r8 v0 v1 v2 c o W r0_0 r0_1 r1_0 r1_1 r2_0 r2_1 r3_0 r3_1 r4_0 r4_1 r5_0 r5_1 r6_0 r6_1 r7_0 r7_1 r8_0 r8_1 v0_0 v0_1 v1_0 v1_1 v2_0 v2_1
  generalize dtok r0 r1 r2 v0 v1 v2 = d0k at *
  generalize dt r0 r1 r2 v0 v1 v2 = d0 at *
  generalize dtok r3 r4 r5 v0 v1 v2 = d1k at *
  generalize dt r3 r4 r5 v0 v1 v2 = d1 at *
  generalize dtok r6 r7 r8 v0 v1 v2 = d2k at *
  generalize dt r6 r7 r8 v0 v1 v2 = d2 at *
  generalize dtok r0 r3 r6 v0 v1 v2 = e0k at *
  generalize dt r0 r3 r6 v0 v1 v2 = e0 at *
  generalize dtok r1 r4 r7 v0 v1 v2 = e1k at *
  generalize dt r1 r4 r7 v0 v1 v2 = e1 at *
  generalize dtok r2 r5 r8 v0 v1 v2 = e2k at *
  generalize dt r2 r5 r8 v0 v1 v2 = e2 at *
  clear r0_0 r0_1 r1_0 r1_1 r2_0 r2_1 r3_0 r3_1 r4_0 r4_1 r5_0 r5_1 r6_0 r6_1 r7_0 r7_1 r8_0 r8_1 v0_0 v0_1 v1_0 v1_1 v2_0 v2_1 x0_0 x0_1 x1_0 x1_1 x2_0 x2_1 x3_0 x3_1
  go_enter Try.func3, Try.ntmps3
  go_wp2_with (fail)
  (go_at_call 9; (with_reducible refine (k1 _ false _ (by simp [go_sem, *]) (by simp [go_sem, *])).mono ?_); rintro e w1 ⟨rfl, hM⟩; have HT := Tw.start (w := w) (c := w.heap.size + 1 + 1 + 1) (p := false) (by (repeat (first | with_reducible assumption | with_reducible exact Below.refl _ _ | ((with_reducible refine Below.setCell ?_ ?_ _); rotate_left; (first | exact Nat.le_refl _ | (dsimp only; omega) | (simp; done) | (simp; omega))) | with_reducible refine below_alloc ?_ _ | with_reducible apply below_drewN | with_reducible apply Below.drew | with_reducible refine below_step ?_ (by assumption)))) hM (by omega) (by omega) (by omega) (by simp [go_sem, *]) (by simp [go_sem, *]))
  have z0 := mv_cell (a := ⟨w.heap.size, 0, none⟩) (v := .int .i64 x0) hM (by first | (dsimp only; omega) | (simp; omega)) (by simp [go_sem, *])
  have z1 := mv_cell (a := ⟨w.heap.size, 1, none⟩) (v := .int .i64 x1) hM (by first | (dsimp only; omega) | (simp; omega)) (by simp [go_sem, *])
  have z2 := mv_cell (a := ⟨w.heap.size, 2, none⟩) (v := .int .i64 x2) hM (by first | (dsimp only; omega) | (simp; omega)) (by simp [go_sem, *])
  have z3 := mv_cell (a := ⟨w.heap.size, 3, none⟩) (v := .int .i64 x3) hM (by first | (dsimp only; omega) | (simp; omega)) (by simp [go_sem, *])
  have z4 := mv_cell (a := ⟨w.heap.size + 1, 0, none⟩) (v := .int .i64 v0) hM (by first | (dsimp only; omega) | (simp; omega)) (by simp [go_sem, *])
  have z5 := mv_cell (a := ⟨w.heap.size + 1, 1, none⟩) (v := .int .i64 v1) hM (by first | (dsimp only; omega) | (simp; omega)) (by simp [go_sem, *])
  have z6 := mv_cell (a := ⟨w.heap.size + 1, 2, none⟩) (v := .int .i64 v2) hM (by first | (dsimp only; omega) | (simp; omega)) (by simp [go_sem, *])
  rename World => g
  clear hM k1
  have hzg := HT.below.size
  have hzg2 : w.heap.size + 1 + 1 + 1 < g.heap.size := World.block_lt_of_cell? g _ HT.cc
  go_upto_region 4 with (fail)
  generalize hW : World.alloc _ _ = W2
  have z0 : W2.cell? ⟨w.heap.size, 0, none⟩ = some (.int .i64 x0) := by rw [← hW]; clear hW; simp (maxDischargeDepth := 12) [go_sem, *]
  have z1 : W2.cell? ⟨w.heap.size, 1, none⟩ = some (.int .i64 x1) := by rw [← hW]; clear hW; simp (maxDischargeDepth := 12) [go_sem, *]
  have z2 : W2.cell? ⟨w.heap.size, 2, none⟩ = some (.int .i64 x2) := by rw [← hW]; clear hW; simp (maxDischargeDepth := 12) [go_sem, *]
  have z3 : W2.cell? ⟨w.heap.size, 3, none⟩ = some (.int .i64 x3) := by rw [← hW]; clear hW; simp (maxDischargeDepth := 12) [go_sem, *]
  have z4 : W2.cell? ⟨w.heap.size + 1, 0, none⟩ = some (.int .i64 v0) := by rw [← hW]; clear hW; simp (maxDischargeDepth := 12) [go_sem, *]
  have z5 : W2.cell? ⟨w.heap.size + 1, 1, none⟩ = some (.int .i64 v1) := by rw [← hW]; clear hW; simp (maxDischargeDepth := 12) [go_sem, *]
  have z6 : W2.cell? ⟨w.heap.size + 1, 2, none⟩ = some (.int .i64 v2) := by rw [← hW]; clear hW; simp (maxDischargeDepth := 12) [go_sem, *]
  have y0 : W2.cell? ⟨g.heap.size, 0, none⟩ = some (.int .i64 r0) := by rw [← hW]; clear hW; simp (maxDischargeDepth := 12) [go_sem]
  have y1 : W2.cell? ⟨g.heap.size, 1, none⟩ = some (.int .i64 r1) := by rw [← hW]; clear hW; simp (maxDischargeDepth := 12) [go_sem]
  have y2 : W2.cell? ⟨g.heap.size, 2, none⟩ = some (.int .i64 r2) := by rw [← hW]; clear hW; simp (maxDischargeDepth := 12) [go_sem]
  have y3 : W2.cell? ⟨g.heap.size, 3, none⟩ = some (.int .i64 r3) := by rw [← hW]; clear hW; simp (maxDischargeDepth := 12) [go_sem]
  have y4 : W2.cell? ⟨g.heap.size, 4, none⟩ = some (.int .i64 r4) := by rw [← hW]; clear hW; simp (maxDischargeDepth := 12) [go_sem]
  have y5 : W2.cell? ⟨g.heap.size, 5, none⟩ = some (.int .i64 r5) := by rw [← hW]; clear hW; simp (maxDischargeDepth := 12) [go_sem]
  have y6 : W2.cell? ⟨g.heap.size, 6, none⟩ = some (.int .i64 r6) := by rw [← hW]; clear hW; simp (maxDischargeDepth := 12) [go_sem]
  have y7 : W2.cell? ⟨g.heap.size, 7, none⟩ = some (.int .i64 r7) := by rw [← hW]; clear hW; simp (maxDischargeDepth := 12) [go_sem]
  have y8 : W2.cell? ⟨g.heap.size, 8, none⟩ = some (.int .i64 r8) := by rw [← hW]; clear hW; simp (maxDischargeDepth := 12) [go_sem]
  have HT := (show Tw _ _ _ _ w W2 from by rw [← hW]; (repeat (first | with_reducible assumption | with_reducible apply Tw.alloc | with_reducible apply Tw.drew | ((with_reducible apply Tw.after); rotate_left; (with_reducible assumption)) | ((with_reducible apply Tw.setCell); rotate_left; (first | (dsimp only; omega) | omega | (simp; omega)); (first | (dsimp only; omega) | omega | (simp; omega)); (first | (dsimp only; omega) | omega | (simp; omega))))))
  clear hW
  (try refine wp_region_noPanic ?_)
  refine wp_region_held_drew (S := (fun (w' : World) => w'.cell? ⟨w.heap.size, 0, none⟩ = some (.int .i64 x0) ∧ w'.cell? ⟨w.heap.size, 1, none⟩ = some (.int .i64 x1) ∧ w'.cell? ⟨w.heap.size, 2, none⟩ = some (.int .i64 x2) ∧ w'.cell? ⟨w.heap.size, 3, none⟩ = some (.int .i64 x3) ∧ w'.cell? ⟨w.heap.size + 1, 0, none⟩ = some (.int .i64 v0) ∧ w'.cell? ⟨w.heap.size + 1, 1, none⟩ = some (.int .i64 v1) ∧ w'.cell? ⟨w.heap.size + 1, 2, none⟩ = some (.int .i64 v2) ∧ w'.cell? ⟨g.heap.size, 0, none⟩ = some (.int .i64 r0) ∧ w'.cell? ⟨g.heap.size, 1, none⟩ = some (.int .i64 r1) ∧ w'.cell? ⟨g.heap.size, 2, none⟩ = some (.int .i64 r2) ∧ w'.cell? ⟨g.heap.size, 3, none⟩ = some (.int .i64 r3) ∧ w'.cell? ⟨g.heap.size, 4, none⟩ = some (.int .i64 r4) ∧ w'.cell? ⟨g.heap.size, 5, none⟩ = some (.int .i64 r5) ∧ w'.cell? ⟨g.heap.size, 6, none⟩ = some (.int .i64 r6) ∧ w'.cell? ⟨g.heap.size, 7, none⟩ = some (.int .i64 r7) ∧ w'.cell? ⟨g.heap.size, 8, none⟩ = some (.int .i64 r8))) (by kernel_rfl) ⟨(by first | (simp (maxDischargeDepth := 6) [go_sem, *]; done)), (by first | (simp (maxDischargeDepth := 6) [go_sem, *]; done)), (by first | (simp (maxDischargeDepth := 6) [go_sem, *]; done)), (by first | (simp (maxDischargeDepth := 6) [go_sem, *]; done)), (by first | (simp (maxDischargeDepth := 6) [go_sem, *]; done)), (by first | (simp (maxDischargeDepth := 6) [go_sem, *]; done)), (by first | (simp (maxDischargeDepth := 6) [go_sem, *]; done)), (by first | (simp (maxDischargeDepth := 6) [go_sem, *]; done)), (by first | (simp (maxDischargeDepth := 6) [go_sem, *]; done)), (by first | (simp (maxDischargeDepth := 6) [go_sem, *]; done)), (by first | (simp (maxDischargeDepth := 6) [go_sem, *]; done)), (by first | (simp (maxDischargeDepth := 6) [go_sem, *]; done)), (by first | (simp (maxDischargeDepth := 6) [go_sem, *]; done)), (by first | (simp (maxDischargeDepth := 6) [go_sem, *]; done)), (by first | (simp (maxDischargeDepth := 6) [go_sem, *]; done)), (by first | (simp (maxDischargeDepth := 6) [go_sem, *]; done))⟩ (fun hHeld => ?_)
  refine wpAnyH_take (i := 1) (v := ?_) (by simp only [List.getElem?_toArray, List.getElem?_cons_succ, List.getElem?_cons_zero]; rfl) (by kernel_rfl) (by kernel_rfl) (by kernel_rfl) (fun _ _ _ h => h) (Or.inl ⟨by rfl, ?_⟩) (by assumption) ?_
  rotate_left
  · intro w hSw; (try dsimp only at hSw); go_simp; try with_reducible rfl
  try simp only [Act.put, List.setIfInBounds_toArray, List.set_cons_zero, List.set_cons_succ]
  refine wpAnyH_take (i := 0) (v := ?_) (by simp only [List.getElem?_toArray, List.getElem?_cons_succ, List.getElem?_cons_zero]; rfl) (by kernel_rfl) (by kernel_rfl) (by kernel_rfl) (fun _ _ _ h => h) (Or.inl ⟨by rfl, ?_⟩) (by assumption) ?_
  rotate_left
  · intro w hSw; (try dsimp only at hSw); go_simp; try with_reducible rfl
  try simp only [Act.put, List.setIfInBounds_toArray, List.set_cons_zero, List.set_cons_succ]
  refine wpAnyH_take (i := 2) (v := ?_) (by simp only [List.getElem?_toArray, List.getElem?_cons_succ, List.getElem?_cons_zero]; rfl) (by kernel_rfl) (by kernel_rfl) (by kernel_rfl) (fun _ _ _ h => h) (Or.inl ⟨by rfl, ?_⟩) (by assumption) ?_
  rotate_left
  · intro w hSw; (try dsimp only at hSw); go_simp; try with_reducible rfl
  try simp only [Act.put, List.setIfInBounds_toArray, List.set_cons_zero, List.set_cons_succ]
  have hOld := hHeld; clear hHeld
  refine wpAnyH_ready (rs := [3]) (by kernel_rfl) (by simp) (AllReadyH.cons rfl (fun K hK => ?_) AllReadyH.nil)
  go_simp
  (go_at_call 10; (with_reducible refine (Tw.call2 (by (repeat (first | with_reducible assumption | with_reducible apply Tw.alloc | with_reducible apply Tw.drew | ((with_reducible apply Tw.after); rotate_left; (with_reducible assumption)) | ((with_reducible apply Tw.setCell); rotate_left; (first | (dsimp only; omega) | omega | (simp; omega)); (first | (dsimp only; omega) | omega | (simp; omega)); (first | (dsimp only; omega) | omega | (simp; omega)))))) (k2 _ _ _)).mono ?_); rintro e w1 ⟨rfl, hM, HT⟩)
  (try go_wp2_with (fail))
  refine hK.out _ _ ⟨(by first | exact mv_cell hM (by first | (dsimp only; omega) | (simp; omega)) hOld.1 | exact cell_later hM hOld.1 | exact HT.cb | exact HT.cc | (simp (maxDischargeDepth := 6) [go_sem, *]; done)), (by first | exact mv_cell hM (by first | (dsimp only; omega) | (simp; omega)) hOld.2.1 | exact cell_later hM hOld.2.1 | exact HT.cb | exact HT.cc | (simp (maxDischargeDepth := 6) [go_sem, *]; done)), (by first | exact mv_cell hM (by first | (dsimp only; omega) | (simp; omega)) hOld.2.2.1 | exact cell_later hM hOld.2.2.1 | exact HT.cb | exact HT.cc | (simp (maxDischargeDepth := 6) [go_sem, *]; done)), (by first | exact mv_cell hM (by first | (dsimp only; omega) | (simp; omega)) hOld.2.2.2.1 | exact cell_later hM hOld.2.2.2.1 | exact HT.cb | exact HT.cc | (simp (maxDischargeDepth := 6) [go_sem, *]; done)), (by first | exact mv_cell hM (by first | (dsimp only; omega) | (simp; omega)) hOld.2.2.2.2.1 | exact cell_later hM hOld.2.2.2.2.1 | exact HT.cb | exact HT.cc | (simp (maxDischargeDepth := 6) [go_sem, *]; done)), (by first | exact mv_cell hM (by first | (dsimp only; omega) | (simp; omega)) hOld.2.2.2.2.2.1 | exact cell_later hM hOld.2.2.2.2.2.1 | exact HT.cb | exact HT.cc | (simp (maxDischargeDepth := 6) [go_sem, *]; done)), (by first | exact mv_cell hM (by first | (dsimp only; omega) | (simp; omega)) hOld.2.2.2.2.2.2.1 | exact cell_later hM hOld.2.2.2.2.2.2.1 | exact HT.cb | exact HT.cc | (simp (maxDischargeDepth := 6) [go_sem, *]; done)), (by first | exact mv_cell hM (by first | (dsimp only; omega) | (simp; omega)) hOld.2.2.2.2.2.2.2.1 | exact cell_later hM hOld.2.2.2.2.2.2.2.1 | exact HT.cb | exact HT.cc | (simp (maxDischargeDepth := 6) [go_sem, *]; done)), (by first | exact mv_cell hM (by first | (dsimp only; omega) | (simp; omega)) hOld.2.2.2.2.2.2.2.2.1 | exact cell_later hM hOld.2.2.2.2.2.2.2.2.1 | exact HT.cb | exact HT.cc | (simp (maxDischargeDepth := 6) [go_sem, *]; done)), (by first | exact mv_cell hM (by first | (dsimp only; omega) | (simp; omega)) hOld.2.2.2.2.2.2.2.2.2.1 | exact cell_later hM hOld.2.2.2.2.2.2.2.2.2.1 | exact HT.cb | exact HT.cc | (simp (maxDischargeDepth := 6) [go_sem, *]; done)), (by first | exact mv_cell hM (by first | (dsimp only; omega) | (simp; omega)) hOld.2.2.2.2.2.2.2.2.2.2.1 | exact cell_later hM hOld.2.2.2.2.2.2.2.2.2.2.1 | exact HT.cb | exact HT.cc | (simp (maxDischargeDepth := 6) [go_sem, *]; done)), (by first | exact mv_cell hM (by first | (dsimp only; omega) | (simp; omega)) hOld.2.2.2.2.2.2.2.2.2.2.2.1 | exact cell_later hM hOld.2.2.2.2.2.2.2.2.2.2.2.1 | exact HT.cb | exact HT.cc | (simp (maxDischargeDepth := 6) [go_sem, *]; done)), (by first | exact mv_cell hM (by first | (dsimp only; omega) | (simp; omega)) hOld.2.2.2.2.2.2.2.2.2.2.2.2.1 | exact cell_later hM hOld.2.2.2.2.2.2.2.2.2.2.2.2.1 | exact HT.cb | exact HT.cc | (simp (maxDischargeDepth := 6) [go_sem, *]; done)), (by first | exact mv_cell hM (by first | (dsimp only; omega) | (simp; omega)) hOld.2.2.2.2.2.2.2.2.2.2.2.2.2.1 | exact cell_later hM hOld.2.2.2.2.2.2.2.2.2.2.2.2.2.1 | exact HT.cb | exact HT.cc | (simp (maxDischargeDepth := 6) [go_sem, *]; done)), (by first | exact mv_cell hM (by first | (dsimp only; omega) | (simp; omega)) hOld.2.2.2.2.2.2.2.2.2.2.2.2.2.2.1 | exact cell_later hM hOld.2.2.2.2.2.2.2.2.2.2.2.2.2.2.1 | exact HT.cb | exact HT.cc | (simp (maxDischargeDepth := 6) [go_sem, *]; done)), (by first | exact mv_cell hM (by first | (dsimp only; omega) | (simp; omega)) hOld.2.2.2.2.2.2.2.2.2.2.2.2.2.2.2 | exact cell_later hM hOld.2.2.2.2.2.2.2.2.2.2.2.2.2.2.2 | exact HT.cb | exact HT.cc | (simp (maxDischargeDepth := 6) [go_sem, *]; done))⟩ (fun hHeld => ?_)
  clear hK K hOld
  try simp only [Act.put, List.setIfInBounds_toArray, List.set_cons_zero, List.set_cons_succ]
  obtain ⟨ov, HT⟩ : ∃ ov, Tw (w.heap.size + 1 + 1) (w.heap.size + 1 + 1 + 1) ov ov w w1 := ⟨_, HT⟩
  have hcb := HT.cb; have hcc := HT.cc; have HB := HT.below
  refine wpAnyH_weaken (S' := (fun (w' : World) => w'.cell? ⟨w.heap.size, 0, none⟩ = some (.int .i64 x0) ∧ w'.cell? ⟨w.heap.size, 1, none⟩ = some (.int .i64 x1) ∧ w'.cell? ⟨w.heap.size, 2, none⟩ = some (.int .i64 x2) ∧ w'.cell? ⟨w.heap.size, 3, none⟩ = some (.int .i64 x3) ∧ w'.cell? ⟨w.heap.size + 1, 0, none⟩ = some (.int .i64 v0) ∧ w'.cell? ⟨w.heap.size + 1, 1, none⟩ = some (.int .i64 v1) ∧ w'.cell? ⟨w.heap.size + 1, 2, none⟩ = some (.int .i64 v2) ∧ w'.cell? ⟨g.heap.size, 0, none⟩ = some (.int .i64 r0) ∧ w'.cell? ⟨g.heap.size, 1, none⟩ = some (.int .i64 r1) ∧ w'.cell? ⟨g.heap.size, 2, none⟩ = some (.int .i64 r2) ∧ w'.cell? ⟨g.heap.size, 3, none⟩ = some (.int .i64 r3) ∧ w'.cell? ⟨g.heap.size, 4, none⟩ = some (.int .i64 r4) ∧ w'.cell? ⟨g.heap.size, 5, none⟩ = some (.int .i64 r5) ∧ w'.cell? ⟨g.heap.size, 6, none⟩ = some (.int .i64 r6) ∧ w'.cell? ⟨g.heap.size, 7, none⟩ = some (.int .i64 r7) ∧ w'.cell? ⟨g.heap.size, 8, none⟩ = some (.int .i64 r8) ∧ w'.cell? ⟨w.heap.size + 1 + 1, 0, none⟩ = some (.bool ov) ∧ w'.cell? ⟨w.heap.size + 1 + 1 + 1, 0, none⟩ = some (.bool ov))) (fun _ h => ⟨h.1, h.2.1, h.2.2.1, h.2.2.2.1, h.2.2.2.2.1, h.2.2.2.2.2.1, h.2.2.2.2.2.2.1, h.2.2.2.2.2.2.2.1, h.2.2.2.2.2.2.2.2.1, h.2.2.2.2.2.2.2.2.2.1, h.2.2.2.2.2.2.2.2.2.2.1, h.2.2.2.2.2.2.2.2.2.2.2.1, h.2.2.2.2.2.2.2.2.2.2.2.2.1, h.2.2.2.2.2.2.2.2.2.2.2.2.2.1, h.2.2.2.2.2.2.2.2.2.2.2.2.2.2.1, h.2.2.2.2.2.2.2.2.2.2.2.2.2.2.2.1⟩) _ _ _ _ ?_
  replace hHeld := (show ((fun (w' : World) => w'.cell? ⟨w.heap.size, 0, none⟩ = some (.int .i64 x0) ∧ w'.cell? ⟨w.heap.size, 1, none⟩ = some (.int .i64 x1) ∧ w'.cell? ⟨w.heap.size, 2, none⟩ = some (.int .i64 x2) ∧ w'.cell? ⟨w.heap.size, 3, none⟩ = some (.int .i64 x3) ∧ w'.cell? ⟨w.heap.size + 1, 0, none⟩ = some (.int .i64 v0) ∧ w'.cell? ⟨w.heap.size + 1, 1, none⟩ = some (.int .i64 v1) ∧ w'.cell? ⟨w.heap.size + 1, 2, none⟩ = some (.int .i64 v2) ∧ w'.cell? ⟨g.heap.size, 0, none⟩ = some (.int .i64 r0) ∧ w'.cell? ⟨g.heap.size, 1, none⟩ = some (.int .i64 r1) ∧ w'.cell? ⟨g.heap.size, 2, none⟩ = some (.int .i64 r2) ∧ w'.cell? ⟨g.heap.size, 3, none⟩ = some (.int .i64 r3) ∧ w'.cell? ⟨g.heap.size, 4, none⟩ = some (.int .i64 r4) ∧ w'.cell? ⟨g.heap.size, 5, none⟩ = some (.int .i64 r5) ∧ w'.cell? ⟨g.heap.size, 6, none⟩ = some (.int .i64 r6) ∧ w'.cell? ⟨g.heap.size, 7, none⟩ = some (.int .i64 r7) ∧ w'.cell? ⟨g.heap.size, 8, none⟩ = some (.int .i64 r8) ∧ w'.cell? ⟨w.heap.size + 1 + 1, 0, none⟩ = some (.bool ov) ∧ w'.cell? ⟨w.heap.size + 1 + 1 + 1, 0, none⟩ = some (.bool ov))) _ from ⟨(hHeld.1), (hHeld.2.1), (hHeld.2.2.1), (hHeld.2.2.2.1), (hHeld.2.2.2.2.1), (hHeld.2.2.2.2.2.1), (hHeld.2.2.2.2.2.2.1), (hHeld.2.2.2.2.2.2.2.1), (hHeld.2.2.2.2.2.2.2.2.1), (hHeld.2.2.2.2.2.2.2.2.2.1), (hHeld.2.2.2.2.2.2.2.2.2.2.1), (hHeld.2.2.2.2.2.2.2.2.2.2.2.1), (hHeld.2.2.2.2.2.2.2.2.2.2.2.2.1), (hHeld.2.2.2.2.2.2.2.2.2.2.2.2.2.1), (hHeld.2.2.2.2.2.2.2.2.2.2.2.2.2.2.1), (hHeld.2.2.2.2.2.2.2.2.2.2.2.2.2.2.2), (by first | assumption | (simp (maxDischargeDepth := 6) [go_sem, *]; done)), (by first | assumption | (simp (maxDischargeDepth := 6) [go_sem, *]; done))⟩)
  try dsimp only at hHeld
  refine wpAnyH_take (i := 4) (v := ?_) (by simp only [List.getElem?_toArray, List.getElem?_cons_succ, List.getElem?_cons_zero]; rfl) (by kernel_rfl) (by kernel_rfl) (by kernel_rfl) (fun _ _ _ h => h) (Or.inl ⟨by rfl, ?_⟩) (by assumption) ?_
  rotate_left
  · intro w hSw; (try dsimp only at hSw); go_simp; try with_reducible rfl
  try simp only [Act.put, List.setIfInBounds_toArray, List.set_cons_zero, List.set_cons_succ]
  refine wpAnyH_take (i := 5) (v := ?_) (by simp only [List.getElem?_toArray, List.getElem?_cons_succ, List.getElem?_cons_zero]; rfl) (by kernel_rfl) (by kernel_rfl) (by kernel_rfl) (fun _ _ _ h => h) (Or.inl ⟨by rfl, ?_⟩) (by assumption) ?_
  rotate_left
  · intro w hSw; (try dsimp only at hSw); go_simp; try with_reducible rfl
  try simp only [Act.put, List.setIfInBounds_toArray, List.set_cons_zero, List.set_cons_succ]
  refine wpAnyH_take (i := 6) (v := ?_) (by simp only [List.getElem?_toArray, List.getElem?_cons_succ, List.getElem?_cons_zero]; rfl) (by kernel_rfl) (by kernel_rfl) (by kernel_rfl) (fun _ _ _ h => h) (Or.inl ⟨by rfl, ?_⟩) (by assumption) ?_
  rotate_left
  · intro w hSw; (try dsimp only at hSw); go_simp; try with_reducible rfl
  try simp only [Act.put, List.setIfInBounds_toArray, List.set_cons_zero, List.set_cons_succ]
  refine wpAnyH_take (i := 7) (v := ?_) (by simp only [List.getElem?_toArray, List.getElem?_cons_succ, List.getElem?_cons_zero]; rfl) (by kernel_rfl) (by kernel_rfl) (by kernel_rfl) (fun _ _ _ h => h) (Or.inl ⟨by rfl, ?_⟩) (by assumption) ?_
  rotate_left
  · intro w hSw; (try dsimp only at hSw); go_simp; try with_reducible rfl
  try simp only [Act.put, List.setIfInBounds_toArray, List.set_cons_zero, List.set_cons_succ]
  refine wpAnyH_take (i := 8) (v := ?_) (by simp only [List.getElem?_toArray, List.getElem?_cons_succ, List.getElem?_cons_zero]; rfl) (by kernel_rfl) (by kernel_rfl) (by kernel_rfl) (fun _ _ _ h => h) (Or.inl ⟨by rfl, ?_⟩) (by assumption) ?_
  rotate_left
  · intro w hSw; (try dsimp only at hSw); go_simp; try with_reducible rfl
  try simp only [Act.put, List.setIfInBounds_toArray, List.set_cons_zero, List.set_cons_succ]
  refine wpAnyH_take (i := 10) (v := ?_) (by simp only [List.getElem?_toArray, List.getElem?_cons_succ, List.getElem?_cons_zero]; rfl) (by kernel_rfl) (by kernel_rfl) (by kernel_rfl) (fun _ _ _ h => h) (Or.inl ⟨by rfl, ?_⟩) (by assumption) ?_
  rotate_left
  · intro w hSw; (try dsimp only at hSw); go_simp; try with_reducible rfl
  try simp only [Act.put, List.setIfInBounds_toArray, List.set_cons_zero, List.set_cons_succ]
  refine wpAnyH_take (i := 11) (v := ?_) (by simp only [List.getElem?_toArray, List.getElem?_cons_succ, List.getElem?_cons_zero]; rfl) (by kernel_rfl) (by kernel_rfl) (by kernel_rfl) (fun _ _ _ h => h) (Or.inl ⟨by rfl, ?_⟩) (by assumption) ?_
  rotate_left
  · intro w hSw; (try dsimp only at hSw); go_simp; try with_reducible rfl
  try simp only [Act.put, List.setIfInBounds_toArray, List.set_cons_zero, List.set_cons_succ]
  refine wpAnyH_take (i := 12) (v := ?_) (by simp only [List.getElem?_toArray, List.getElem?_cons_succ, List.getElem?_cons_zero]; rfl) (by kernel_rfl) (by kernel_rfl) (by kernel_rfl) (fun _ _ _ h => h) (Or.inl ⟨by rfl, ?_⟩) (by assumption) ?_
  rotate_left
  · intro w hSw; (try dsimp only at hSw); go_simp; try with_reducible rfl
  try simp only [Act.put, List.setIfInBounds_toArray, List.set_cons_zero, List.set_cons_succ]
  refine wpAnyH_take (i := 9) (v := ?_) (by simp only [List.getElem?_toArray, List.getElem?_cons_succ, List.getElem?_cons_zero]; rfl) (by kernel_rfl) (by kernel_rfl) (by kernel_rfl) (fun _ _ _ h => h) (Or.inl ⟨by rfl, ?_⟩) (by assumption) ?_
  rotate_left
  · intro w hSw; (try dsimp only at hSw); go_simp; try with_reducible rfl
  try simp only [Act.put, List.setIfInBounds_toArray, List.set_cons_zero, List.set_cons_succ]
  refine wpAnyH_take (i := 13) (v := ?_) (by simp only [List.getElem?_toArray, List.getElem?_cons_succ, List.getElem?_cons_zero]; rfl) (by kernel_rfl) (by kernel_rfl) (by kernel_rfl) (fun _ _ _ h => h) (Or.inl ⟨by rfl, ?_⟩) (by assumption) ?_
  rotate_left
  · intro w hSw; (try dsimp only at hSw); go_simp; try with_reducible rfl
  try simp only [Act.put, List.setIfInBounds_toArray, List.set_cons_zero, List.set_cons_succ]
  refine wpAnyH_take (i := 14) (v := ?_) (by simp only [List.getElem?_toArray, List.getElem?_cons_succ, List.getElem?_cons_zero]; rfl) (by kernel_rfl) (by kernel_rfl) (by kernel_rfl) (fun _ _ _ h => h) (Or.inl ⟨by rfl, ?_⟩) (by assumption) ?_
  rotate_left
  · intro w hSw; (try dsimp only at hSw); go_simp; try with_reducible rfl
  try simp only [Act.put, List.setIfInBounds_toArray, List.set_cons_zero, List.set_cons_succ]
  refine wpAnyH_take (i := 15) (v := ?_) (by simp only [List.getElem?_toArray, List.getElem?_cons_succ, List.getElem?_cons_zero]; rfl) (by kernel_rfl) (by kernel_rfl) (by kernel_rfl) (fun _ _ _ h => h) (Or.inl ⟨by rfl, ?_⟩) (by assumption) ?_
  rotate_left
  · intro w hSw; (try dsimp only at hSw); go_simp; try with_reducible rfl
  try simp only [Act.put, List.setIfInBounds_toArray, List.set_cons_zero, List.set_cons_succ]
  refine wpAnyH_done (by kernel_rfl) ?_ _
  (try refine NoPanic.normal ?_)
  (try clear q0); (try clear q1); (try clear q2); (try clear q3); (try clear q4); (try clear q5); (try clear q6); (try clear q7); (try clear q8); (try clear q9); (try clear q10); (try clear q11); (try clear q12); (try clear q13); (try clear q14); (try clear q15); (try clear q16); (try clear q17); obtain ⟨q0, q1, q2, q3, q4, q5, q6, q7, q8, q9, q10, q11, q12, q13, q14, q15, q16, q17⟩ := hHeld
  rename World => h
  clear hM k2 hcb hcc
  go_upto_region 6 with (fail)
  (try refine wp_region_noPanic ?_)
  refine wp_region_held_drew (S := (fun (w' : World) => w'.cell? ⟨w.heap.size + 1, 0, none⟩ = some (.int .i64 v0) ∧ w'.cell? ⟨w.heap.size + 1, 1, none⟩ = some (.int .i64 v1) ∧ w'.cell? ⟨w.heap.size + 1, 2, none⟩ = some (.int .i64 v2) ∧ w'.cell? ⟨g.heap.size, 0, none⟩ = some (.int .i64 r0) ∧ w'.cell? ⟨g.heap.size, 1, none⟩ = some (.int .i64 r1) ∧ w'.cell? ⟨g.heap.size, 2, none⟩ = some (.int .i64 r2) ∧ w'.cell? ⟨g.heap.size, 3, none⟩ = some (.int .i64 r3) ∧ w'.cell? ⟨g.heap.size, 4, none⟩ = some (.int .i64 r4) ∧ w'.cell? ⟨g.heap.size, 5, none⟩ = some (.int .i64 r5) ∧ w'.cell? ⟨g.heap.size, 6, none⟩ = some (.int .i64 r6) ∧ w'.cell? ⟨g.heap.size, 7, none⟩ = some (.int .i64 r7) ∧ w'.cell? ⟨g.heap.size, 8, none⟩ = some (.int .i64 r8))) (by kernel_rfl) ⟨(by first | (simp (maxDischargeDepth := 6) [go_sem, *]; done)), (by first | (simp (maxDischargeDepth := 6) [go_sem, *]; done)), (by first | (simp (maxDischargeDepth := 6) [go_sem, *]; done)), (by first | (simp (maxDischargeDepth := 6) [go_sem, *]; done)), (by first | (simp (maxDischargeDepth := 6) [go_sem, *]; done)), (by first | (simp (maxDischargeDepth := 6) [go_sem, *]; done)), (by first | (simp (maxDischargeDepth := 6) [go_sem, *]; done)), (by first | (simp (maxDischargeDepth := 6) [go_sem, *]; done)), (by first | (simp (maxDischargeDepth := 6) [go_sem, *]; done)), (by first | (simp (maxDischargeDepth := 6) [go_sem, *]; done)), (by first | (simp (maxDischargeDepth := 6) [go_sem, *]; done)), (by first | (simp (maxDischargeDepth := 6) [go_sem, *]; done))⟩ (fun hHeld => ?_)
  refine wpAnyH_take (i := 0) (v := ?_) (by simp only [List.getElem?_toArray, List.getElem?_cons_succ, List.getElem?_cons_zero]; rfl) (by kernel_rfl) (by kernel_rfl) (by kernel_rfl) (fun _ _ _ h => h) (Or.inl ⟨by rfl, ?_⟩) (by assumption) ?_
  rotate_left
  · intro w hSw; (try dsimp only at hSw); go_simp; try with_reducible rfl
  try simp only [Act.put, List.setIfInBounds_toArray, List.set_cons_zero, List.set_cons_succ]
  refine wpAnyH_take (i := 4) (v := ?_) (by simp only [List.getElem?_toArray, List.getElem?_cons_succ, List.getElem?_cons_zero]; rfl) (by kernel_rfl) (by kernel_rfl) (by kernel_rfl) (fun _ _ _ h => h) (Or.inl ⟨by rfl, ?_⟩) (by assumption) ?_
  rotate_left
  · intro w hSw; (try dsimp only at hSw); go_simp; try with_reducible rfl
  try simp only [Act.put, List.setIfInBounds_toArray, List.set_cons_zero, List.set_cons_succ]
  refine wpAnyH_take (i := 1) (v := ?_) (by simp only [List.getElem?_toArray, List.getElem?_cons_succ, List.getElem?_cons_zero]; rfl) (by kernel_rfl) (by kernel_rfl) (by kernel_rfl) (fun _ _ _ h => h) (Or.inl ⟨by rfl, ?_⟩) (by assumption) ?_
  rotate_left
  · intro w hSw; (try dsimp only at hSw); go_simp; try with_reducible rfl
  try simp only [Act.put, List.setIfInBounds_toArray, List.set_cons_zero, List.set_cons_succ]
  refine wpAnyH_take (i := 2) (v := ?_) (by simp only [List.getElem?_toArray, List.getElem?_cons_succ, List.getElem?_cons_zero]; rfl) (by kernel_rfl) (by kernel_rfl) (by kernel_rfl) (fun _ _ _ h => h) (Or.inl ⟨by rfl, ?_⟩) (by assumption) ?_
  rotate_left
  · intro w hSw; (try dsimp only at hSw); go_simp; try with_reducible rfl
  try simp only [Act.put, List.setIfInBounds_toArray, List.set_cons_zero, List.set_cons_succ]
  refine wpAnyH_take (i := 5) (v := ?_) (by simp only [List.getElem?_toArray, List.getElem?_cons_succ, List.getElem?_cons_zero]; rfl) (by kernel_rfl) (by kernel_rfl) (by kernel_rfl) (fun _ _ _ h => h) (Or.inl ⟨by rfl, ?_⟩) (by assumption) ?_
  rotate_left
  · intro w hSw; (try dsimp only at hSw); go_simp; try with_reducible rfl
  try simp only [Act.put, List.setIfInBounds_toArray, List.set_cons_zero, List.set_cons_succ]
  refine wpAnyH_take (i := 6) (v := ?_) (by simp only [List.getElem?_toArray, List.getElem?_cons_succ, List.getElem?_cons_zero]; rfl) (by kernel_rfl) (by kernel_rfl) (by kernel_rfl) (fun _ _ _ h => h) (Or.inl ⟨by rfl, ?_⟩) (by assumption) ?_
  rotate_left
  · intro w hSw; (try dsimp only at hSw); go_simp; try with_reducible rfl
  try simp only [Act.put, List.setIfInBounds_toArray, List.set_cons_zero, List.set_cons_succ]
  have hOld := hHeld; clear hHeld
  refine wpAnyH_ready (rs := [3]) (by kernel_rfl) (by simp) (AllReadyH.cons rfl (fun K hK => ?_) AllReadyH.nil)
  go_simp
  (go_at_call 11; (with_reducible refine (Tw.call1 (by (repeat (first | with_reducible assumption | with_reducible apply Tw.alloc | with_reducible apply Tw.drew | ((with_reducible apply Tw.after); rotate_left; (with_reducible assumption)) | ((with_reducible apply Tw.setCell); rotate_left; (first | (dsimp only; omega) | omega | (simp; omega)); (first | (dsimp only; omega) | omega | (simp; omega)); (first | (dsimp only; omega) | omega | (simp; omega)))))) (k3 _ _ _)).mono ?_); rintro e w1 ⟨rfl, hM, HT⟩)
  (try go_wp2_with (fail))
  refine hK.out _ _ ⟨(by first | exact mv_cell hM (by first | (dsimp only; omega) | (simp; omega)) hOld.1 | exact cell_later hM hOld.1 | exact HT.cb | exact HT.cc | (simp (maxDischargeDepth := 6) [go_sem, *]; done)), (by first | exact mv_cell hM (by first | (dsimp only; omega) | (simp; omega)) hOld.2.1 | exact cell_later hM hOld.2.1 | exact HT.cb | exact HT.cc | (simp (maxDischargeDepth := 6) [go_sem, *]; done)), (by first | exact mv_cell hM (by first | (dsimp only; omega) | (simp; omega)) hOld.2.2.1 | exact cell_later hM hOld.2.2.1 | exact HT.cb | exact HT.cc | (simp (maxDischargeDepth := 6) [go_sem, *]; done)), (by first | exact mv_cell hM (by first | (dsimp only; omega) | (simp; omega)) hOld.2.2.2.1 | exact cell_later hM hOld.2.2.2.1 | exact HT.cb | exact HT.cc | (simp (maxDischargeDepth := 6) [go_sem, *]; done)), (by first | exact mv_cell hM (by first | (dsimp only; omega) | (simp; omega)) hOld.2.2.2.2.1 | exact cell_later hM hOld.2.2.2.2.1 | exact HT.cb | exact HT.cc | (simp (maxDischargeDepth := 6) [go_sem, *]; done)), (by first | exact mv_cell hM (by first | (dsimp only; omega) | (simp; omega)) hOld.2.2.2.2.2.1 | exact cell_later hM hOld.2.2.2.2.2.1 | exact HT.cb | exact HT.cc | (simp (maxDischargeDepth := 6) [go_sem, *]; done)), (by first | exact mv_cell hM (by first | (dsimp only; omega) | (simp; omega)) hOld.2.2.2.2.2.2.1 | exact cell_later hM hOld.2.2.2.2.2.2.1 | exact HT.cb | exact HT.cc | (simp (maxDischargeDepth := 6) [go_sem, *]; done)), (by first | exact mv_cell hM (by first | (dsimp only; omega) | (simp; omega)) hOld.2.2.2.2.2.2.2.1 | exact cell_later hM hOld.2.2.2.2.2.2.2.1 | exact HT.cb | exact HT.cc | (simp (maxDischargeDepth := 6) [go_sem, *]; done)), (by first | exact mv_cell hM (by first | (dsimp only; omega) | (simp; omega)) hOld.2.2.2.2.2.2.2.2.1 | exact cell_later hM hOld.2.2.2.2.2.2.2.2.1 | exact HT.cb | exact HT.cc | (simp (maxDischargeDepth := 6) [go_sem, *]; done)), (by first | exact mv_cell hM (by first | (dsimp only; omega) | (simp; omega)) hOld.2.2.2.2.2.2.2.2.2.1 | exact cell_later hM hOld.2.2.2.2.2.2.2.2.2.1 | exact HT.cb | exact HT.cc | (simp (maxDischargeDepth := 6) [go_sem, *]; done)), (by first | exact mv_cell hM (by first | (dsimp only; omega) | (simp; omega)) hOld.2.2.2.2.2.2.2.2.2.2.1 | exact cell_later hM hOld.2.2.2.2.2.2.2.2.2.2.1 | exact HT.cb | exact HT.cc | (simp (maxDischargeDepth := 6) [go_sem, *]; done)), (by first | exact mv_cell hM (by first | (dsimp only; omega) | (simp; omega)) hOld.2.2.2.2.2.2.2.2.2.2.2 | exact cell_later hM hOld.2.2.2.2.2.2.2.2.2.2.2 | exact HT.cb | exact HT.cc | (simp (maxDischargeDepth := 6) [go_sem, *]; done))⟩ (fun hHeld => ?_)
  clear hK K hOld
  try simp only [Act.put, List.setIfInBounds_toArray, List.set_cons_zero, List.set_cons_succ]
  have hOld := hHeld; clear hHeld
  refine wpAnyH_ready (rs := [7]) (by kernel_rfl) (by simp) (AllReadyH.cons rfl (fun K hK => ?_) AllReadyH.nil)
  go_simp
  (go_at_call 12; (with_reducible refine (Tw.call2 (by (repeat (first | with_reducible assumption | with_reducible apply Tw.alloc | with_reducible apply Tw.drew | ((with_reducible apply Tw.after); rotate_left; (with_reducible assumption)) | ((with_reducible apply Tw.setCell); rotate_left; (first | (dsimp only; omega) | omega | (simp; omega)); (first | (dsimp only; omega) | omega | (simp; omega)); (first | (dsimp only; omega) | omega | (simp; omega)))))) (k4 _ _ _)).mono ?_); rintro e w1 ⟨rfl, hM, HT⟩)
  (try go_wp2_with (fail))
  refine hK.out _ _ ⟨(by first | exact mv_cell hM (by first | (dsimp only; omega) | (simp; omega)) hOld.1 | exact cell_later hM hOld.1 | exact HT.cb | exact HT.cc | (simp (maxDischargeDepth := 6) [go_sem, *]; done)), (by first | exact mv_cell hM (by first | (dsimp only; omega) | (simp; omega)) hOld.2.1 | exact cell_later hM hOld.2.1 | exact HT.cb | exact HT.cc | (simp (maxDischargeDepth := 6) [go_sem, *]; done)), (by first | exact mv_cell hM (by first | (dsimp only; omega) | (simp; omega)) hOld.2.2.1 | exact cell_later hM hOld.2.2.1 | exact HT.cb | exact HT.cc | (simp (maxDischargeDepth := 6) [go_sem, *]; done)), (by first | exact mv_cell hM (by first | (dsimp only; omega) | (simp; omega)) hOld.2.2.2.1 | exact cell_later hM hOld.2.2.2.1 | exact HT.cb | exact HT.cc | (simp (maxDischargeDepth := 6) [go_sem, *]; done)), (by first | exact mv_cell hM (by first | (dsimp only; omega) | (simp; omega)) hOld.2.2.2.2.1 | exact cell_later hM hOld.2.2.2.2.1 | exact HT.cb | exact HT.cc | (simp (maxDischargeDepth := 6) [go_sem, *]; done)), (by first | exact mv_cell hM (by first | (dsimp only; omega) | (simp; omega)) hOld.2.2.2.2.2.1 | exact cell_later hM hOld.2.2.2.2.2.1 | exact HT.cb | exact HT.cc | (simp (maxDischargeDepth := 6) [go_sem, *]; done)), (by first | exact mv_cell hM (by first | (dsimp only; omega) | (simp; omega)) hOld.2.2.2.2.2.2.1 | exact cell_later hM hOld.2.2.2.2.2.2.1 | exact HT.cb | exact HT.cc | (simp (maxDischargeDepth := 6) [go_sem, *]; done)), (by first | exact mv_cell hM (by first | (dsimp only; omega) | (simp; omega)) hOld.2.2.2.2.2.2.2.1 | exact cell_later hM hOld.2.2.2.2.2.2.2.1 | exact HT.cb | exact HT.cc | (simp (maxDischargeDepth := 6) [go_sem, *]; done)), (by first | exact mv_cell hM (by first | (dsimp only; omega) | (simp; omega)) hOld.2.2.2.2.2.2.2.2.1 | exact cell_later hM hOld.2.2.2.2.2.2.2.2.1 | exact HT.cb | exact HT.cc | (simp (maxDischargeDepth := 6) [go_sem, *]; done)), (by first | exact mv_cell hM (by first | (dsimp only; omega) | (simp; omega)) hOld.2.2.2.2.2.2.2.2.2.1 | exact cell_later hM hOld.2.2.2.2.2.2.2.2.2.1 | exact HT.cb | exact HT.cc | (simp (maxDischargeDepth := 6) [go_sem, *]; done)), (by first | exact mv_cell hM (by first | (dsimp only; omega) | (simp; omega)) hOld.2.2.2.2.2.2.2.2.2.2.1 | exact cell_later hM hOld.2.2.2.2.2.2.2.2.2.2.1 | exact HT.cb | exact HT.cc | (simp (maxDischargeDepth := 6) [go_sem, *]; done)), (by first | exact mv_cell hM (by first | (dsimp only; omega) | (simp; omega)) hOld.2.2.2.2.2.2.2.2.2.2.2 | exact cell_later hM hOld.2.2.2.2.2.2.2.2.2.2.2 | exact HT.cb | exact HT.cc | (simp (maxDischargeDepth := 6) [go_sem, *]; done))⟩ (fun hHeld => ?_)
  clear hK K hOld
  try simp only [Act.put, List.setIfInBounds_toArray, List.set_cons_zero, List.set_cons_succ]
  refine wpAnyH_take (i := 8) (v := ?_) (by simp only [List.getElem?_toArray, List.getElem?_cons_succ, List.getElem?_cons_zero]; rfl) (by kernel_rfl) (by kernel_rfl) (by kernel_rfl) (fun _ _ _ h => h) (Or.inl ⟨by rfl, ?_⟩) (by assumption) ?_
  rotate_left
  · intro w hSw; (try dsimp only at hSw); go_simp; try with_reducible rfl
  try simp only [Act.put, List.setIfInBounds_toArray, List.set_cons_zero, List.set_cons_succ]
  refine wpAnyH_take (i := 9) (v := ?_) (by simp only [List.getElem?_toArray, List.getElem?_cons_succ, List.getElem?_cons_zero]; rfl) (by kernel_rfl) (by kernel_rfl) (by kernel_rfl) (fun _ _ _ h => h) (Or.inl ⟨by rfl, ?_⟩) (by assumption) ?_
  rotate_left
  · intro w hSw; (try dsimp only at hSw); go_simp; try with_reducible rfl
  try simp only [Act.put, List.setIfInBounds_toArray, List.set_cons_zero, List.set_cons_succ]
  refine wpAnyH_take (i := 10) (v := ?_) (by simp only [List.getElem?_toArray, List.getElem?_cons_succ, List.getElem?_cons_zero]; rfl) (by kernel_rfl) (by kernel_rfl) (by kernel_rfl) (fun _ _ _ h => h) (Or.inl ⟨by rfl, ?_⟩) (by assumption) ?_
  rotate_left
  · intro w hSw; (try dsimp only at hSw); go_simp; try with_reducible rfl
  try simp only [Act.put, List.setIfInBounds_toArray, List.set_cons_zero, List.set_cons_succ]
  refine wpAnyH_take (i := 14) (v := ?_) (by simp only [List.getElem?_toArray, List.getElem?_cons_succ, List.getElem?_cons_zero]; rfl) (by kernel_rfl) (by kernel_rfl) (by kernel_rfl) (fun _ _ _ h => h) (Or.inl ⟨by rfl, ?_⟩) (by assumption) ?_
  rotate_left
  · intro w hSw; (try dsimp only at hSw); go_simp; try with_reducible rfl
  try simp only [Act.put, List.setIfInBounds_toArray, List.set_cons_zero, List.set_cons_succ]
  refine wpAnyH_take (i := 11) (v := ?_) (by simp only [List.getElem?_toArray, List.getElem?_cons_succ, List.getElem?_cons_zero]; rfl) (by kernel_rfl) (by kernel_rfl) (by kernel_rfl) (fun _ _ _ h => h) (Or.inl ⟨by rfl, ?_⟩) (by assumption) ?_
  rotate_left
  · intro w hSw; (try dsimp only at hSw); go_simp; try with_reducible rfl
  try simp only [Act.put, List.setIfInBounds_toArray, List.set_cons_zero, List.set_cons_succ]
  refine wpAnyH_take (i := 12) (v := ?_) (by simp only [List.getElem?_toArray, List.getElem?_cons_succ, List.getElem?_cons_zero]; rfl) (by kernel_rfl) (by kernel_rfl) (by kernel_rfl) (fun _ _ _ h => h) (Or.inl ⟨by rfl, ?_⟩) (by assumption) ?_
  rotate_left
  · intro w hSw; (try dsimp only at hSw); go_simp; try with_reducible rfl
  try simp only [Act.put, List.setIfInBounds_toArray, List.set_cons_zero, List.set_cons_succ]
  refine wpAnyH_take (i := 15) (v := ?_) (by simp only [List.getElem?_toArray, List.getElem?_cons_succ, List.getElem?_cons_zero]; rfl) (by kernel_rfl) (by kernel_rfl) (by kernel_rfl) (fun _ _ _ h => h) (Or.inl ⟨by rfl, ?_⟩) (by assumption) ?_
  rotate_left
  · intro w hSw; (try dsimp only at hSw); go_simp; try with_reducible rfl
  try simp only [Act.put, List.setIfInBounds_toArray, List.set_cons_zero, List.set_cons_succ]
  refine wpAnyH_take (i := 16) (v := ?_) (by simp only [List.getElem?_toArray, List.getElem?_cons_succ, List.getElem?_cons_zero]; rfl) (by kernel_rfl) (by kernel_rfl) (by kernel_rfl) (fun _ _ _ h => h) (Or.inl ⟨by rfl, ?_⟩) (by assumption) ?_
  rotate_left
  · intro w hSw; (try dsimp only at hSw); go_simp; try with_reducible rfl
  try simp only [Act.put, List.setIfInBounds_toArray, List.set_cons_zero, List.set_cons_succ]
  have hOld := hHeld; clear hHeld
  refine wpAnyH_ready (rs := [13]) (by kernel_rfl) (by simp) (AllReadyH.cons rfl (fun K hK => ?_) AllReadyH.nil)
  go_simp
  (go_at_call 13; (with_reducible refine (Tw.call1 (by (repeat (first | with_reducible assumption | with_reducible apply Tw.alloc | with_reducible apply Tw.drew | ((with_reducible apply Tw.after); rotate_left; (with_reducible assumption)) | ((with_reducible apply Tw.setCell); rotate_left; (first | (dsimp only; omega) | omega | (simp; omega)); (first | (dsimp only; omega) | omega | (simp; omega)); (first | (dsimp only; omega) | omega | (simp; omega)))))) (k5 _ _ _)).mono ?_); rintro e w1 ⟨rfl, hM, HT⟩)
  (try go_wp2_with (fail))
  refine hK.out _ _ ⟨(by first | exact mv_cell hM (by first | (dsimp only; omega) | (simp; omega)) hOld.1 | exact cell_later hM hOld.1 | exact HT.cb | exact HT.cc | (simp (maxDischargeDepth := 6) [go_sem, *]; done)), (by first | exact mv_cell hM (by first | (dsimp only; omega) | (simp; omega)) hOld.2.1 | exact cell_later hM hOld.2.1 | exact HT.cb | exact HT.cc | (simp (maxDischargeDepth := 6) [go_sem, *]; done)), (by first | exact mv_cell hM (by first | (dsimp only; omega) | (simp; omega)) hOld.2.2.1 | exact cell_later hM hOld.2.2.1 | exact HT.cb | exact HT.cc | (simp (maxDischargeDepth := 6) [go_sem, *]; done)), (by first | exact mv_cell hM (by first | (dsimp only; omega) | (simp; omega)) hOld.2.2.2.1 | exact cell_later hM hOld.2.2.2.1 | exact HT.cb | exact HT.cc | (simp (maxDischargeDepth := 6) [go_sem, *]; done)), (by first | exact mv_cell hM (by first | (dsimp only; omega) | (simp; omega)) hOld.2.2.2.2.1 | exact cell_later hM hOld.2.2.2.2.1 | exact HT.cb | exact HT.cc | (simp (maxDischargeDepth := 6) [go_sem, *]; done)), (by first | exact mv_cell hM (by first | (dsimp only; omega) | (simp; omega)) hOld.2.2.2.2.2.1 | exact cell_later hM hOld.2.2.2.2.2.1 | exact HT.cb | exact HT.cc | (simp (maxDischargeDepth := 6) [go_sem, *]; done)), (by first | exact mv_cell hM (by first | (dsimp only; omega) | (simp; omega)) hOld.2.2.2.2.2.2.1 | exact cell_later hM hOld.2.2.2.2.2.2.1 | exact HT.cb | exact HT.cc | (simp (maxDischargeDepth := 6) [go_sem, *]; done)), (by first | exact mv_cell hM (by first | (dsimp only; omega) | (simp; omega)) hOld.2.2.2.2.2.2.2.1 | exact cell_later hM hOld.2.2.2.2.2.2.2.1 | exact HT.cb | exact HT.cc | (simp (maxDischargeDepth := 6) [go_sem, *]; done)), (by first | exact mv_cell hM (by first | (dsimp only; omega) | (simp; omega)) hOld.2.2.2.2.2.2.2.2.1 | exact cell_later hM hOld.2.2.2.2.2.2.2.2.1 | exact HT.cb | exact HT.cc | (simp (maxDischargeDepth := 6) [go_sem, *]; done)), (by first | exact mv_cell hM (by first | (dsimp only; omega) | (simp; omega)) hOld.2.2.2.2.2.2.2.2.2.1 | exact cell_later hM hOld.2.2.2.2.2.2.2.2.2.1 | exact HT.cb | exact HT.cc | (simp (maxDischargeDepth := 6) [go_sem, *]; done)), (by first | exact mv_cell hM (by first | (dsimp only; omega) | (simp; omega)) hOld.2.2.2.2.2.2.2.2.2.2.1 | exact cell_later hM hOld.2.2.2.2.2.2.2.2.2.2.1 | exact HT.cb | exact HT.cc | (simp (maxDischargeDepth := 6) [go_sem, *]; done)), (by first | exact mv_cell hM (by first | (dsimp only; omega) | (simp; omega)) hOld.2.2.2.2.2.2.2.2.2.2.2 | exact cell_later hM hOld.2.2.2.2.2.2.2.2.2.2.2 | exact HT.cb | exact HT.cc | (simp (maxDischargeDepth := 6) [go_sem, *]; done))⟩ (fun hHeld => ?_)
  clear hK K hOld
  try simp only [Act.put, List.setIfInBounds_toArray, List.set_cons_zero, List.set_cons_succ]
  have hOld := hHeld; clear hHeld
  refine wpAnyH_ready (rs := [17]) (by kernel_rfl) (by simp) (AllReadyH.cons rfl (fun K hK => ?_) AllReadyH.nil)
  go_simp
  (go_at_call 14; (with_reducible refine (Tw.call2 (by (repeat (first | with_reducible assumption | with_reducible apply Tw.alloc | with_reducible apply Tw.drew | ((with_reducible apply Tw.after); rotate_left; (with_reducible assumption)) | ((with_reducible apply Tw.setCell); rotate_left; (first | (dsimp only; omega) | omega | (simp; omega)); (first | (dsimp only; omega) | omega | (simp; omega)); (first | (dsimp only; omega) | omega | (simp; omega)))))) (k6 _ _ _)).mono ?_); rintro e w1 ⟨rfl, hM, HT⟩)
  (try go_wp2_with (fail))
  refine hK.out _ _ ⟨(by first | exact mv_cell hM (by first | (dsimp only; omega) | (simp; omega)) hOld.1 | exact cell_later hM hOld.1 | exact HT.cb | exact HT.cc | (simp (maxDischargeDepth := 6) [go_sem, *]; done)), (by first | exact mv_cell hM (by first | (dsimp only; omega) | (simp; omega)) hOld.2.1 | exact cell_later hM hOld.2.1 | exact HT.cb | exact HT.cc | (simp (maxDischargeDepth := 6) [go_sem, *]; done)), (by first | exact mv_cell hM (by first | (dsimp only; omega) | (simp; omega)) hOld.2.2.1 | exact cell_later hM hOld.2.2.1 | exact HT.cb | exact HT.cc | (simp (maxDischargeDepth := 6) [go_sem, *]; done)), (by first | exact mv_cell hM (by first | (dsimp only; omega) | (simp; omega)) hOld.2.2.2.1 | exact cell_later hM hOld.2.2.2.1 | exact HT.cb | exact HT.cc | (simp (maxDischargeDepth := 6) [go_sem, *]; done)), (by first | exact mv_cell hM (by first | (dsimp only; omega) | (simp; omega)) hOld.2.2.2.2.1 | exact cell_later hM hOld.2.2.2.2.1 | exact HT.cb | exact HT.cc | (simp (maxDischargeDepth := 6) [go_sem, *]; done)), (by first | exact mv_cell hM (by first | (dsimp only; omega) | (simp; omega)) hOld.2.2.2.2.2.1 | exact cell_later hM hOld.2.2.2.2.2.1 | exact HT.cb | exact HT.cc | (simp (maxDischargeDepth := 6) [go_sem, *]; done)), (by first | exact mv_cell hM (by first | (dsimp only; omega) | (simp; omega)) hOld.2.2.2.2.2.2.1 | exact cell_later hM hOld.2.2.2.2.2.2.1 | exact HT.cb | exact HT.cc | (simp (maxDischargeDepth := 6) [go_sem, *]; done)), (by first | exact mv_cell hM (by first | (dsimp only; omega) | (simp; omega)) hOld.2.2.2.2.2.2.2.1 | exact cell_later hM hOld.2.2.2.2.2.2.2.1 | exact HT.cb | exact HT.cc | (simp (maxDischargeDepth := 6) [go_sem, *]; done)), (by first | exact mv_cell hM (by first | (dsimp only; omega) | (simp; omega)) hOld.2.2.2.2.2.2.2.2.1 | exact cell_later hM hOld.2.2.2.2.2.2.2.2.1 | exact HT.cb | exact HT.cc | (simp (maxDischargeDepth := 6) [go_sem, *]; done)), (by first | exact mv_cell hM (by first | (dsimp only; omega) | (simp; omega)) hOld.2.2.2.2.2.2.2.2.2.1 | exact cell_later hM hOld.2.2.2.2.2.2.2.2.2.1 | exact HT.cb | exact HT.cc | (simp (maxDischargeDepth := 6) [go_sem, *]; done)), (by first | exact mv_cell hM (by first | (dsimp only; omega) | (simp; omega)) hOld.2.2.2.2.2.2.2.2.2.2.1 | exact cell_later hM hOld.2.2.2.2.2.2.2.2.2.2.1 | exact HT.cb | exact HT.cc | (simp (maxDischargeDepth := 6) [go_sem, *]; done)), (by first | exact mv_cell hM (by first | (dsimp only; omega) | (simp; omega)) hOld.2.2.2.2.2.2.2.2.2.2.2 | exact cell_later hM hOld.2.2.2.2.2.2.2.2.2.2.2 | exact HT.cb | exact HT.cc | (simp (maxDischargeDepth := 6) [go_sem, *]; done))⟩ (fun hHeld => ?_)
  clear hK K hOld
  try simp only [Act.put, List.setIfInBounds_toArray, List.set_cons_zero, List.set_cons_succ]
  obtain ⟨ov, HT⟩ : ∃ ov, Tw (w.heap.size + 1 + 1) (w.heap.size + 1 + 1 + 1) ov ov w w1 := ⟨_, HT⟩
  have hcb := HT.cb; have hcc := HT.cc; have HB := HT.below
  refine wpAnyH_weaken (S' := (fun (w' : World) => w'.cell? ⟨w.heap.size + 1, 0, none⟩ = some (.int .i64 v0) ∧ w'.cell? ⟨w.heap.size + 1, 1, none⟩ = some (.int .i64 v1) ∧ w'.cell? ⟨w.heap.size + 1, 2, none⟩ = some (.int .i64 v2) ∧ w'.cell? ⟨g.heap.size, 0, none⟩ = some (.int .i64 r0) ∧ w'.cell? ⟨g.heap.size, 1, none⟩ = some (.int .i64 r1) ∧ w'.cell? ⟨g.heap.size, 2, none⟩ = some (.int .i64 r2) ∧ w'.cell? ⟨g.heap.size, 3, none⟩ = some (.int .i64 r3) ∧ w'.cell? ⟨g.heap.size, 4, none⟩ = some (.int .i64 r4) ∧ w'.cell? ⟨g.heap.size, 5, none⟩ = some (.int .i64 r5) ∧ w'.cell? ⟨g.heap.size, 6, none⟩ = some (.int .i64 r6) ∧ w'.cell? ⟨g.heap.size, 7, none⟩ = some (.int .i64 r7) ∧ w'.cell? ⟨g.heap.size, 8, none⟩ = some (.int .i64 r8) ∧ w'.cell? ⟨w.heap.size + 1 + 1, 0, none⟩ = some (.bool ov) ∧ w'.cell? ⟨w.heap.size + 1 + 1 + 1, 0, none⟩ = some (.bool ov))) (fun _ h => ⟨h.1, h.2.1, h.2.2.1, h.2.2.2.1, h.2.2.2.2.1, h.2.2.2.2.2.1, h.2.2.2.2.2.2.1, h.2.2.2.2.2.2.2.1, h.2.2.2.2.2.2.2.2.1, h.2.2.2.2.2.2.2.2.2.1, h.2.2.2.2.2.2.2.2.2.2.1, h.2.2.2.2.2.2.2.2.2.2.2.1⟩) _ _ _ _ ?_
  replace hHeld := (show ((fun (w' : World) => w'.cell? ⟨w.heap.size + 1, 0, none⟩ = some (.int .i64 v0) ∧ w'.cell? ⟨w.heap.size + 1, 1, none⟩ = some (.int .i64 v1) ∧ w'.cell? ⟨w.heap.size + 1, 2, none⟩ = some (.int .i64 v2) ∧ w'.cell? ⟨g.heap.size, 0, none⟩ = some (.int .i64 r0) ∧ w'.cell? ⟨g.heap.size, 1, none⟩ = some (.int .i64 r1) ∧ w'.cell? ⟨g.heap.size, 2, none⟩ = some (.int .i64 r2) ∧ w'.cell? ⟨g.heap.size, 3, none⟩ = some (.int .i64 r3) ∧ w'.cell? ⟨g.heap.size, 4, none⟩ = some (.int .i64 r4) ∧ w'.cell? ⟨g.heap.size, 5, none⟩ = some (.int .i64 r5) ∧ w'.cell? ⟨g.heap.size, 6, none⟩ = some (.int .i64 r6) ∧ w'.cell? ⟨g.heap.size, 7, none⟩ = some (.int .i64 r7) ∧ w'.cell? ⟨g.heap.size, 8, none⟩ = some (.int .i64 r8) ∧ w'.cell? ⟨w.heap.size + 1 + 1, 0, none⟩ = some (.bool ov) ∧ w'.cell? ⟨w.heap.size + 1 + 1 + 1, 0, none⟩ = some (.bool ov))) _ from ⟨(hHeld.1), (hHeld.2.1), (hHeld.2.2.1), (hHeld.2.2.2.1), (hHeld.2.2.2.2.1), (hHeld.2.2.2.2.2.1), (hHeld.2.2.2.2.2.2.1), (hHeld.2.2.2.2.2.2.2.1), (hHeld.2.2.2.2.2.2.2.2.1), (hHeld.2.2.2.2.2.2.2.2.2.1), (hHeld.2.2.2.2.2.2.2.2.2.2.1), (hHeld.2.2.2.2.2.2.2.2.2.2.2), (by first | assumption | (simp (maxDischargeDepth := 6) [go_sem, *]; done)), (by first | assumption | (simp (maxDischargeDepth := 6) [go_sem, *]; done))⟩)
  try dsimp only at hHeld
  refine wpAnyH_take (i := 18) (v := ?_) (by simp only [List.getElem?_toArray, List.getElem?_cons_succ, List.getElem?_cons_zero]; rfl) (by kernel_rfl) (by kernel_rfl) (by kernel_rfl) (fun _ _ _ h => h) (Or.inl ⟨by rfl, ?_⟩) (by assumption) ?_
  rotate_left
  · intro w hSw; (try dsimp only at hSw); go_simp; try with_reducible rfl
  try simp only [Act.put, List.setIfInBounds_toArray, List.set_cons_zero, List.set_cons_succ]
  refine wpAnyH_take (i := 19) (v := ?_) (by simp only [List.getElem?_toArray, List.getElem?_cons_succ, List.getElem?_cons_zero]; rfl) (by kernel_rfl) (by kernel_rfl) (by kernel_rfl) (fun _ _ _ h => h) (Or.inl ⟨by rfl, ?_⟩) (by assumption) ?_
  rotate_left
  · intro w hSw; (try dsimp only at hSw); go_simp; try with_reducible rfl
  try simp only [Act.put, List.setIfInBounds_toArray, List.set_cons_zero, List.set_cons_succ]
  refine wpAnyH_take (i := 20) (v := ?_) (by simp only [List.getElem?_toArray, List.getElem?_cons_succ, List.getElem?_cons_zero]; rfl) (by kernel_rfl) (by kernel_rfl) (by kernel_rfl) (fun _ _ _ h => h) (Or.inl ⟨by rfl, ?_⟩) (by assumption) ?_
  rotate_left
  · intro w hSw; (try dsimp only at hSw); go_simp; try with_reducible rfl
  try simp only [Act.put, List.setIfInBounds_toArray, List.set_cons_zero, List.set_cons_succ]
  refine wpAnyH_take (i := 21) (v := ?_) (by simp only [List.getElem?_toArray, List.getElem?_cons_succ, List.getElem?_cons_zero]; rfl) (by kernel_rfl) (by kernel_rfl) (by kernel_rfl) (fun _ _ _ h => h) (Or.inl ⟨by rfl, ?_⟩) (by assumption) ?_
  rotate_left
  · intro w hSw; (try dsimp only at hSw); go_simp; try with_reducible rfl
  try simp only [Act.put, List.setIfInBounds_toArray, List.set_cons_zero, List.set_cons_succ]
  refine wpAnyH_take (i := 22) (v := ?_) (by simp only [List.getElem?_toArray, List.getElem?_cons_succ, List.getElem?_cons_zero]; rfl) (by kernel_rfl) (by kernel_rfl) (by kernel_rfl) (fun _ _ _ h => h) (Or.inl ⟨by rfl, ?_⟩) (by assumption) ?_
  rotate_left
  · intro w hSw; (try dsimp only at hSw); go_simp; try with_reducible rfl
  try simp only [Act.put, List.setIfInBounds_toArray, List.set_cons_zero, List.set_cons_succ]
  refine wpAnyH_take (i := 23) (v := ?_) (by simp only [List.getElem?_toArray, List.getElem?_cons_succ, List.getElem?_cons_zero]; rfl) (by kernel_rfl) (by kernel_rfl) (by kernel_rfl) (fun _ _ _ h => h) (Or.inl ⟨by rfl, ?_⟩) (by assumption) ?_
  rotate_left
  · intro w hSw; (try dsimp only at hSw); go_simp; try with_reducible rfl
  try simp only [Act.put, List.setIfInBounds_toArray, List.set_cons_zero, List.set_cons_succ]
  refine wpAnyH_take (i := 25) (v := ?_) (by simp only [List.getElem?_toArray, List.getElem?_cons_succ, List.getElem?_cons_zero]; rfl) (by kernel_rfl) (by kernel_rfl) (by kernel_rfl) (fun _ _ _ h => h) (Or.inl ⟨by rfl, ?_⟩) (by assumption) ?_
  rotate_left
  · intro w hSw; (try dsimp only at hSw); go_simp; try with_reducible rfl
  try simp only [Act.put, List.setIfInBounds_toArray, List.set_cons_zero, List.set_cons_succ]
  refine wpAnyH_take (i := 26) (v := ?_) (by simp only [List.getElem?_toArray, List.getElem?_cons_succ, List.getElem?_cons_zero]; rfl) (by kernel_rfl) (by kernel_rfl) (by kernel_rfl) (fun _ _ _ h => h) (Or.inl ⟨by rfl, ?_⟩) (by assumption) ?_
  rotate_left
  · intro w hSw; (try dsimp only at hSw); go_simp; try with_reducible rfl
  try simp only [Act.put, List.setIfInBounds_toArray, List.set_cons_zero, List.set_cons_succ]
  refine wpAnyH_take (i := 27) (v := ?_) (by simp only [List.getElem?_toArray, List.getElem?_cons_succ, List.getElem?_cons_zero]; rfl) (by kernel_rfl) (by kernel_rfl) (by kernel_rfl) (fun _ _ _ h => h) (Or.inl ⟨by rfl, ?_⟩) (by assumption) ?_
  rotate_left
  · intro w hSw; (try dsimp only at hSw); go_simp; try with_reducible rfl
  try simp only [Act.put, List.setIfInBounds_toArray, List.set_cons_zero, List.set_cons_succ]
  refine wpAnyH_take (i := 24) (v := ?_) (by simp only [List.getElem?_toArray, List.getElem?_cons_succ, List.getElem?_cons_zero]; rfl) (by kernel_rfl) (by kernel_rfl) (by kernel_rfl) (fun _ _ _ h => h) (Or.inl ⟨by rfl, ?_⟩) (by assumption) ?_
  rotate_left
  · intro w hSw; (try dsimp only at hSw); go_simp; try with_reducible rfl
  try simp only [Act.put, List.setIfInBounds_toArray, List.set_cons_zero, List.set_cons_succ]
  refine wpAnyH_take (i := 28) (v := ?_) (by simp only [List.getElem?_toArray, List.getElem?_cons_succ, List.getElem?_cons_zero]; rfl) (by kernel_rfl) (by kernel_rfl) (by kernel_rfl) (fun _ _ _ h => h) (Or.inl ⟨by rfl, ?_⟩) (by assumption) ?_
  rotate_left
  · intro w hSw; (try dsimp only at hSw); go_simp; try with_reducible rfl
  try simp only [Act.put, List.setIfInBounds_toArray, List.set_cons_zero, List.set_cons_succ]
  refine wpAnyH_take (i := 29) (v := ?_) (by simp only [List.getElem?_toArray, List.getElem?_cons_succ, List.getElem?_cons_zero]; rfl) (by kernel_rfl) (by kernel_rfl) (by kernel_rfl) (fun _ _ _ h => h) (Or.inl ⟨by rfl, ?_⟩) (by assumption) ?_
  rotate_left
  · intro w hSw; (try dsimp only at hSw); go_simp; try with_reducible rfl
  try simp only [Act.put, List.setIfInBounds_toArray, List.set_cons_zero, List.set_cons_succ]
  refine wpAnyH_take (i := 30) (v := ?_) (by simp only [List.getElem?_toArray, List.getElem?_cons_succ, List.getElem?_cons_zero]; rfl) (by kernel_rfl) (by kernel_rfl) (by kernel_rfl) (fun _ _ _ h => h) (Or.inl ⟨by rfl, ?_⟩) (by assumption) ?_
  rotate_left
  · intro w hSw; (try dsimp only at hSw); go_simp; try with_reducible rfl
  try simp only [Act.put, List.setIfInBounds_toArray, List.set_cons_zero, List.set_cons_succ]
  refine wpAnyH_take (i := 31) (v := ?_) (by simp only [List.getElem?_toArray, List.getElem?_cons_succ, List.getElem?_cons_zero]; rfl) (by kernel_rfl) (by kernel_rfl) (by kernel_rfl) (fun _ _ _ h => h) (Or.inl ⟨by rfl, ?_⟩) (by assumption) ?_
  rotate_left
  · intro w hSw; (try dsimp only at hSw); go_simp; try with_reducible rfl
  try simp only [Act.put, List.setIfInBounds_toArray, List.set_cons_zero, List.set_cons_succ]
  have hOld := hHeld; clear hHeld
  refine wpAnyH_ready (rs := [32]) (by kernel_rfl) (by simp) (AllReadyH.cons rfl (fun K hK => ?_) AllReadyH.nil)
  go_simp
  (go_at_call 15; (with_reducible refine (cAwake6 _).mono ?_); rintro e w1 ⟨rfl, hM⟩)
  (try go_wp2_with (fail))
  refine hK.out _ _ ⟨(by first | exact mv_cell hM (by first | (dsimp only; omega) | (simp; omega)) hOld.1 | exact cell_later hM hOld.1 | exact HT.cb | exact HT.cc | (simp (maxDischargeDepth := 6) [go_sem, *]; done)), (by first | exact mv_cell hM (by first | (dsimp only; omega) | (simp; omega)) hOld.2.1 | exact cell_later hM hOld.2.1 | exact HT.cb | exact HT.cc | (simp (maxDischargeDepth := 6) [go_sem, *]; done)), (by first | exact mv_cell hM (by first | (dsimp only; omega) | (simp; omega)) hOld.2.2.1 | exact cell_later hM hOld.2.2.1 | exact HT.cb | exact HT.cc | (simp (maxDischargeDepth := 6) [go_sem, *]; done)), (by first | exact mv_cell hM (by first | (dsimp only; omega) | (simp; omega)) hOld.2.2.2.1 | exact cell_later hM hOld.2.2.2.1 | exact HT.cb | exact HT.cc | (simp (maxDischargeDepth := 6) [go_sem, *]; done)), (by first | exact mv_cell hM (by first | (dsimp only; omega) | (simp; omega)) hOld.2.2.2.2.1 | exact cell_later hM hOld.2.2.2.2.1 | exact HT.cb | exact HT.cc | (simp (maxDischargeDepth := 6) [go_sem, *]; done)), (by first | exact mv_cell hM (by first | (dsimp only; omega) | (simp; omega)) hOld.2.2.2.2.2.1 | exact cell_later hM hOld.2.2.2.2.2.1 | exact HT.cb | exact HT.cc | (simp (maxDischargeDepth := 6) [go_sem, *]; done)), (by first | exact mv_cell hM (by first | (dsimp only; omega) | (simp; omega)) hOld.2.2.2.2.2.2.1 | exact cell_later hM hOld.2.2.2.2.2.2.1 | exact HT.cb | exact HT.cc | (simp (maxDischargeDepth := 6) [go_sem, *]; done)), (by first | exact mv_cell hM (by first | (dsimp only; omega) | (simp; omega)) hOld.2.2.2.2.2.2.2.1 | exact cell_later hM hOld.2.2.2.2.2.2.2.1 | exact HT.cb | exact HT.cc | (simp (maxDischargeDepth := 6) [go_sem, *]; done)), (by first | exact mv_cell hM (by first | (dsimp only; omega) | (simp; omega)) hOld.2.2.2.2.2.2.2.2.1 | exact cell_later hM hOld.2.2.2.2.2.2.2.2.1 | exact HT.cb | exact HT.cc | (simp (maxDischargeDepth := 6) [go_sem, *]; done)), (by first | exact mv_cell hM (by first | (dsimp only; omega) | (simp; omega)) hOld.2.2.2.2.2.2.2.2.2.1 | exact cell_later hM hOld.2.2.2.2.2.2.2.2.2.1 | exact HT.cb | exact HT.cc | (simp (maxDischargeDepth := 6) [go_sem, *]; done)), (by first | exact mv_cell hM (by first | (dsimp only; omega) | (simp; omega)) hOld.2.2.2.2.2.2.2.2.2.2.1 | exact cell_later hM hOld.2.2.2.2.2.2.2.2.2.2.1 | exact HT.cb | exact HT.cc | (simp (maxDischargeDepth := 6) [go_sem, *]; done)), (by first | exact mv_cell hM (by first | (dsimp only; omega) | (simp; omega)) hOld.2.2.2.2.2.2.2.2.2.2.2.1 | exact cell_later hM hOld.2.2.2.2.2.2.2.2.2.2.2.1 | exact HT.cb | exact HT.cc | (simp (maxDischargeDepth := 6) [go_sem, *]; done)), (by first | exact mv_cell hM (by first | (dsimp only; omega) | (simp; omega)) hOld.2.2.2.2.2.2.2.2.2.2.2.2.1 | exact cell_later hM hOld.2.2.2.2.2.2.2.2.2.2.2.2.1 | exact HT.cb | exact HT.cc | (simp (maxDischargeDepth := 6) [go_sem, *]; done)), (by first | exact mv_cell hM (by first | (dsimp only; omega) | (simp; omega)) hOld.2.2.2.2.2.2.2.2.2.2.2.2.2 | exact cell_later hM hOld.2.2.2.2.2.2.2.2.2.2.2.2.2 | exact HT.cb | exact HT.cc | (simp (maxDischargeDepth := 6) [go_sem, *]; done))⟩ (fun hHeld => ?_)
  clear hK K hOld
  try simp only [Act.put, List.setIfInBounds_toArray, List.set_cons_zero, List.set_cons_succ]
  refine wpAnyH_take (i := 33) (v := ?_) (by simp only [List.getElem?_toArray, List.getElem?_cons_succ, List.getElem?_cons_zero]; rfl) (by kernel_rfl) (by kernel_rfl) (by kernel_rfl) (fun _ _ _ h => h) (Or.inl ⟨by rfl, ?_⟩) (by assumption) ?_
  rotate_left
  · intro w hSw; (try dsimp only at hSw); go_simp; try with_reducible rfl
  try simp only [Act.put, List.setIfInBounds_toArray, List.set_cons_zero, List.set_cons_succ]
  refine wpAnyH_take (i := 34) (v := ?_) (by simp only [List.getElem?_toArray, List.getElem?_cons_succ, List.getElem?_cons_zero]; rfl) (by kernel_rfl) (by kernel_rfl) (by kernel_rfl) (fun _ _ _ h => h) (Or.inl ⟨by rfl, ?_⟩) (by assumption) ?_
  rotate_left
  · intro w hSw; (try dsimp only at hSw); go_simp; try with_reducible rfl
  try simp only [Act.put, List.setIfInBounds_toArray, List.set_cons_zero, List.set_cons_succ]
  refine wpAnyH_done (by kernel_rfl) ?_ _
  (try refine NoPanic.normal ?_)
  (try clear q0); (try clear q1); (try clear q2); (try clear q3); (try clear q4); (try clear q5); (try clear q6); (try clear q7); (try clear q8); (try clear q9); (try clear q10); (try clear q11); (try clear q12); (try clear q13); obtain ⟨q0, q1, q2, q3, q4, q5, q6, q7, q8, q9, q10, q11, q12, q13⟩ := hHeld
  go_wp2
  go_ret
  exact ⟨rfl, by first | exact below_step HB hM | (repeat (first | with_reducible assumption | with_reducible exact Below.refl _ _ | ((with_reducible refine Below.setCell ?_ ?_ _); rotate_left; (first | exact Nat.le_refl _ | (dsimp only; omega) | (simp; done) | (simp; omega))) | with_reducible refine below_alloc ?_ _ | with_reducible apply below_drewN | with_reducible apply Below.drew | with_reducible refine below_step ?_ (by assumption)))⟩
end Go.Proofs.Ytjpkkpflamkjkaa
