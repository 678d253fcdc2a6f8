/- An attitude made one: the document's. -/
import Derived.Test.YtjpkkpflamkjkaaX5
import Derived.Test.YtjpkkpflamkjkaaQ2
import Derived.Test.YtjpkkpflamkjkaaR4
set_option linter.unusedSimpArgs false
set_option linter.unusedVariables false
namespace Go.Proofs.Ytjpkkpflamkjkaa
open Go.RowKit
set_option linter.unusedVariables false
set_option maxHeartbeats 8000000 in
set_option maxRecDepth 20000 in
theorem rUnit4 (x0 x1 x2 x3 : Int) (b : Nat) (o : Bool) (w : World) (x0_0 : -9223372036854775808 ≤ x0) (x0_1 : x0 ≤ 9223372036854775807) (x1_0 : -9223372036854775808 ≤ x1) (x1_1 : x1 ≤ 9223372036854775807) (x2_0 : -9223372036854775808 ≤ x2) (x2_1 : x2 ≤ 9223372036854775807) (x3_0 : -9223372036854775808 ≤ x3) (x3_1 : x3 ≤ 9223372036854775807) (hc : w.cell? ⟨b, 0, none⟩ = some (.bool o)) (hf : w.frozen? ⟨b, 0, none⟩ = false) :
    Calls Try.prog 19 #[.pointer (some ⟨b, 0, none⟩), .agg #[.int .i64 x0, .int .i64 x1, .int .i64 x2, .int .i64 x3]] w fun e w' =>
      e = .returned (.agg #[.int .i64 (uw x0 (ln (x0 * x0 + x1 * x1 + x2 * x2 + x3 * x3))), .int .i64 (uq x1 (ln (x0 * x0 + x1 * x1 + x2 * x2 + x3 * x3))), .int .i64 (uq x2 (ln (x0 * x0 + x1 * x1 + x2 * x2 + x3 * x3))), .int .i64 (uq x3 (ln (x0 * x0 + x1 * x1 + x2 * x2 + x3 * x3)))]) ∧
        Mv b (o || !lnok (x0 * x0 + x1 * x1 + x2 * x2 + x3 * x3) || !uok x0 (ln (x0 * x0 + x1 * x1 + x2 * x2 + x3 * x3)) || !uok x1 (ln (x0 * x0 + x1 * x1 + x2 * x2 + x3 * x3)) || !uok x2 (ln (x0 * x0 + x1 * x1 + x2 * x2 + x3 * x3)) || !uok x3 (ln (x0 * x0 + x1 * x1 + x2 * x2 + x3 * x3))) w w' := by
  have k1 := fun O W => c3Len4 x0 x1 x2 x3 b O W x0_0 x0_1 x1_0 x1_1 x2_0 x2_1 x3_0 x3_1
  have m0 := ln_lo (x0 * x0 + x1 * x1 + x2 * x2 + x3 * x3)
  have m1 := ln_hi (x0 * x0 + x1 * x1 + x2 * x2 + x3 * x3)
  generalize ln (x0 * x0 + x1 * x1 + x2 * x2 + x3 * x3) = n at *
  generalize lnok (x0 * x0 + x1 * x1 + x2 * x2 + x3 * x3) = p at *
  have hb := lt_of_cell hc
  have HM := Mv.refl hc hf
  clear hc hf
  have k2 := fun O W => rDiv x0 n b O W x0_0 x0_1 (by omega) (by omega)
  have k3 := fun O W => rDiv x1 n b O W x1_0 x1_1 (by omega) (by omega)
  have k4 := fun O W => rDiv x2 n b O W x2_0 x2_1 (by omega) (by omega)
  have k5 := fun O W => rDiv x3 n b O W x3_0 x3_1 (by omega) (by omega)
  generalize hu0 : uw x0 n = u0 at *
  generalize hu1 : uq x1 n = u1 at *
  generalize hu2 : uq x2 n = u2 at *
  generalize hu3 : uq x3 n = u3 at *
  generalize hp0 : uok x0 n = p0 at *
  generalize hp1 : uok x1 n = p1 at *
  generalize hp2 : uok x2 n = p2 at *
  generalize hp3 : uok x3 n = p3 at *
  go_enter Try.func19, Try.ntmps19
  go_wp2_with (fail)
  generalize hW : World.alloc _ _ = W1
  have hR : W1.heap[w.heap.size + 1]? = some (.cells #[.int .i64 0, .int .i64 0, .int .i64 0, .int .i64 0] 24 (0, 0)) := by
    rw [← hW]
    have := row_new (w.alloc (.cells #[.int .i64 x0, .int .i64 x1, .int .i64 x2, .int .i64 x3] 24)) (.cells #[.int .i64 0, .int .i64 0, .int .i64 0, .int .i64 0] 24)
    simpa only [World.size_alloc] using this
  have c0 : W1.cell? ⟨w.heap.size, 0, none⟩ = some (.int .i64 x0) := by rw [← hW]; simp [go_sem]
  have c1 : W1.cell? ⟨w.heap.size, 1, none⟩ = some (.int .i64 x1) := by rw [← hW]; simp [go_sem]
  have c2 : W1.cell? ⟨w.heap.size, 2, none⟩ = some (.int .i64 x2) := by rw [← hW]; simp [go_sem]
  have c3 : W1.cell? ⟨w.heap.size, 3, none⟩ = some (.int .i64 x3) := by rw [← hW]; simp [go_sem]
  have HM : Mv b o w W1 := by rw [← hW]; exact (HM.alloc _).alloc _
  clear hW
  (with_reducible refine (mvCall (b := b) (w0 := w) HM (k1 _ _)).mono ?_); rintro e w1 ⟨rfl, hM, HM⟩
  have c0 := mv_cell hM (by dsimp only; omega) c0
  have c1 := mv_cell hM (by dsimp only; omega) c1
  have c2 := mv_cell hM (by dsimp only; omega) c2
  have c3 := mv_cell hM (by dsimp only; omega) c3
  have hR := row_mv (g := w.heap.size + 1) hM hR (by omega)
  clear hM k1
  by_cases hn : n = 0
  · subst hn
    simp only [uw, if_pos rfl, if_true] at hu0; subst hu0
    rw [uok_0] at hp0; subst hp0
    simp only [uq, if_pos rfl, if_true] at hu1; subst hu1
    rw [uok_0] at hp1; subst hp1
    simp only [uq, if_pos rfl, if_true] at hu2; subst hu2
    rw [uok_0] at hp2; subst hp2
    simp only [uq, if_pos rfl, if_true] at hu3; subst hu3
    rw [uok_0] at hp3; subst hp3
    go_wp2_with (refine wpList_store_row rfl 24 _ _ rfl (w.heap.size + 1) #[.int .i64 4294967296, .int .i64 0, .int .i64 0, .int .i64 0] (by rfl) (by rfl) 24 _ hR (by kernel_rfl) rfl (by simp [Value.oneCell']) ?_)
    have hR := row_put #[.int .i64 4294967296, .int .i64 0, .int .i64 0, .int .i64 0] hR
    refine bodyPost_ret (results_cell_row rfl _ _ (w.heap.size + 1) 24 #[.int .i64 4294967296, .int .i64 0, .int .i64 0, .int .i64 0] (0, 0) _ (by rfl) hR Try.underlying24 rfl (by kernel_rfl)) rfl ⟨rfl, ?_⟩
    simp only [Bool.not_true, Bool.or_false]
    exact HM.row (by omega) (by omega) _
  · rw [uw_no _ _ hn] at hu0; rw [uok_no _ _ hn] at hp0; simp only [hu0, hp0] at k2
    rw [uq_no _ _ hn] at hu1; rw [uok_no _ _ hn] at hp1; simp only [hu1, hp1] at k3
    rw [uq_no _ _ hn] at hu2; rw [uok_no _ _ hn] at hp2; simp only [hu2, hp2] at k4
    rw [uq_no _ _ hn] at hu3; rw [uok_no _ _ hn] at hp3; simp only [hu3, hp3] at k5
    clear hu0 hu1 hu2 hu3 hp0 hp1 hp2 hp3
    go_upto_region 4 with (fail)
    (try refine wp_region_noPanic ?_)
    refine wp_region_ssa (S := (fun (w' : World) => w'.cell? ⟨w.heap.size, 0, none⟩ = some (.int .i64 x0) ∧ w'.cell? ⟨w.heap.size, 1, none⟩ = some (.int .i64 x1) ∧ w'.cell? ⟨w.heap.size, 2, none⟩ = some (.int .i64 x2) ∧ w'.cell? ⟨w.heap.size, 3, none⟩ = some (.int .i64 x3))) (#[none, none, none, none, none, none, none, none, none, none, none, none, none, none, none, none, none, none, none, some 0, some 1, some 2, some 3, some 4, some 5, some 6, some 7, some 8, some 9, some 10, some 11, some 12, some 13, some 14, some 15, some 16, some 17, some 18, some 19, some 20] : Array (Option Nat)) (by kernel_rfl) (by kernel_rfl) (by kernel_rfl) ⟨(by first | (simp (maxDischargeDepth := 6) [go_sem, *]; done)), (by first | (simp (maxDischargeDepth := 6) [go_sem, *]; done)), (by first | (simp (maxDischargeDepth := 6) [go_sem, *]; done)), (by first | (simp (maxDischargeDepth := 6) [go_sem, *]; done))⟩ (fun hSSA hHeld => ?_)
    refine wpAnyH_sl (n := 10) (l' := (#[true, true, false, true, false, true, true, false, true, false, true, true, false, true, false, true, true, false, true, false, false, false] : Array Bool)) [0, 1, 3, 5, 6, 8, 10, 11, 13, 15, 16, 18] [some 19, some 20, some 22, some 24, some 25, some 27, some 29, some 30, some 32, some 34, some 35, some 37] hSSA (
      LvY.take (by rfl) (by intro w hSw; (try dsimp only at hSw); go_simp; try with_reducible rfl) <|
      LvY.take (by rfl) (by intro w hSw; (try dsimp only at hSw); go_simp; try with_reducible rfl) <|
      LvY.skip <|
      LvY.take (by rfl) (by intro w hSw; (try dsimp only at hSw); go_simp; try with_reducible rfl) <|
      LvY.skip <|
      LvY.take (by rfl) (by intro w hSw; (try dsimp only at hSw); go_simp; try with_reducible rfl) <|
      LvY.take (by rfl) (by intro w hSw; (try dsimp only at hSw); go_simp; try with_reducible rfl) <|
      LvY.skip <|
      LvY.take (by rfl) (by intro w hSw; (try dsimp only at hSw); go_simp; try with_reducible rfl) <|
      LvY.skip <|
      LvY.take (by rfl) (by intro w hSw; (try dsimp only at hSw); go_simp; try with_reducible rfl) <|
      LvY.take (by rfl) (by intro w hSw; (try dsimp only at hSw); go_simp; try with_reducible rfl) <|
      LvY.skip <|
      LvY.take (by rfl) (by intro w hSw; (try dsimp only at hSw); go_simp; try with_reducible rfl) <|
      LvY.skip <|
      LvY.take (by rfl) (by intro w hSw; (try dsimp only at hSw); go_simp; try with_reducible rfl) <|
      LvY.take (by rfl) (by intro w hSw; (try dsimp only at hSw); go_simp; try with_reducible rfl) <|
      LvY.skip <|
      LvY.take (by rfl) (by intro w hSw; (try dsimp only at hSw); go_simp; try with_reducible rfl) <|
      LvY.skip <|
      LvY.skip <|
      LvY.skip <|
      LvY.nil) (by rfl) (by rfl) (by kernel_rfl) (fun _ _ _ _ _ h => h) (by kernel_rfl) (by kernel_rfl) (by kernel_rfl) (by assumption) ?_
    simp only [lvVs, putDs, Act.put, List.setIfInBounds_toArray, List.set_cons_zero, List.set_cons_succ]
    refine wpAnyH_sl (n := 6) (l' := (#[true, true, true, true, false, true, true, true, true, false, true, true, true, true, false, true, true, true, true, false, false, false] : Array Bool)) [2, 7, 12, 17] [some 21, some 26, some 31, some 36] hSSA (
      LvY.skip <|
      LvY.skip <|
      LvY.take (by rfl) (by intro w hSw; (try dsimp only at hSw); go_simp; try with_reducible rfl) <|
      LvY.skip <|
      LvY.skip <|
      LvY.skip <|
      LvY.skip <|
      LvY.take (by rfl) (by intro w hSw; (try dsimp only at hSw); go_simp; try with_reducible rfl) <|
      LvY.skip <|
      LvY.skip <|
      LvY.skip <|
      LvY.skip <|
      LvY.take (by rfl) (by intro w hSw; (try dsimp only at hSw); go_simp; try with_reducible rfl) <|
      LvY.skip <|
      LvY.skip <|
      LvY.skip <|
      LvY.skip <|
      LvY.take (by rfl) (by intro w hSw; (try dsimp only at hSw); go_simp; try with_reducible rfl) <|
      LvY.skip <|
      LvY.skip <|
      LvY.skip <|
      LvY.skip <|
      LvY.nil) (by rfl) (by rfl) (by kernel_rfl) (fun _ _ _ _ _ h => h) (by kernel_rfl) (by kernel_rfl) (by kernel_rfl) (by assumption) ?_
    simp only [lvVs, putDs, Act.put, List.setIfInBounds_toArray, List.set_cons_zero, List.set_cons_succ]
    have hOld := hHeld; clear hHeld
    refine wpAnyH_on (i := 4) (n := 5) (l' := (#[true, true, true, true, true, true, true, true, true, false, true, true, true, true, false, true, true, true, true, false, false, false] : Array Bool)) (by kernel_rfl) (by kernel_rfl) (by kernel_rfl) (by simp only [List.getElem?_toArray, List.getElem?_cons_succ, List.getElem?_cons_zero]; rfl) (by rfl) (fun K hK => ?_)
    go_simp
    (go_at_call 50; (with_reducible refine (mvCall (b := b) (w0 := w) (by (repeat (first | with_reducible assumption | with_reducible exact Mv.refl (by assumption) (by assumption) | with_reducible apply Mv.alloc | with_reducible apply Mv.drew | with_reducible apply Mv.drewN | ((with_reducible apply Mv.setCell); rotate_left; (first | (dsimp only; omega) | omega | (simp; omega)); (first | (dsimp only; omega) | omega | (simp; omega))) | ((with_reducible apply Mv.below); rotate_left; (with_reducible assumption)) | ((with_reducible apply Mv.trans); rotate_left; (with_reducible assumption))))) (k2 _ _)).mono ?_); rintro e w1 ⟨rfl, hM, HM⟩)
    (try go_wp2_with (fail))
    refine hK.out _ _ ⟨(by first | exact mv_cell hM (by first | (dsimp only; omega) | (simp; omega)) hOld.1 | exact cell_later hM hOld.1 | exact HT.cb | exact HT.cc | (simp (maxDischargeDepth := 6) [go_sem, *]; done)), (by first | exact mv_cell hM (by first | (dsimp only; omega) | (simp; omega)) hOld.2.1 | exact cell_later hM hOld.2.1 | exact HT.cb | exact HT.cc | (simp (maxDischargeDepth := 6) [go_sem, *]; done)), (by first | exact mv_cell hM (by first | (dsimp only; omega) | (simp; omega)) hOld.2.2.1 | exact cell_later hM hOld.2.2.1 | exact HT.cb | exact HT.cc | (simp (maxDischargeDepth := 6) [go_sem, *]; done)), (by first | exact mv_cell hM (by first | (dsimp only; omega) | (simp; omega)) hOld.2.2.2 | exact cell_later hM hOld.2.2.2 | exact HT.cb | exact HT.cc | (simp (maxDischargeDepth := 6) [go_sem, *]; done))⟩ (fun hHeld => ?_)
    clear hK K hOld
    try simp only [Act.put, List.setIfInBounds_toArray, List.set_cons_zero, List.set_cons_succ]
    have hR := row_mv (g := w.heap.size + 1) hM hR (by omega); clear hM
    have hOld := hHeld; clear hHeld
    refine wpAnyH_on (i := 9) (n := 4) (l' := (#[true, true, true, true, true, true, true, true, true, true, true, true, true, true, false, true, true, true, true, false, false, false] : Array Bool)) (by kernel_rfl) (by kernel_rfl) (by kernel_rfl) (by simp only [List.getElem?_toArray, List.getElem?_cons_succ, List.getElem?_cons_zero]; rfl) (by rfl) (fun K hK => ?_)
    go_simp
    (go_at_call 50; (with_reducible refine (mvCall (b := b) (w0 := w) (by (repeat (first | with_reducible assumption | with_reducible exact Mv.refl (by assumption) (by assumption) | with_reducible apply Mv.alloc | with_reducible apply Mv.drew | with_reducible apply Mv.drewN | ((with_reducible apply Mv.setCell); rotate_left; (first | (dsimp only; omega) | omega | (simp; omega)); (first | (dsimp only; omega) | omega | (simp; omega))) | ((with_reducible apply Mv.below); rotate_left; (with_reducible assumption)) | ((with_reducible apply Mv.trans); rotate_left; (with_reducible assumption))))) (k3 _ _)).mono ?_); rintro e w1 ⟨rfl, hM, HM⟩)
    (try go_wp2_with (fail))
    refine hK.out _ _ ⟨(by first | exact mv_cell hM (by first | (dsimp only; omega) | (simp; omega)) hOld.1 | exact cell_later hM hOld.1 | exact HT.cb | exact HT.cc | (simp (maxDischargeDepth := 6) [go_sem, *]; done)), (by first | exact mv_cell hM (by first | (dsimp only; omega) | (simp; omega)) hOld.2.1 | exact cell_later hM hOld.2.1 | exact HT.cb | exact HT.cc | (simp (maxDischargeDepth := 6) [go_sem, *]; done)), (by first | exact mv_cell hM (by first | (dsimp only; omega) | (simp; omega)) hOld.2.2.1 | exact cell_later hM hOld.2.2.1 | exact HT.cb | exact HT.cc | (simp (maxDischargeDepth := 6) [go_sem, *]; done)), (by first | exact mv_cell hM (by first | (dsimp only; omega) | (simp; omega)) hOld.2.2.2 | exact cell_later hM hOld.2.2.2 | exact HT.cb | exact HT.cc | (simp (maxDischargeDepth := 6) [go_sem, *]; done))⟩ (fun hHeld => ?_)
    clear hK K hOld
    try simp only [Act.put, List.setIfInBounds_toArray, List.set_cons_zero, List.set_cons_succ]
    have hR := row_mv (g := w.heap.size + 1) hM hR (by omega); clear hM
    have hOld := hHeld; clear hHeld
    refine wpAnyH_on (i := 14) (n := 3) (l' := (#[true, true, true, true, true, true, true, true, true, true, true, true, true, true, true, true, true, true, true, false, false, false] : Array Bool)) (by kernel_rfl) (by kernel_rfl) (by kernel_rfl) (by simp only [List.getElem?_toArray, List.getElem?_cons_succ, List.getElem?_cons_zero]; rfl) (by rfl) (fun K hK => ?_)
    go_simp
    (go_at_call 50; (with_reducible refine (mvCall (b := b) (w0 := w) (by (repeat (first | with_reducible assumption | with_reducible exact Mv.refl (by assumption) (by assumption) | with_reducible apply Mv.alloc | with_reducible apply Mv.drew | with_reducible apply Mv.drewN | ((with_reducible apply Mv.setCell); rotate_left; (first | (dsimp only; omega) | omega | (simp; omega)); (first | (dsimp only; omega) | omega | (simp; omega))) | ((with_reducible apply Mv.below); rotate_left; (with_reducible assumption)) | ((with_reducible apply Mv.trans); rotate_left; (with_reducible assumption))))) (k4 _ _)).mono ?_); rintro e w1 ⟨rfl, hM, HM⟩)
    (try go_wp2_with (fail))
    refine hK.out _ _ ⟨(by first | exact mv_cell hM (by first | (dsimp only; omega) | (simp; omega)) hOld.1 | exact cell_later hM hOld.1 | exact HT.cb | exact HT.cc | (simp (maxDischargeDepth := 6) [go_sem, *]; done)), (by first | exact mv_cell hM (by first | (dsimp only; omega) | (simp; omega)) hOld.2.1 | exact cell_later hM hOld.2.1 | exact HT.cb | exact HT.cc | (simp (maxDischargeDepth := 6) [go_sem, *]; done)), (by first | exact mv_cell hM (by first | (dsimp only; omega) | (simp; omega)) hOld.2.2.1 | exact cell_later hM hOld.2.2.1 | exact HT.cb | exact HT.cc | (simp (maxDischargeDepth := 6) [go_sem, *]; done)), (by first | exact mv_cell hM (by first | (dsimp only; omega) | (simp; omega)) hOld.2.2.2 | exact cell_later hM hOld.2.2.2 | exact HT.cb | exact HT.cc | (simp (maxDischargeDepth := 6) [go_sem, *]; done))⟩ (fun hHeld => ?_)
    clear hK K hOld
    try simp only [Act.put, List.setIfInBounds_toArray, List.set_cons_zero, List.set_cons_succ]
    have hR := row_mv (g := w.heap.size + 1) hM hR (by omega); clear hM
    have hOld := hHeld; clear hHeld
    refine wpAnyH_on (i := 19) (n := 2) (l' := (#[true, true, true, true, true, true, true, true, true, true, true, true, true, true, true, true, true, true, true, true, false, false] : Array Bool)) (by kernel_rfl) (by kernel_rfl) (by kernel_rfl) (by simp only [List.getElem?_toArray, List.getElem?_cons_succ, List.getElem?_cons_zero]; rfl) (by rfl) (fun K hK => ?_)
    go_simp
    (go_at_call 50; (with_reducible refine (mvCall (b := b) (w0 := w) (by (repeat (first | with_reducible assumption | with_reducible exact Mv.refl (by assumption) (by assumption) | with_reducible apply Mv.alloc | with_reducible apply Mv.drew | with_reducible apply Mv.drewN | ((with_reducible apply Mv.setCell); rotate_left; (first | (dsimp only; omega) | omega | (simp; omega)); (first | (dsimp only; omega) | omega | (simp; omega))) | ((with_reducible apply Mv.below); rotate_left; (with_reducible assumption)) | ((with_reducible apply Mv.trans); rotate_left; (with_reducible assumption))))) (k5 _ _)).mono ?_); rintro e w1 ⟨rfl, hM, HM⟩)
    (try go_wp2_with (fail))
    refine hK.out _ _ ⟨(by first | exact mv_cell hM (by first | (dsimp only; omega) | (simp; omega)) hOld.1 | exact cell_later hM hOld.1 | exact HT.cb | exact HT.cc | (simp (maxDischargeDepth := 6) [go_sem, *]; done)), (by first | exact mv_cell hM (by first | (dsimp only; omega) | (simp; omega)) hOld.2.1 | exact cell_later hM hOld.2.1 | exact HT.cb | exact HT.cc | (simp (maxDischargeDepth := 6) [go_sem, *]; done)), (by first | exact mv_cell hM (by first | (dsimp only; omega) | (simp; omega)) hOld.2.2.1 | exact cell_later hM hOld.2.2.1 | exact HT.cb | exact HT.cc | (simp (maxDischargeDepth := 6) [go_sem, *]; done)), (by first | exact mv_cell hM (by first | (dsimp only; omega) | (simp; omega)) hOld.2.2.2 | exact cell_later hM hOld.2.2.2 | exact HT.cb | exact HT.cc | (simp (maxDischargeDepth := 6) [go_sem, *]; done))⟩ (fun hHeld => ?_)
    clear hK K hOld
    try simp only [Act.put, List.setIfInBounds_toArray, List.set_cons_zero, List.set_cons_succ]
    have hR := row_mv (g := w.heap.size + 1) hM hR (by omega); clear hM
    refine wpAnyH_sl (n := 1) (l' := (#[true, true, true, true, true, true, true, true, true, true, true, true, true, true, true, true, true, true, true, true, true, false] : Array Bool)) [20] [some 39] hSSA (
      LvY.skip <|
      LvY.skip <|
      LvY.skip <|
      LvY.skip <|
      LvY.skip <|
      LvY.skip <|
      LvY.skip <|
      LvY.skip <|
      LvY.skip <|
      LvY.skip <|
      LvY.skip <|
      LvY.skip <|
      LvY.skip <|
      LvY.skip <|
      LvY.skip <|
      LvY.skip <|
      LvY.skip <|
      LvY.skip <|
      LvY.skip <|
      LvY.skip <|
      LvY.take (by rfl) (by intro w hSw; (try dsimp only at hSw); go_simp; try with_reducible rfl) <|
      LvY.skip <|
      LvY.nil) (by rfl) (by rfl) (by kernel_rfl) (fun _ _ _ _ _ h => h) (by kernel_rfl) (by kernel_rfl) (by kernel_rfl) (by assumption) ?_
    simp only [lvVs, putDs, Act.put, List.setIfInBounds_toArray, List.set_cons_zero, List.set_cons_succ]
    have hOld := hHeld; clear hHeld
    refine wpAnyH_on (i := 21) (n := 0) (l' := (#[true, true, true, true, true, true, true, true, true, true, true, true, true, true, true, true, true, true, true, true, true, true] : Array Bool)) (by kernel_rfl) (by kernel_rfl) (by kernel_rfl) (by simp only [List.getElem?_toArray, List.getElem?_cons_succ, List.getElem?_cons_zero]; rfl) (by rfl) (fun K hK => ?_)
    refine wp_store_row 24 _ _ rfl (w.heap.size + 1) #[.int .i64 u0, .int .i64 u1, .int .i64 u2, .int .i64 u3] (by rfl) (by rfl) 24 _ hR (by kernel_rfl) rfl (by simp [Value.oneCell']) ?_
    refine hK.out _ _ ⟨cell_row hOld.1 (by dsimp only; omega), cell_row hOld.2.1 (by dsimp only; omega), cell_row hOld.2.2.1 (by dsimp only; omega), cell_row hOld.2.2.2 (by dsimp only; omega)⟩ (fun hHeld => ?_)
    clear hK K hOld
    try simp only [Act.put, List.setIfInBounds_toArray, List.set_cons_zero, List.set_cons_succ]
    refine wpAnyH_done (by kernel_rfl) ?_ _
    (try refine NoPanic.normal ?_)
    (try clear q0); (try clear q1); (try clear q2); (try clear q3); obtain ⟨q0, q1, q2, q3⟩ := hHeld
    have hR := row_put #[.int .i64 u0, .int .i64 u1, .int .i64 u2, .int .i64 u3] hR
    go_wp2
    refine bodyPost_ret (results_cell_row rfl _ _ (w.heap.size + 1) 24 #[.int .i64 u0, .int .i64 u1, .int .i64 u2, .int .i64 u3] (0, 0) _ (by rfl) hR Try.underlying24 rfl (by kernel_rfl)) rfl ⟨rfl, ?_⟩
    exact HM.row (by omega) (by omega) _
end Go.Proofs.Ytjpkkpflamkjkaa
