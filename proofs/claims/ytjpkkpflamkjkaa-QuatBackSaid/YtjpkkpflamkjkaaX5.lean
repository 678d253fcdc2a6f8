/- Attitudes made one: the program's and the document's. -/
import Derived.Test.YtjpkkpflamkjkaaX4
import Derived.Test.YtjpkkpflamkjkaaU0
import Derived.Laws.EntriesVeiled
set_option linter.unusedSimpArgs false
set_option linter.unusedVariables false
namespace Go.Proofs.Ytjpkkpflamkjkaa
open Go.RowKit
set_option linter.unusedVariables false
/-- The upright part of an attitude made one. -/
def uw (x n : Int) : Int := if n = 0 then 4294967296 else fq x n
theorem uw_no (x n : Int) (h : n ≠ 0) : uw x n = fq x n := if_neg h
theorem uq_no (x n : Int) (h : n ≠ 0) : uq x n = fq x n := if_neg h
theorem uok_no (x n : Int) (h : n ≠ 0) : uok x n = fqok x n := by unfold uok; simp [h]
theorem uok_0 (x : Int) : uok x 0 = true := by unfold uok; simp
/-- A mat's, an attitude's row in memory. -/
def q4 (x0 x1 x2 x3 : Int) : Array Value := #[.int .i64 x0, .int .i64 x1, .int .i64 x2, .int .i64 x3]
theorem cUFUnit (x s : Int) (pm ps b : Nat) (o : Bool) (w : World) (x_0 : -9223372036854775808 ≤ x) (x_1 : x ≤ 9223372036854775807) (s_0 : -9223372036854775808 ≤ s) (s_1 : s ≤ 9223372036854775807) (hpm : w.cell? ⟨pm, 0, none⟩ = some (.pointer (some ⟨b, 0, none⟩))) (hps : w.cell? ⟨ps, 0, none⟩ = some (.int .i64 s)) (hc : w.cell? ⟨b, 0, none⟩ = some (.bool o)) (hf : w.frozen? ⟨b, 0, none⟩ = false) :
    Calls Try.prog 47 #[.int .i64 x, .pointer (some ⟨pm, 0, none⟩), .pointer (some ⟨ps, 0, none⟩)] w fun e w' => e = .returned (.int .i64 (fq x s)) ∧ Mv b (o || !fqok x s) w w' := by
  have HM := Mv.refl hc hf
  clear hc hf
  go_enter Try.func47, Try.ntmps47
  go_wp2_with ((go_at_call 48; (with_reducible refine (mvCall (b := b) (w0 := w) (by (repeat (first | with_reducible assumption | with_reducible exact Mv.refl (by assumption) (by assumption) | with_reducible apply Mv.alloc | with_reducible apply Mv.drew | with_reducible apply Mv.drewN | ((with_reducible apply Mv.setCell); rotate_left; (first | (dsimp only; omega) | omega | (simp; omega)); (first | (dsimp only; omega) | omega | (simp; omega))) | ((with_reducible apply Mv.below); rotate_left; (with_reducible assumption)) | ((with_reducible apply Mv.trans); rotate_left; (with_reducible assumption))))) (cFDiv _ _ b _ _ (by omega) (by omega) (by omega) (by omega))).mono ?_); rintro e w1 ⟨rfl, hM, HM⟩))
  go_ret
  exact ⟨rfl, HM⟩
set_option maxHeartbeats 8000000 in
set_option maxRecDepth 20000 in
/-- quat.each, at a closure over a reckoner and a number: whatever it reckons. -/
theorem cQEachUnit (V : Int → Int) (O : Int → Bool) (x0 x1 x2 x3 s : Int) (pm ps b : Nat) (o : Bool) (w : World) (x0_0 : -9223372036854775808 ≤ x0) (x0_1 : x0 ≤ 9223372036854775807) (x1_0 : -9223372036854775808 ≤ x1) (x1_1 : x1 ≤ 9223372036854775807) (x2_0 : -9223372036854775808 ≤ x2) (x2_1 : x2 ≤ 9223372036854775807) (x3_0 : -9223372036854775808 ≤ x3) (x3_1 : x3 ≤ 9223372036854775807) (n1 : pm ≠ b) (n2 : ps ≠ b)
    (hk : ∀ (x : Int) (o : Bool) (W : World), -9223372036854775808 ≤ x → x ≤ 9223372036854775807 → W.cell? ⟨pm, 0, none⟩ = some (.pointer (some ⟨b, 0, none⟩)) → W.cell? ⟨ps, 0, none⟩ = some (.int .i64 s) → W.cell? ⟨b, 0, none⟩ = some (.bool o) → W.frozen? ⟨b, 0, none⟩ = false →
      Calls Try.prog 47 #[.int .i64 x, .pointer (some ⟨pm, 0, none⟩), .pointer (some ⟨ps, 0, none⟩)] W fun e w' => e = .returned (.int .i64 (V x)) ∧ Mv b (o || !O x) W w')
    (hpm : w.cell? ⟨pm, 0, none⟩ = some (.pointer (some ⟨b, 0, none⟩))) (hps : w.cell? ⟨ps, 0, none⟩ = some (.int .i64 s)) (hc : w.cell? ⟨b, 0, none⟩ = some (.bool o)) (hf : w.frozen? ⟨b, 0, none⟩ = false) :
    Calls Try.prog 46 #[.agg #[.int .i64 x0, .int .i64 x1, .int .i64 x2, .int .i64 x3], .func (.func 47) #[] #[.pointer (some ⟨pm, 0, none⟩), .pointer (some ⟨ps, 0, none⟩)]] w fun e w' =>
      e = .returned (.agg #[.int .i64 (V x0), .int .i64 (V x1), .int .i64 (V x2), .int .i64 (V x3)]) ∧ Mv b (o || !O x0 || !O x1 || !O x2 || !O x3) w w' := by
  have hb := lt_of_cell hc
  have HM := Mv.refl hc hf
  have hp1 := World.block_lt_of_cell? w _ hpm
  have hp2 := World.block_lt_of_cell? w _ hps
  dsimp only at hp1 hp2
  have k0 := fun o W => hk x0 o W x0_0 x0_1
  have k1 := fun o W => hk x1 o W x1_0 x1_1
  have k2 := fun o W => hk x2 o W x2_0 x2_1
  have k3 := fun o W => hk x3 o W x3_0 x3_1
  generalize V x0 = d0 at *
  generalize V x1 = d1 at *
  generalize V x2 = d2 at *
  generalize V x3 = d3 at *
  generalize O x0 = f0 at *
  generalize O x1 = f1 at *
  generalize O x2 = f2 at *
  generalize O x3 = f3 at *
  clear hc hf hk
  go_enter Try.func46, Try.ntmps46
  go_upto_region 1 with (fail)
  generalize hW : World.alloc _ _ = W1
  have hR : W1.heap[w.heap.size + 1]? = some (.cells #[.int .i64 0, .int .i64 0, .int .i64 0, .int .i64 0] 24 (0, 0)) := by
    rw [← hW]
    have := row_new (w.alloc (.cells #[.int .i64 x0, .int .i64 x1, .int .i64 x2, .int .i64 x3] 24)) (.cells #[.int .i64 0, .int .i64 0, .int .i64 0, .int .i64 0] 24)
    simpa only [World.size_alloc] using this
  have c0 : W1.cell? ⟨w.heap.size, 0, none⟩ = some (.int .i64 x0) := by rw [← hW]; simp [go_sem]
  have c1 : W1.cell? ⟨w.heap.size, 1, none⟩ = some (.int .i64 x1) := by rw [← hW]; simp [go_sem]
  have c2 : W1.cell? ⟨w.heap.size, 2, none⟩ = some (.int .i64 x2) := by rw [← hW]; simp [go_sem]
  have c3 : W1.cell? ⟨w.heap.size, 3, none⟩ = some (.int .i64 x3) := by rw [← hW]; simp [go_sem]
  have hpm : W1.cell? ⟨pm, 0, none⟩ = some (.pointer (some ⟨b, 0, none⟩)) := by rw [← hW]; exact cell_later (by (repeat (first | with_reducible assumption | with_reducible exact Below.refl _ _ | ((with_reducible refine Below.setCell ?_ ?_ _); rotate_left; (first | exact Nat.le_refl _ | (dsimp only; omega) | (simp; done) | (simp; omega))) | with_reducible refine below_alloc ?_ _ | with_reducible apply below_drewN | with_reducible apply Below.drew | with_reducible refine below_step ?_ (by assumption)))) hpm
  have hps : W1.cell? ⟨ps, 0, none⟩ = some (.int .i64 s) := by rw [← hW]; exact cell_later (by (repeat (first | with_reducible assumption | with_reducible exact Below.refl _ _ | ((with_reducible refine Below.setCell ?_ ?_ _); rotate_left; (first | exact Nat.le_refl _ | (dsimp only; omega) | (simp; done) | (simp; omega))) | with_reducible refine below_alloc ?_ _ | with_reducible apply below_drewN | with_reducible apply Below.drew | with_reducible refine below_step ?_ (by assumption)))) hps
  have HM : Mv b o w W1 := by rw [← hW]; exact (HM.alloc _).alloc _
  clear hW
  (try refine wp_region_noPanic ?_)
  refine wp_region_ssa (S := (fun (w' : World) => w'.cell? ⟨w.heap.size, 0, none⟩ = some (.int .i64 x0) ∧ w'.cell? ⟨w.heap.size, 1, none⟩ = some (.int .i64 x1) ∧ w'.cell? ⟨w.heap.size, 2, none⟩ = some (.int .i64 x2) ∧ w'.cell? ⟨w.heap.size, 3, none⟩ = some (.int .i64 x3) ∧ w'.cell? ⟨pm, 0, none⟩ = some (.pointer (some ⟨b, 0, none⟩)) ∧ w'.cell? ⟨ps, 0, none⟩ = some (.int .i64 s))) (#[none, none, none, none, none, some 0, some 1, some 2, some 3, some 4, some 5, some 6, some 7, some 8, some 9, some 10, some 11, some 12, some 13, some 14, some 15, some 16] : Array (Option Nat)) (by kernel_rfl) (by kernel_rfl) (by kernel_rfl) ⟨(by first | (simp (maxDischargeDepth := 6) [go_sem, *]; done)), (by first | (simp (maxDischargeDepth := 6) [go_sem, *]; done)), (by first | (simp (maxDischargeDepth := 6) [go_sem, *]; done)), (by first | (simp (maxDischargeDepth := 6) [go_sem, *]; done)), (by first | (simp (maxDischargeDepth := 6) [go_sem, *]; done)), (by first | (simp (maxDischargeDepth := 6) [go_sem, *]; done))⟩ (fun hSSA hHeld => ?_)
  refine wpAnyH_sl (n := 10) (l' := (#[true, true, false, false, true, true, false, false, true, true, false, false, true, true, false, false, false, false] : Array Bool)) [0, 1, 4, 5, 8, 9, 12, 13] [some 5, some 6, some 9, some 10, some 13, some 14, some 17, some 18] hSSA (
    LvY.take (by rfl) (by intro w hSw; (try dsimp only at hSw); go_simp; try with_reducible rfl) <|
    LvY.take (by rfl) (by intro w hSw; (try dsimp only at hSw); go_simp; try with_reducible rfl) <|
    LvY.skip <|
    LvY.skip <|
    LvY.take (by rfl) (by intro w hSw; (try dsimp only at hSw); go_simp; try with_reducible rfl) <|
    LvY.take (by rfl) (by intro w hSw; (try dsimp only at hSw); go_simp; try with_reducible rfl) <|
    LvY.skip <|
    LvY.skip <|
    LvY.take (by rfl) (by intro w hSw; (try dsimp only at hSw); go_simp; try with_reducible rfl) <|
    LvY.take (by rfl) (by intro w hSw; (try dsimp only at hSw); go_simp; try with_reducible rfl) <|
    LvY.skip <|
    LvY.skip <|
    LvY.take (by rfl) (by intro w hSw; (try dsimp only at hSw); go_simp; try with_reducible rfl) <|
    LvY.take (by rfl) (by intro w hSw; (try dsimp only at hSw); go_simp; try with_reducible rfl) <|
    LvY.skip <|
    LvY.skip <|
    LvY.skip <|
    LvY.skip <|
    LvY.nil) (by rfl) (by rfl) (by kernel_rfl) (fun _ _ _ _ _ h => h) (by kernel_rfl) (by kernel_rfl) (by kernel_rfl) (by assumption) ?_
  simp only [lvVs, putDs, Act.put, List.setIfInBounds_toArray, List.set_cons_zero, List.set_cons_succ]
  refine wpAnyH_sl (n := 6) (l' := (#[true, true, true, false, true, true, true, false, true, true, true, false, true, true, true, false, false, false] : Array Bool)) [2, 6, 10, 14] [some 7, some 11, some 15, some 19] hSSA (
    LvY.skip <|
    LvY.skip <|
    LvY.take (by rfl) (by intro w hSw; (try dsimp only at hSw); go_simp; try with_reducible rfl) <|
    LvY.skip <|
    LvY.skip <|
    LvY.skip <|
    LvY.take (by rfl) (by intro w hSw; (try dsimp only at hSw); go_simp; try with_reducible rfl) <|
    LvY.skip <|
    LvY.skip <|
    LvY.skip <|
    LvY.take (by rfl) (by intro w hSw; (try dsimp only at hSw); go_simp; try with_reducible rfl) <|
    LvY.skip <|
    LvY.skip <|
    LvY.skip <|
    LvY.take (by rfl) (by intro w hSw; (try dsimp only at hSw); go_simp; try with_reducible rfl) <|
    LvY.skip <|
    LvY.skip <|
    LvY.skip <|
    LvY.nil) (by rfl) (by rfl) (by kernel_rfl) (fun _ _ _ _ _ h => h) (by kernel_rfl) (by kernel_rfl) (by kernel_rfl) (by assumption) ?_
  simp only [lvVs, putDs, Act.put, List.setIfInBounds_toArray, List.set_cons_zero, List.set_cons_succ]
  have hOld := hHeld; clear hHeld
  refine wpAnyH_on (i := 3) (n := 5) (l' := (#[true, true, true, true, true, true, true, false, true, true, true, false, true, true, true, false, false, false] : Array Bool)) (by kernel_rfl) (by kernel_rfl) (by kernel_rfl) (by simp only [List.getElem?_toArray, List.getElem?_cons_succ, List.getElem?_cons_zero]; rfl) (by rfl) (fun K hK => ?_)
  go_simp
  ((with_reducible refine (mvCall (b := b) (w0 := w) (by (repeat (first | with_reducible assumption | with_reducible exact Mv.refl (by assumption) (by assumption) | with_reducible apply Mv.alloc | with_reducible apply Mv.drew | with_reducible apply Mv.drewN | ((with_reducible apply Mv.setCell); rotate_left; (first | (dsimp only; omega) | omega | (simp; omega)); (first | (dsimp only; omega) | omega | (simp; omega))) | ((with_reducible apply Mv.below); rotate_left; (with_reducible assumption)) | ((with_reducible apply Mv.trans); rotate_left; (with_reducible assumption))))) (k0 _ _ hOld.2.2.2.2.1 hOld.2.2.2.2.2)).mono ?_); rintro e w1 ⟨rfl, hM, HM⟩)
  (try go_wp2_with (fail))
  refine hK.out _ _ ⟨(by first | exact mv_cell hM (by first | (dsimp only; omega) | (simp; omega)) hOld.1 | exact cell_later hM hOld.1 | exact HT.cb | exact HT.cc | (simp (maxDischargeDepth := 6) [go_sem, *]; done)), (by first | exact mv_cell hM (by first | (dsimp only; omega) | (simp; omega)) hOld.2.1 | exact cell_later hM hOld.2.1 | exact HT.cb | exact HT.cc | (simp (maxDischargeDepth := 6) [go_sem, *]; done)), (by first | exact mv_cell hM (by first | (dsimp only; omega) | (simp; omega)) hOld.2.2.1 | exact cell_later hM hOld.2.2.1 | exact HT.cb | exact HT.cc | (simp (maxDischargeDepth := 6) [go_sem, *]; done)), (by first | exact mv_cell hM (by first | (dsimp only; omega) | (simp; omega)) hOld.2.2.2.1 | exact cell_later hM hOld.2.2.2.1 | exact HT.cb | exact HT.cc | (simp (maxDischargeDepth := 6) [go_sem, *]; done)), (by first | exact mv_cell hM (by first | (dsimp only; omega) | (simp; omega)) hOld.2.2.2.2.1 | exact cell_later hM hOld.2.2.2.2.1 | exact HT.cb | exact HT.cc | (simp (maxDischargeDepth := 6) [go_sem, *]; done)), (by first | exact mv_cell hM (by first | (dsimp only; omega) | (simp; omega)) hOld.2.2.2.2.2 | exact cell_later hM hOld.2.2.2.2.2 | exact HT.cb | exact HT.cc | (simp (maxDischargeDepth := 6) [go_sem, *]; done))⟩ (fun hHeld => ?_)
  clear hK K hOld
  try simp only [Act.put, List.setIfInBounds_toArray, List.set_cons_zero, List.set_cons_succ]
  have hR := row_mv (g := w.heap.size + 1) hM hR (by omega); clear hM
  have hOld := hHeld; clear hHeld
  refine wpAnyH_on (i := 7) (n := 4) (l' := (#[true, true, true, true, true, true, true, true, true, true, true, false, true, true, true, false, false, false] : Array Bool)) (by kernel_rfl) (by kernel_rfl) (by kernel_rfl) (by simp only [List.getElem?_toArray, List.getElem?_cons_succ, List.getElem?_cons_zero]; rfl) (by rfl) (fun K hK => ?_)
  go_simp
  ((with_reducible refine (mvCall (b := b) (w0 := w) (by (repeat (first | with_reducible assumption | with_reducible exact Mv.refl (by assumption) (by assumption) | with_reducible apply Mv.alloc | with_reducible apply Mv.drew | with_reducible apply Mv.drewN | ((with_reducible apply Mv.setCell); rotate_left; (first | (dsimp only; omega) | omega | (simp; omega)); (first | (dsimp only; omega) | omega | (simp; omega))) | ((with_reducible apply Mv.below); rotate_left; (with_reducible assumption)) | ((with_reducible apply Mv.trans); rotate_left; (with_reducible assumption))))) (k1 _ _ hOld.2.2.2.2.1 hOld.2.2.2.2.2)).mono ?_); rintro e w1 ⟨rfl, hM, HM⟩)
  (try go_wp2_with (fail))
  refine hK.out _ _ ⟨(by first | exact mv_cell hM (by first | (dsimp only; omega) | (simp; omega)) hOld.1 | exact cell_later hM hOld.1 | exact HT.cb | exact HT.cc | (simp (maxDischargeDepth := 6) [go_sem, *]; done)), (by first | exact mv_cell hM (by first | (dsimp only; omega) | (simp; omega)) hOld.2.1 | exact cell_later hM hOld.2.1 | exact HT.cb | exact HT.cc | (simp (maxDischargeDepth := 6) [go_sem, *]; done)), (by first | exact mv_cell hM (by first | (dsimp only; omega) | (simp; omega)) hOld.2.2.1 | exact cell_later hM hOld.2.2.1 | exact HT.cb | exact HT.cc | (simp (maxDischargeDepth := 6) [go_sem, *]; done)), (by first | exact mv_cell hM (by first | (dsimp only; omega) | (simp; omega)) hOld.2.2.2.1 | exact cell_later hM hOld.2.2.2.1 | exact HT.cb | exact HT.cc | (simp (maxDischargeDepth := 6) [go_sem, *]; done)), (by first | exact mv_cell hM (by first | (dsimp only; omega) | (simp; omega)) hOld.2.2.2.2.1 | exact cell_later hM hOld.2.2.2.2.1 | exact HT.cb | exact HT.cc | (simp (maxDischargeDepth := 6) [go_sem, *]; done)), (by first | exact mv_cell hM (by first | (dsimp only; omega) | (simp; omega)) hOld.2.2.2.2.2 | exact cell_later hM hOld.2.2.2.2.2 | exact HT.cb | exact HT.cc | (simp (maxDischargeDepth := 6) [go_sem, *]; done))⟩ (fun hHeld => ?_)
  clear hK K hOld
  try simp only [Act.put, List.setIfInBounds_toArray, List.set_cons_zero, List.set_cons_succ]
  have hR := row_mv (g := w.heap.size + 1) hM hR (by omega); clear hM
  have hOld := hHeld; clear hHeld
  refine wpAnyH_on (i := 11) (n := 3) (l' := (#[true, true, true, true, true, true, true, true, true, true, true, true, true, true, true, false, false, false] : Array Bool)) (by kernel_rfl) (by kernel_rfl) (by kernel_rfl) (by simp only [List.getElem?_toArray, List.getElem?_cons_succ, List.getElem?_cons_zero]; rfl) (by rfl) (fun K hK => ?_)
  go_simp
  ((with_reducible refine (mvCall (b := b) (w0 := w) (by (repeat (first | with_reducible assumption | with_reducible exact Mv.refl (by assumption) (by assumption) | with_reducible apply Mv.alloc | with_reducible apply Mv.drew | with_reducible apply Mv.drewN | ((with_reducible apply Mv.setCell); rotate_left; (first | (dsimp only; omega) | omega | (simp; omega)); (first | (dsimp only; omega) | omega | (simp; omega))) | ((with_reducible apply Mv.below); rotate_left; (with_reducible assumption)) | ((with_reducible apply Mv.trans); rotate_left; (with_reducible assumption))))) (k2 _ _ hOld.2.2.2.2.1 hOld.2.2.2.2.2)).mono ?_); rintro e w1 ⟨rfl, hM, HM⟩)
  (try go_wp2_with (fail))
  refine hK.out _ _ ⟨(by first | exact mv_cell hM (by first | (dsimp only; omega) | (simp; omega)) hOld.1 | exact cell_later hM hOld.1 | exact HT.cb | exact HT.cc | (simp (maxDischargeDepth := 6) [go_sem, *]; done)), (by first | exact mv_cell hM (by first | (dsimp only; omega) | (simp; omega)) hOld.2.1 | exact cell_later hM hOld.2.1 | exact HT.cb | exact HT.cc | (simp (maxDischargeDepth := 6) [go_sem, *]; done)), (by first | exact mv_cell hM (by first | (dsimp only; omega) | (simp; omega)) hOld.2.2.1 | exact cell_later hM hOld.2.2.1 | exact HT.cb | exact HT.cc | (simp (maxDischargeDepth := 6) [go_sem, *]; done)), (by first | exact mv_cell hM (by first | (dsimp only; omega) | (simp; omega)) hOld.2.2.2.1 | exact cell_later hM hOld.2.2.2.1 | exact HT.cb | exact HT.cc | (simp (maxDischargeDepth := 6) [go_sem, *]; done)), (by first | exact mv_cell hM (by first | (dsimp only; omega) | (simp; omega)) hOld.2.2.2.2.1 | exact cell_later hM hOld.2.2.2.2.1 | exact HT.cb | exact HT.cc | (simp (maxDischargeDepth := 6) [go_sem, *]; done)), (by first | exact mv_cell hM (by first | (dsimp only; omega) | (simp; omega)) hOld.2.2.2.2.2 | exact cell_later hM hOld.2.2.2.2.2 | exact HT.cb | exact HT.cc | (simp (maxDischargeDepth := 6) [go_sem, *]; done))⟩ (fun hHeld => ?_)
  clear hK K hOld
  try simp only [Act.put, List.setIfInBounds_toArray, List.set_cons_zero, List.set_cons_succ]
  have hR := row_mv (g := w.heap.size + 1) hM hR (by omega); clear hM
  have hOld := hHeld; clear hHeld
  refine wpAnyH_on (i := 15) (n := 2) (l' := (#[true, true, true, true, true, true, true, true, true, true, true, true, true, true, true, true, false, false] : Array Bool)) (by kernel_rfl) (by kernel_rfl) (by kernel_rfl) (by simp only [List.getElem?_toArray, List.getElem?_cons_succ, List.getElem?_cons_zero]; rfl) (by rfl) (fun K hK => ?_)
  go_simp
  ((with_reducible refine (mvCall (b := b) (w0 := w) (by (repeat (first | with_reducible assumption | with_reducible exact Mv.refl (by assumption) (by assumption) | with_reducible apply Mv.alloc | with_reducible apply Mv.drew | with_reducible apply Mv.drewN | ((with_reducible apply Mv.setCell); rotate_left; (first | (dsimp only; omega) | omega | (simp; omega)); (first | (dsimp only; omega) | omega | (simp; omega))) | ((with_reducible apply Mv.below); rotate_left; (with_reducible assumption)) | ((with_reducible apply Mv.trans); rotate_left; (with_reducible assumption))))) (k3 _ _ hOld.2.2.2.2.1 hOld.2.2.2.2.2)).mono ?_); rintro e w1 ⟨rfl, hM, HM⟩)
  (try go_wp2_with (fail))
  refine hK.out _ _ ⟨(by first | exact mv_cell hM (by first | (dsimp only; omega) | (simp; omega)) hOld.1 | exact cell_later hM hOld.1 | exact HT.cb | exact HT.cc | (simp (maxDischargeDepth := 6) [go_sem, *]; done)), (by first | exact mv_cell hM (by first | (dsimp only; omega) | (simp; omega)) hOld.2.1 | exact cell_later hM hOld.2.1 | exact HT.cb | exact HT.cc | (simp (maxDischargeDepth := 6) [go_sem, *]; done)), (by first | exact mv_cell hM (by first | (dsimp only; omega) | (simp; omega)) hOld.2.2.1 | exact cell_later hM hOld.2.2.1 | exact HT.cb | exact HT.cc | (simp (maxDischargeDepth := 6) [go_sem, *]; done)), (by first | exact mv_cell hM (by first | (dsimp only; omega) | (simp; omega)) hOld.2.2.2.1 | exact cell_later hM hOld.2.2.2.1 | exact HT.cb | exact HT.cc | (simp (maxDischargeDepth := 6) [go_sem, *]; done)), (by first | exact mv_cell hM (by first | (dsimp only; omega) | (simp; omega)) hOld.2.2.2.2.1 | exact cell_later hM hOld.2.2.2.2.1 | exact HT.cb | exact HT.cc | (simp (maxDischargeDepth := 6) [go_sem, *]; done)), (by first | exact mv_cell hM (by first | (dsimp only; omega) | (simp; omega)) hOld.2.2.2.2.2 | exact cell_later hM hOld.2.2.2.2.2 | exact HT.cb | exact HT.cc | (simp (maxDischargeDepth := 6) [go_sem, *]; done))⟩ (fun hHeld => ?_)
  clear hK K hOld
  try simp only [Act.put, List.setIfInBounds_toArray, List.set_cons_zero, List.set_cons_succ]
  have hR := row_mv (g := w.heap.size + 1) hM hR (by omega); clear hM
  refine wpAnyH_sl (n := 1) (l' := (#[true, true, true, true, true, true, true, true, true, true, true, true, true, true, true, true, true, false] : Array Bool)) [16] [some 21] hSSA (
    LvY.skip <|
    LvY.skip <|
    LvY.skip <|
    LvY.skip <|
    LvY.skip <|
    LvY.skip <|
    LvY.skip <|
    LvY.skip <|
    LvY.skip <|
    LvY.skip <|
    LvY.skip <|
    LvY.skip <|
    LvY.skip <|
    LvY.skip <|
    LvY.skip <|
    LvY.skip <|
    LvY.take (by rfl) (by intro w hSw; (try dsimp only at hSw); go_simp; try with_reducible rfl) <|
    LvY.skip <|
    LvY.nil) (by rfl) (by rfl) (by kernel_rfl) (fun _ _ _ _ _ h => h) (by kernel_rfl) (by kernel_rfl) (by kernel_rfl) (by assumption) ?_
  simp only [lvVs, putDs, Act.put, List.setIfInBounds_toArray, List.set_cons_zero, List.set_cons_succ]
  have hOld := hHeld; clear hHeld
  refine wpAnyH_on (i := 17) (n := 0) (l' := (#[true, true, true, true, true, true, true, true, true, true, true, true, true, true, true, true, true, true] : Array Bool)) (by kernel_rfl) (by kernel_rfl) (by kernel_rfl) (by simp only [List.getElem?_toArray, List.getElem?_cons_succ, List.getElem?_cons_zero]; rfl) (by rfl) (fun K hK => ?_)
  refine wp_store_row 24 _ _ rfl (w.heap.size + 1) #[.int .i64 d0, .int .i64 d1, .int .i64 d2, .int .i64 d3] (by rfl) (by rfl) 24 _ hR (by kernel_rfl) rfl (by simp [Value.oneCell']) ?_
  refine hK.out _ _ ⟨cell_row hOld.1 (by dsimp only; omega), cell_row hOld.2.1 (by dsimp only; omega), cell_row hOld.2.2.1 (by dsimp only; omega), cell_row hOld.2.2.2.1 (by dsimp only; omega), cell_row hOld.2.2.2.2.1 (by dsimp only; omega), cell_row hOld.2.2.2.2.2 (by dsimp only; omega)⟩ (fun hHeld => ?_)
  clear hK K hOld
  try simp only [Act.put, List.setIfInBounds_toArray, List.set_cons_zero, List.set_cons_succ]
  refine wpAnyH_done (by kernel_rfl) ?_ _
  (try refine NoPanic.normal ?_)
  (try clear q0); (try clear q1); (try clear q2); (try clear q3); (try clear q4); (try clear q5); obtain ⟨q0, q1, q2, q3, q4, q5⟩ := hHeld
  have hR := row_put #[.int .i64 d0, .int .i64 d1, .int .i64 d2, .int .i64 d3] hR
  go_wp2
  refine bodyPost_ret (results_cell_row rfl _ _ (w.heap.size + 1) 24 #[.int .i64 d0, .int .i64 d1, .int .i64 d2, .int .i64 d3] (0, 0) _ (by rfl) hR Try.underlying24 rfl (by kernel_rfl)) rfl ⟨rfl, ?_⟩
  exact HM.row (by omega) (by omega) _
set_option maxHeartbeats 8000000 in
set_option maxRecDepth 20000 in
theorem cUnit4 (x0 x1 x2 x3 : Int) (b : Nat) (o : Bool) (w : World) (x0_0 : -9223372036854775808 ≤ x0) (x0_1 : x0 ≤ 9223372036854775807) (x1_0 : -9223372036854775808 ≤ x1) (x1_1 : x1 ≤ 9223372036854775807) (x2_0 : -9223372036854775808 ≤ x2) (x2_1 : x2 ≤ 9223372036854775807) (x3_0 : -9223372036854775808 ≤ x3) (x3_1 : x3 ≤ 9223372036854775807) (hc : w.cell? ⟨b, 0, none⟩ = some (.bool o)) (hf : w.frozen? ⟨b, 0, none⟩ = false) :
    Calls Try.prog 18 #[.pointer (some ⟨b, 0, none⟩), .agg #[.int .i64 x0, .int .i64 x1, .int .i64 x2, .int .i64 x3]] w fun e w' =>
      e = .returned (.agg #[.int .i64 (uw x0 (ln (x0 * x0 + x1 * x1 + x2 * x2 + x3 * x3))), .int .i64 (uq x1 (ln (x0 * x0 + x1 * x1 + x2 * x2 + x3 * x3))), .int .i64 (uq x2 (ln (x0 * x0 + x1 * x1 + x2 * x2 + x3 * x3))), .int .i64 (uq x3 (ln (x0 * x0 + x1 * x1 + x2 * x2 + x3 * x3)))]) ∧
        Mv b (o || !lnok (x0 * x0 + x1 * x1 + x2 * x2 + x3 * x3) || !uok x0 (ln (x0 * x0 + x1 * x1 + x2 * x2 + x3 * x3)) || !uok x1 (ln (x0 * x0 + x1 * x1 + x2 * x2 + x3 * x3)) || !uok x2 (ln (x0 * x0 + x1 * x1 + x2 * x2 + x3 * x3)) || !uok x3 (ln (x0 * x0 + x1 * x1 + x2 * x2 + x3 * x3))) w w' := by
  have k1 := fun O W => cLen4 x0 x1 x2 x3 b O W x0_0 x0_1 x1_0 x1_1 x2_0 x2_1 x3_0 x3_1
  have m0 := ln_lo (x0 * x0 + x1 * x1 + x2 * x2 + x3 * x3)
  have m1 := ln_hi (x0 * x0 + x1 * x1 + x2 * x2 + x3 * x3)
  generalize ln (x0 * x0 + x1 * x1 + x2 * x2 + x3 * x3) = n at *
  generalize lnok (x0 * x0 + x1 * x1 + x2 * x2 + x3 * x3) = p at *
  have hb := lt_of_cell hc
  have HM := Mv.refl hc hf
  clear hc hf
  have k2 := fun ps O W n1 n2 => cQEachUnit (fun x => fq x n) (fun x => fqok x n) x0 x1 x2 x3 n w.heap.size ps b O W x0_0 x0_1 x1_0 x1_1 x2_0 x2_1 x3_0 x3_1 n1 n2
    (fun x o W a1 a2 h1 h2 h3 h4 => cUFUnit x n w.heap.size ps b o W a1 a2 (by omega) (by omega) h1 h2 h3 h4)
  generalize hu0 : uw x0 n = u0 at *
  generalize hu1 : uq x1 n = u1 at *
  generalize hu2 : uq x2 n = u2 at *
  generalize hu3 : uq x3 n = u3 at *
  generalize hp0 : uok x0 n = p0 at *
  generalize hp1 : uok x1 n = p1 at *
  generalize hp2 : uok x2 n = p2 at *
  generalize hp3 : uok x3 n = p3 at *
  go_enter Try.func18, Try.ntmps18
  go_wp2_with (fail)
  generalize hW : World.alloc _ _ = W1
  have hR : W1.heap[w.heap.size + 1 + 1]? = some (.cells #[.int .i64 0, .int .i64 0, .int .i64 0, .int .i64 0] 24 (0, 0)) := by
    rw [← hW]
    have := row_new ((w.alloc (.cells #[.pointer (some ⟨b, 0, none⟩)] 27)).alloc (.cells #[.int .i64 x0, .int .i64 x1, .int .i64 x2, .int .i64 x3] 24)) (.cells #[.int .i64 0, .int .i64 0, .int .i64 0, .int .i64 0] 24)
    simpa only [World.size_alloc] using this
  have c0 : W1.cell? ⟨w.heap.size + 1, 0, none⟩ = some (.int .i64 x0) := by rw [← hW]; simp [go_sem]
  have c1 : W1.cell? ⟨w.heap.size + 1, 1, none⟩ = some (.int .i64 x1) := by rw [← hW]; simp [go_sem]
  have c2 : W1.cell? ⟨w.heap.size + 1, 2, none⟩ = some (.int .i64 x2) := by rw [← hW]; simp [go_sem]
  have c3 : W1.cell? ⟨w.heap.size + 1, 3, none⟩ = some (.int .i64 x3) := by rw [← hW]; simp [go_sem]
  have hpm : W1.cell? ⟨w.heap.size, 0, none⟩ = some (.pointer (some ⟨b, 0, none⟩)) := by rw [← hW]; simp [go_sem]
  have HM : Mv b o w W1 := by rw [← hW]; exact ((HM.alloc _).alloc _).alloc _
  have hz : W1.heap.size = w.heap.size + 3 := by rw [← hW]; simp
  clear hW
  (with_reducible refine (mvCall (b := b) (w0 := w) HM (k1 _ _)).mono ?_); rintro e w1 ⟨rfl, hM, HM⟩
  have c0 := mv_cell hM (by dsimp only; omega) c0
  have c1 := mv_cell hM (by dsimp only; omega) c1
  have c2 := mv_cell hM (by dsimp only; omega) c2
  have c3 := mv_cell hM (by dsimp only; omega) c3
  have hpm := mv_cell hM (by dsimp only; omega) hpm
  have hR := row_mv (g := w.heap.size + 1 + 1) hM hR (by omega)
  have hz1 := hM.size
  clear hM k1
  have HA := HM.alloc (.cells #[.int .i64 n] 22)
  have hRA := row_later hR ((Below.refl _ _).alloc (Nat.le_refl _) (.cells #[.int .i64 n] 22))
  by_cases hn : n = 0
  · subst hn
    simp only [uw, if_pos rfl, if_true] at hu0; subst hu0
    rw [uok_0] at hp0; subst hp0
    simp only [uq, if_pos rfl, if_true] at hu1; subst hu1
    rw [uok_0] at hp1; subst hp1
    simp only [uq, if_pos rfl, if_true] at hu2; subst hu2
    rw [uok_0] at hp2; subst hp2
    simp only [uq, if_pos rfl, if_true] at hu3; subst hu3
    rw [uok_0] at hp3; subst hp3
    go_wp2_with (refine wpList_store_row rfl 24 _ _ rfl (w.heap.size + 1 + 1) #[.int .i64 4294967296, .int .i64 0, .int .i64 0, .int .i64 0] (by rfl) (by rfl) 24 _ hRA (by kernel_rfl) rfl (by simp [Value.oneCell']) ?_)
    have hR := row_put #[.int .i64 4294967296, .int .i64 0, .int .i64 0, .int .i64 0] hRA
    refine bodyPost_ret (results_cell_row rfl _ _ (w.heap.size + 1 + 1) 24 #[.int .i64 4294967296, .int .i64 0, .int .i64 0, .int .i64 0] (0, 0) _ (by rfl) hR Try.underlying24 rfl (by kernel_rfl)) rfl ⟨rfl, ?_⟩
    simp only [Bool.not_true, Bool.or_false]
    exact HA.row (by omega) (by omega) _
  · rw [uw_no _ _ hn] at hu0; subst hu0
    rw [uok_no _ _ hn] at hp0; subst hp0
    rw [uq_no _ _ hn] at hu1; subst hu1
    rw [uok_no _ _ hn] at hp1; subst hp1
    rw [uq_no _ _ hn] at hu2; subst hu2
    rw [uok_no _ _ hn] at hp2; subst hp2
    rw [uq_no _ _ hn] at hu3; subst hu3
    rw [uok_no _ _ hn] at hp3; subst hp3
    have hps : (w1.alloc (.cells #[.int .i64 n] 22)).cell? ⟨w1.heap.size, 0, none⟩ = some (.int .i64 n) := by simp [go_sem]
    have hpm := cell_later ((Below.refl _ _).alloc (Nat.le_refl _) (.cells #[.int .i64 n] 22)) hpm
    have k3 := k2 w1.heap.size _ (w1.alloc (.cells #[.int .i64 n] 22)) (by omega) (by have := lt_of_cell HM.cell; omega) hpm hps HA.cell HA.free
    clear k2
    go_wp2_with (first
      | (go_at_call 46; (with_reducible refine k3.mono ?_); rintro e w2 ⟨rfl, hM⟩; have HM2 := HA.trans hM; have hRB := row_mv (g := w.heap.size + 1 + 1) hM hRA (by omega))
      | (refine wpList_store_row rfl 24 _ _ rfl (w.heap.size + 1 + 1) #[.int .i64 (fq x0 n), .int .i64 (fq x1 n), .int .i64 (fq x2 n), .int .i64 (fq x3 n)] (by rfl) (by rfl) 24 _ hRB (by kernel_rfl) rfl (by simp [Value.oneCell']) ?_))
    have hR := row_put #[.int .i64 (fq x0 n), .int .i64 (fq x1 n), .int .i64 (fq x2 n), .int .i64 (fq x3 n)] hRB
    refine bodyPost_ret (results_cell_row rfl _ _ (w.heap.size + 1 + 1) 24 #[.int .i64 (fq x0 n), .int .i64 (fq x1 n), .int .i64 (fq x2 n), .int .i64 (fq x3 n)] (0, 0) _ (by rfl) hR Try.underlying24 rfl (by kernel_rfl)) rfl ⟨rfl, ?_⟩
    exact HM2.row (by omega) (by omega) _
end Go.Proofs.Ytjpkkpflamkjkaa
