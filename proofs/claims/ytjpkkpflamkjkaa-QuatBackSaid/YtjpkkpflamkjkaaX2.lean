/- An attitude's matrix: the program's walk (printed by mkx2.py). -/
import Derived.Test.YtjpkkpflamkjkaaX1
import Derived.Test.YtjpkkpflamkjkaaW7
import Derived.Laws.EntriesVeiled
set_option linter.unusedSimpArgs false
set_option linter.unusedVariables false
namespace Go.Proofs.Ytjpkkpflamkjkaa
open Go.RowKit
set_option maxHeartbeats 16000000 in
set_option maxRecDepth 20000 in
theorem cMatrix (x0 x1 x2 x3 : Int) (b : Nat) (o : Bool) (w : World) (x0_0 : -9223372036854775808 ≤ x0) (x0_1 : x0 ≤ 9223372036854775807) (x1_0 : -9223372036854775808 ≤ x1) (x1_1 : x1 ≤ 9223372036854775807) (x2_0 : -9223372036854775808 ≤ x2) (x2_1 : x2 ≤ 9223372036854775807) (x3_0 : -9223372036854775808 ≤ x3) (x3_1 : x3 ≤ 9223372036854775807) (hc : w.cell? ⟨b, 0, none⟩ = some (.bool o)) (hf : w.frozen? ⟨b, 0, none⟩ = false) :
    Calls Try.prog 9 #[.pointer (some ⟨b, 0, none⟩), .agg #[.int .i64 x0, .int .i64 x1, .int .i64 x2, .int .i64 x3]] w fun e w' => e = .returned (.agg #[.int .i64 (mo x2 x3), .int .i64 (mn x1 x2 x0 x3), .int .i64 (mp x1 x3 x0 x2), .int .i64 (mp x1 x2 x0 x3), .int .i64 (mo x1 x3), .int .i64 (mn x2 x3 x0 x1), .int .i64 (mn x1 x3 x0 x2), .int .i64 (mp x2 x3 x0 x1), .int .i64 (mo x1 x2)]) ∧ Mv b (o || !mok x2 x3 || !mnk x1 x2 x0 x3 || !mpk x1 x3 x0 x2 || !mpk x1 x2 x0 x3 || !mok x1 x3 || !mnk x2 x3 x0 x1 || !mnk x1 x3 x0 x2 || !mpk x2 x3 x0 x1 || !mok x1 x2) w w' := by
  have hb := lt_of_cell hc
  have HM := Mv.refl hc hf
  clear hc hf
  have k0 := fun O W h1 h2 h3 => cOwn x2 x3 (w.heap.size + 1 + 1 + 1 + 1) (w.heap.size + 1 + 1 + 1) w.heap.size b O W x2_0 x2_1 x3_0 x3_1 h1 h2 h3 (by omega) (by omega) (by omega)
  have k1 := fun O W h1 h2 => cMinus x1 x2 x0 x3 (w.heap.size + 1 + 1 + 1) w.heap.size b O W x1_0 x1_1 x2_0 x2_1 x0_0 x0_1 x3_0 x3_1 h1 h2 (by omega) (by omega)
  have k2 := fun O W h1 h2 => cPlus x1 x3 x0 x2 (w.heap.size + 1 + 1 + 1) w.heap.size b O W x1_0 x1_1 x3_0 x3_1 x0_0 x0_1 x2_0 x2_1 h1 h2 (by omega) (by omega)
  have k3 := fun O W h1 h2 => cPlus x1 x2 x0 x3 (w.heap.size + 1 + 1 + 1) w.heap.size b O W x1_0 x1_1 x2_0 x2_1 x0_0 x0_1 x3_0 x3_1 h1 h2 (by omega) (by omega)
  have k4 := fun O W h1 h2 h3 => cOwn x1 x3 (w.heap.size + 1 + 1 + 1 + 1) (w.heap.size + 1 + 1 + 1) w.heap.size b O W x1_0 x1_1 x3_0 x3_1 h1 h2 h3 (by omega) (by omega) (by omega)
  have k5 := fun O W h1 h2 => cMinus x2 x3 x0 x1 (w.heap.size + 1 + 1 + 1) w.heap.size b O W x2_0 x2_1 x3_0 x3_1 x0_0 x0_1 x1_0 x1_1 h1 h2 (by omega) (by omega)
  have k6 := fun O W h1 h2 => cMinus x1 x3 x0 x2 (w.heap.size + 1 + 1 + 1) w.heap.size b O W x1_0 x1_1 x3_0 x3_1 x0_0 x0_1 x2_0 x2_1 h1 h2 (by omega) (by omega)
  have k7 := fun O W h1 h2 => cPlus x2 x3 x0 x1 (w.heap.size + 1 + 1 + 1) w.heap.size b O W x2_0 x2_1 x3_0 x3_1 x0_0 x0_1 x1_0 x1_1 h1 h2 (by omega) (by omega)
  have k8 := fun O W h1 h2 h3 => cOwn x1 x2 (w.heap.size + 1 + 1 + 1 + 1) (w.heap.size + 1 + 1 + 1) w.heap.size b O W x1_0 x1_1 x2_0 x2_1 h1 h2 h3 (by omega) (by omega) (by omega)
  generalize mo x2 x3 = v0 at *
  generalize mn x1 x2 x0 x3 = v1 at *
  generalize mp x1 x3 x0 x2 = v2 at *
  generalize mp x1 x2 x0 x3 = v3 at *
  generalize mo x1 x3 = v4 at *
  generalize mn x2 x3 x0 x1 = v5 at *
  generalize mn x1 x3 x0 x2 = v6 at *
  generalize mp x2 x3 x0 x1 = v7 at *
  generalize mo x1 x2 = v8 at *
  generalize mok x2 x3 = f0 at *
  generalize mnk x1 x2 x0 x3 = f1 at *
  generalize mpk x1 x3 x0 x2 = f2 at *
  generalize mpk x1 x2 x0 x3 = f3 at *
  generalize mok x1 x3 = f4 at *
  generalize mnk x2 x3 x0 x1 = f5 at *
  generalize mnk x1 x3 x0 x2 = f6 at *
  generalize mpk x2 x3 x0 x1 = f7 at *
  generalize mok x1 x2 = f8 at *
  go_enter Try.func9, Try.ntmps9
  go_upto_region 5 with (fail)
  generalize hW : World.alloc _ _ = W1
  have hR : W1.heap[w.heap.size + 1 + 1]? = some (.cells #[.int .i64 0, .int .i64 0, .int .i64 0, .int .i64 0, .int .i64 0, .int .i64 0, .int .i64 0, .int .i64 0, .int .i64 0] 33 (0, 0)) := by rw [← hW]; have := row_new ((w.alloc (.cells #[.pointer (some ⟨b, 0, none⟩)] 27)).alloc (.cells #[.int .i64 x0, .int .i64 x1, .int .i64 x2, .int .i64 x3] 24)) (.cells #[.int .i64 0, .int .i64 0, .int .i64 0, .int .i64 0, .int .i64 0, .int .i64 0, .int .i64 0, .int .i64 0, .int .i64 0] 33); simp only [World.size_alloc] at this; exact row_later (row_later this ((Below.refl _ _).alloc (Nat.le_refl _) _)) ((Below.refl _ _).alloc (Nat.le_refl _) _)
  have q0 : W1.cell? ⟨w.heap.size + 1, 0, none⟩ = some (.int .i64 x0) := by rw [← hW]; simp [go_sem]
  have q1 : W1.cell? ⟨w.heap.size + 1, 1, none⟩ = some (.int .i64 x1) := by rw [← hW]; simp [go_sem]
  have q2 : W1.cell? ⟨w.heap.size + 1, 2, none⟩ = some (.int .i64 x2) := by rw [← hW]; simp [go_sem]
  have q3 : W1.cell? ⟨w.heap.size + 1, 3, none⟩ = some (.int .i64 x3) := by rw [← hW]; simp [go_sem]
  have q4 : W1.cell? ⟨w.heap.size + 1 + 1 + 1, 0, none⟩ = some (.func (.func 30) #[] #[.pointer (some ⟨w.heap.size, 0, none⟩)]) := by rw [← hW]; simp [go_sem]
  have q5 : W1.cell? ⟨w.heap.size + 1 + 1 + 1 + 1, 0, none⟩ = some (.func (.func 32) #[] #[.pointer (some ⟨w.heap.size + 1 + 1 + 1, 0, none⟩), .pointer (some ⟨w.heap.size, 0, none⟩)]) := by rw [← hW]; simp [go_sem]
  have q6 : W1.cell? ⟨w.heap.size, 0, none⟩ = some (.pointer (some ⟨b, 0, none⟩)) := by rw [← hW]; simp [go_sem]
  have HM : Mv b o w W1 := by rw [← hW]; exact ((((HM.alloc _).alloc _).alloc _).alloc _).alloc _
  clear hW
  (try refine wp_region_noPanic ?_)
  refine wp_region_ssa (S := (fun (w' : World) => w'.cell? ⟨w.heap.size + 1, 0, none⟩ = some (.int .i64 x0) ∧ w'.cell? ⟨w.heap.size + 1, 1, none⟩ = some (.int .i64 x1) ∧ w'.cell? ⟨w.heap.size + 1, 2, none⟩ = some (.int .i64 x2) ∧ w'.cell? ⟨w.heap.size + 1, 3, none⟩ = some (.int .i64 x3) ∧ w'.cell? ⟨w.heap.size + 1 + 1 + 1, 0, none⟩ = some (.func (.func 30) #[] #[.pointer (some ⟨w.heap.size, 0, none⟩)]) ∧ w'.cell? ⟨w.heap.size + 1 + 1 + 1 + 1, 0, none⟩ = some (.func (.func 32) #[] #[.pointer (some ⟨w.heap.size + 1 + 1 + 1, 0, none⟩), .pointer (some ⟨w.heap.size, 0, none⟩)]) ∧ w'.cell? ⟨w.heap.size, 0, none⟩ = some (.pointer (some ⟨b, 0, none⟩)))) (#[none, none, none, none, none, none, none, none, none, none, none, none, none, some 0, some 1, some 2, some 3, some 4, some 5, some 6, some 7, some 8, some 9, some 10, some 11, some 12, some 13, some 14, some 15, some 16, some 17, some 18, some 19, some 20, some 21, some 22, some 23, some 24, some 25, some 26, some 27, some 28, some 29, some 30, some 31, some 32, some 33, some 34, some 35, some 36, some 37, some 38, some 39, some 40, some 41, some 42, some 43, some 44, some 45, some 46, some 47, some 48, some 49, some 50, some 51, some 52, some 53, some 54, some 55, some 56, some 57, some 58, some 59, some 60, some 61, some 62, some 63, some 64, some 65, some 66, some 67, some 68, some 69, some 70, some 71, some 72, some 73, some 74, some 75, some 76, some 77, some 78, some 79, some 80, some 81] : Array (Option Nat)) (by kernel_rfl) (by kernel_rfl) (by kernel_rfl) ⟨(by first | (simp (maxDischargeDepth := 6) [go_sem, *]; done)), (by first | (simp (maxDischargeDepth := 6) [go_sem, *]; done)), (by first | (simp (maxDischargeDepth := 6) [go_sem, *]; done)), (by first | (simp (maxDischargeDepth := 6) [go_sem, *]; done)), (by first | (simp (maxDischargeDepth := 6) [go_sem, *]; done)), (by first | (simp (maxDischargeDepth := 6) [go_sem, *]; done)), (by first | (simp (maxDischargeDepth := 6) [go_sem, *]; done))⟩ (fun hSSA hHeld => ?_)
  refine wpAnyH_sl (n := 44) (l' := (#[true, true, false, true, false, false, true, true, false, true, false, true, false, true, false, false, true, true, false, true, false, true, false, true, false, false, false, true, true, false, true, false, true, false, true, false, false, true, true, false, true, false, false, true, true, false, true, false, true, false, true, false, false, false, true, true, false, true, false, true, false, true, false, false, true, true, false, true, false, true, false, true, false, false, true, true, false, true, false, false, false, false, false] : Array Bool)) [0, 1, 3, 6, 7, 9, 11, 13, 16, 17, 19, 21, 23, 27, 28, 30, 32, 34, 37, 38, 40, 43, 44, 46, 48, 50, 54, 55, 57, 59, 61, 64, 65, 67, 69, 71, 74, 75, 77] [some 13, some 14, some 16, some 19, some 20, some 22, some 24, some 26, some 29, some 30, some 32, some 34, some 36, some 40, some 41, some 43, some 45, some 47, some 50, some 51, some 53, some 56, some 57, some 59, some 61, some 63, some 67, some 68, some 70, some 72, some 74, some 77, some 78, some 80, some 82, some 84, some 87, some 88, some 90] hSSA (
    LvY.take (by rfl) (by intro w hSw; (try dsimp only at hSw); go_simp; try with_reducible rfl) <|
    LvY.take (by rfl) (by intro w hSw; (try dsimp only at hSw); go_simp; try with_reducible rfl) <|
    LvY.skip <|
    LvY.take (by rfl) (by intro w hSw; (try dsimp only at hSw); go_simp; try with_reducible rfl) <|
    LvY.skip <|
    LvY.skip <|
    LvY.take (by rfl) (by intro w hSw; (try dsimp only at hSw); go_simp; try with_reducible rfl) <|
    LvY.take (by rfl) (by intro w hSw; (try dsimp only at hSw); go_simp; try with_reducible rfl) <|
    LvY.skip <|
    LvY.take (by rfl) (by intro w hSw; (try dsimp only at hSw); go_simp; try with_reducible rfl) <|
    LvY.skip <|
    LvY.take (by rfl) (by intro w hSw; (try dsimp only at hSw); go_simp; try with_reducible rfl) <|
    LvY.skip <|
    LvY.take (by rfl) (by intro w hSw; (try dsimp only at hSw); go_simp; try with_reducible rfl) <|
    LvY.skip <|
    LvY.skip <|
    LvY.take (by rfl) (by intro w hSw; (try dsimp only at hSw); go_simp; try with_reducible rfl) <|
    LvY.take (by rfl) (by intro w hSw; (try dsimp only at hSw); go_simp; try with_reducible rfl) <|
    LvY.skip <|
    LvY.take (by rfl) (by intro w hSw; (try dsimp only at hSw); go_simp; try with_reducible rfl) <|
    LvY.skip <|
    LvY.take (by rfl) (by intro w hSw; (try dsimp only at hSw); go_simp; try with_reducible rfl) <|
    LvY.skip <|
    LvY.take (by rfl) (by intro w hSw; (try dsimp only at hSw); go_simp; try with_reducible rfl) <|
    LvY.skip <|
    LvY.skip <|
    LvY.skip <|
    LvY.take (by rfl) (by intro w hSw; (try dsimp only at hSw); go_simp; try with_reducible rfl) <|
    LvY.take (by rfl) (by intro w hSw; (try dsimp only at hSw); go_simp; try with_reducible rfl) <|
    LvY.skip <|
    LvY.take (by rfl) (by intro w hSw; (try dsimp only at hSw); go_simp; try with_reducible rfl) <|
    LvY.skip <|
    LvY.take (by rfl) (by intro w hSw; (try dsimp only at hSw); go_simp; try with_reducible rfl) <|
    LvY.skip <|
    LvY.take (by rfl) (by intro w hSw; (try dsimp only at hSw); go_simp; try with_reducible rfl) <|
    LvY.skip <|
    LvY.skip <|
    LvY.take (by rfl) (by intro w hSw; (try dsimp only at hSw); go_simp; try with_reducible rfl) <|
    LvY.take (by rfl) (by intro w hSw; (try dsimp only at hSw); go_simp; try with_reducible rfl) <|
    LvY.skip <|
    LvY.take (by rfl) (by intro w hSw; (try dsimp only at hSw); go_simp; try with_reducible rfl) <|
    LvY.skip <|
    LvY.skip <|
    LvY.take (by rfl) (by intro w hSw; (try dsimp only at hSw); go_simp; try with_reducible rfl) <|
    LvY.take (by rfl) (by intro w hSw; (try dsimp only at hSw); go_simp; try with_reducible rfl) <|
    LvY.skip <|
    LvY.take (by rfl) (by intro w hSw; (try dsimp only at hSw); go_simp; try with_reducible rfl) <|
    LvY.skip <|
    LvY.take (by rfl) (by intro w hSw; (try dsimp only at hSw); go_simp; try with_reducible rfl) <|
    LvY.skip <|
    LvY.take (by rfl) (by intro w hSw; (try dsimp only at hSw); go_simp; try with_reducible rfl) <|
    LvY.skip <|
    LvY.skip <|
    LvY.skip <|
    LvY.take (by rfl) (by intro w hSw; (try dsimp only at hSw); go_simp; try with_reducible rfl) <|
    LvY.take (by rfl) (by intro w hSw; (try dsimp only at hSw); go_simp; try with_reducible rfl) <|
    LvY.skip <|
    LvY.take (by rfl) (by intro w hSw; (try dsimp only at hSw); go_simp; try with_reducible rfl) <|
    LvY.skip <|
    LvY.take (by rfl) (by intro w hSw; (try dsimp only at hSw); go_simp; try with_reducible rfl) <|
    LvY.skip <|
    LvY.take (by rfl) (by intro w hSw; (try dsimp only at hSw); go_simp; try with_reducible rfl) <|
    LvY.skip <|
    LvY.skip <|
    LvY.take (by rfl) (by intro w hSw; (try dsimp only at hSw); go_simp; try with_reducible rfl) <|
    LvY.take (by rfl) (by intro w hSw; (try dsimp only at hSw); go_simp; try with_reducible rfl) <|
    LvY.skip <|
    LvY.take (by rfl) (by intro w hSw; (try dsimp only at hSw); go_simp; try with_reducible rfl) <|
    LvY.skip <|
    LvY.take (by rfl) (by intro w hSw; (try dsimp only at hSw); go_simp; try with_reducible rfl) <|
    LvY.skip <|
    LvY.take (by rfl) (by intro w hSw; (try dsimp only at hSw); go_simp; try with_reducible rfl) <|
    LvY.skip <|
    LvY.skip <|
    LvY.take (by rfl) (by intro w hSw; (try dsimp only at hSw); go_simp; try with_reducible rfl) <|
    LvY.take (by rfl) (by intro w hSw; (try dsimp only at hSw); go_simp; try with_reducible rfl) <|
    LvY.skip <|
    LvY.take (by rfl) (by intro w hSw; (try dsimp only at hSw); go_simp; try with_reducible rfl) <|
    LvY.skip <|
    LvY.skip <|
    LvY.skip <|
    LvY.skip <|
    LvY.skip <|
    LvY.nil) (by rfl) (by rfl) (by kernel_rfl) (fun _ _ _ _ _ h => h) (by kernel_rfl) (by kernel_rfl) (by kernel_rfl) (by assumption) ?_
  simp only [lvVs, putDs, Act.put, List.setIfInBounds_toArray, List.set_cons_zero, List.set_cons_succ]
  refine wpAnyH_sl (n := 14) (l' := (#[true, true, true, true, true, false, true, true, true, true, true, true, true, true, true, false, true, true, true, true, true, true, true, true, true, false, false, true, true, true, true, true, true, true, true, true, false, true, true, true, true, true, false, true, true, true, true, true, true, true, true, true, false, false, true, true, true, true, true, true, true, true, true, false, true, true, true, true, true, true, true, true, true, false, true, true, true, true, true, false, false, false, false] : Array Bool)) [2, 4, 8, 10, 12, 14, 18, 20, 22, 24, 29, 31, 33, 35, 39, 41, 45, 47, 49, 51, 56, 58, 60, 62, 66, 68, 70, 72, 76, 78] [some 15, some 17, some 21, some 23, some 25, some 27, some 31, some 33, some 35, some 37, some 42, some 44, some 46, some 48, some 52, some 54, some 58, some 60, some 62, some 64, some 69, some 71, some 73, some 75, some 79, some 81, some 83, some 85, some 89, some 91] hSSA (
    LvY.skip <|
    LvY.skip <|
    LvY.take (by rfl) (by intro w hSw; (try dsimp only at hSw); go_simp; try with_reducible rfl) <|
    LvY.skip <|
    LvY.take (by rfl) (by intro w hSw; (try dsimp only at hSw); go_simp; try with_reducible rfl) <|
    LvY.skip <|
    LvY.skip <|
    LvY.skip <|
    LvY.take (by rfl) (by intro w hSw; (try dsimp only at hSw); go_simp; try with_reducible rfl) <|
    LvY.skip <|
    LvY.take (by rfl) (by intro w hSw; (try dsimp only at hSw); go_simp; try with_reducible rfl) <|
    LvY.skip <|
    LvY.take (by rfl) (by intro w hSw; (try dsimp only at hSw); go_simp; try with_reducible rfl) <|
    LvY.skip <|
    LvY.take (by rfl) (by intro w hSw; (try dsimp only at hSw); go_simp; try with_reducible rfl) <|
    LvY.skip <|
    LvY.skip <|
    LvY.skip <|
    LvY.take (by rfl) (by intro w hSw; (try dsimp only at hSw); go_simp; try with_reducible rfl) <|
    LvY.skip <|
    LvY.take (by rfl) (by intro w hSw; (try dsimp only at hSw); go_simp; try with_reducible rfl) <|
    LvY.skip <|
    LvY.take (by rfl) (by intro w hSw; (try dsimp only at hSw); go_simp; try with_reducible rfl) <|
    LvY.skip <|
    LvY.take (by rfl) (by intro w hSw; (try dsimp only at hSw); go_simp; try with_reducible rfl) <|
    LvY.skip <|
    LvY.skip <|
    LvY.skip <|
    LvY.skip <|
    LvY.take (by rfl) (by intro w hSw; (try dsimp only at hSw); go_simp; try with_reducible rfl) <|
    LvY.skip <|
    LvY.take (by rfl) (by intro w hSw; (try dsimp only at hSw); go_simp; try with_reducible rfl) <|
    LvY.skip <|
    LvY.take (by rfl) (by intro w hSw; (try dsimp only at hSw); go_simp; try with_reducible rfl) <|
    LvY.skip <|
    LvY.take (by rfl) (by intro w hSw; (try dsimp only at hSw); go_simp; try with_reducible rfl) <|
    LvY.skip <|
    LvY.skip <|
    LvY.skip <|
    LvY.take (by rfl) (by intro w hSw; (try dsimp only at hSw); go_simp; try with_reducible rfl) <|
    LvY.skip <|
    LvY.take (by rfl) (by intro w hSw; (try dsimp only at hSw); go_simp; try with_reducible rfl) <|
    LvY.skip <|
    LvY.skip <|
    LvY.skip <|
    LvY.take (by rfl) (by intro w hSw; (try dsimp only at hSw); go_simp; try with_reducible rfl) <|
    LvY.skip <|
    LvY.take (by rfl) (by intro w hSw; (try dsimp only at hSw); go_simp; try with_reducible rfl) <|
    LvY.skip <|
    LvY.take (by rfl) (by intro w hSw; (try dsimp only at hSw); go_simp; try with_reducible rfl) <|
    LvY.skip <|
    LvY.take (by rfl) (by intro w hSw; (try dsimp only at hSw); go_simp; try with_reducible rfl) <|
    LvY.skip <|
    LvY.skip <|
    LvY.skip <|
    LvY.skip <|
    LvY.take (by rfl) (by intro w hSw; (try dsimp only at hSw); go_simp; try with_reducible rfl) <|
    LvY.skip <|
    LvY.take (by rfl) (by intro w hSw; (try dsimp only at hSw); go_simp; try with_reducible rfl) <|
    LvY.skip <|
    LvY.take (by rfl) (by intro w hSw; (try dsimp only at hSw); go_simp; try with_reducible rfl) <|
    LvY.skip <|
    LvY.take (by rfl) (by intro w hSw; (try dsimp only at hSw); go_simp; try with_reducible rfl) <|
    LvY.skip <|
    LvY.skip <|
    LvY.skip <|
    LvY.take (by rfl) (by intro w hSw; (try dsimp only at hSw); go_simp; try with_reducible rfl) <|
    LvY.skip <|
    LvY.take (by rfl) (by intro w hSw; (try dsimp only at hSw); go_simp; try with_reducible rfl) <|
    LvY.skip <|
    LvY.take (by rfl) (by intro w hSw; (try dsimp only at hSw); go_simp; try with_reducible rfl) <|
    LvY.skip <|
    LvY.take (by rfl) (by intro w hSw; (try dsimp only at hSw); go_simp; try with_reducible rfl) <|
    LvY.skip <|
    LvY.skip <|
    LvY.skip <|
    LvY.take (by rfl) (by intro w hSw; (try dsimp only at hSw); go_simp; try with_reducible rfl) <|
    LvY.skip <|
    LvY.take (by rfl) (by intro w hSw; (try dsimp only at hSw); go_simp; try with_reducible rfl) <|
    LvY.skip <|
    LvY.skip <|
    LvY.skip <|
    LvY.skip <|
    LvY.nil) (by rfl) (by rfl) (by kernel_rfl) (fun _ _ _ _ _ h => h) (by kernel_rfl) (by kernel_rfl) (by kernel_rfl) (by assumption) ?_
  simp only [lvVs, putDs, Act.put, List.setIfInBounds_toArray, List.set_cons_zero, List.set_cons_succ]
  have hOld := hHeld; clear hHeld
  refine wpAnyH_on (i := 5) (n := 13) (l' := (#[true, true, true, true, true, true, true, true, true, true, true, true, true, true, true, false, true, true, true, true, true, true, true, true, true, false, false, true, true, true, true, true, true, true, true, true, false, true, true, true, true, true, false, true, true, true, true, true, true, true, true, true, false, false, true, true, true, true, true, true, true, true, true, false, true, true, true, true, true, true, true, true, true, false, true, true, true, true, true, false, false, false, false] : Array Bool)) (by kernel_rfl) (by kernel_rfl) (by kernel_rfl) (by simp only [List.getElem?_toArray, List.getElem?_cons_succ, List.getElem?_cons_zero]; rfl) (by rfl) (fun K hK => ?_)
  go_simp
  (go_at_call 35; (with_reducible refine (mvCall (b := b) (w0 := w) (by (repeat (first | with_reducible assumption | with_reducible exact Mv.refl (by assumption) (by assumption) | with_reducible apply Mv.alloc | with_reducible apply Mv.drew | with_reducible apply Mv.drewN | ((with_reducible apply Mv.setCell); rotate_left; (first | (dsimp only; omega) | omega | (simp; omega)); (first | (dsimp only; omega) | omega | (simp; omega))) | ((with_reducible apply Mv.below); rotate_left; (with_reducible assumption)) | ((with_reducible apply Mv.trans); rotate_left; (with_reducible assumption))))) (k0 _ _ hOld.2.2.2.2.2.1 hOld.2.2.2.2.1 hOld.2.2.2.2.2.2)).mono ?_); rintro e w1 ⟨rfl, hM, HM⟩)
  (try go_wp2_with (fail))
  refine hK.out _ _ ⟨(by first | exact mv_cell hM (by first | (dsimp only; omega) | (simp; omega)) hOld.1 | exact cell_later hM hOld.1 | exact HT.cb | exact HT.cc | (simp (maxDischargeDepth := 6) [go_sem, *]; done)), (by first | exact mv_cell hM (by first | (dsimp only; omega) | (simp; omega)) hOld.2.1 | exact cell_later hM hOld.2.1 | exact HT.cb | exact HT.cc | (simp (maxDischargeDepth := 6) [go_sem, *]; done)), (by first | exact mv_cell hM (by first | (dsimp only; omega) | (simp; omega)) hOld.2.2.1 | exact cell_later hM hOld.2.2.1 | exact HT.cb | exact HT.cc | (simp (maxDischargeDepth := 6) [go_sem, *]; done)), (by first | exact mv_cell hM (by first | (dsimp only; omega) | (simp; omega)) hOld.2.2.2.1 | exact cell_later hM hOld.2.2.2.1 | exact HT.cb | exact HT.cc | (simp (maxDischargeDepth := 6) [go_sem, *]; done)), (by first | exact mv_cell hM (by first | (dsimp only; omega) | (simp; omega)) hOld.2.2.2.2.1 | exact cell_later hM hOld.2.2.2.2.1 | exact HT.cb | exact HT.cc | (simp (maxDischargeDepth := 6) [go_sem, *]; done)), (by first | exact mv_cell hM (by first | (dsimp only; omega) | (simp; omega)) hOld.2.2.2.2.2.1 | exact cell_later hM hOld.2.2.2.2.2.1 | exact HT.cb | exact HT.cc | (simp (maxDischargeDepth := 6) [go_sem, *]; done)), (by first | exact mv_cell hM (by first | (dsimp only; omega) | (simp; omega)) hOld.2.2.2.2.2.2 | exact cell_later hM hOld.2.2.2.2.2.2 | exact HT.cb | exact HT.cc | (simp (maxDischargeDepth := 6) [go_sem, *]; done))⟩ (fun hHeld => ?_)
  clear hK K hOld
  try simp only [Act.put, List.setIfInBounds_toArray, List.set_cons_zero, List.set_cons_succ]
  have hR := row_mv (g := w.heap.size + 1 + 1) hM hR (by omega); clear hM
  have hOld := hHeld; clear hHeld
  refine wpAnyH_on (i := 15) (n := 12) (l' := (#[true, true, true, true, true, true, true, true, true, true, true, true, true, true, true, true, true, true, true, true, true, true, true, true, true, false, false, true, true, true, true, true, true, true, true, true, false, true, true, true, true, true, false, true, true, true, true, true, true, true, true, true, false, false, true, true, true, true, true, true, true, true, true, false, true, true, true, true, true, true, true, true, true, false, true, true, true, true, true, false, false, false, false] : Array Bool)) (by kernel_rfl) (by kernel_rfl) (by kernel_rfl) (by simp only [List.getElem?_toArray, List.getElem?_cons_succ, List.getElem?_cons_zero]; rfl) (by rfl) (fun K hK => ?_)
  go_simp
  (go_at_call 34; (with_reducible refine (mvCall (b := b) (w0 := w) (by (repeat (first | with_reducible assumption | with_reducible exact Mv.refl (by assumption) (by assumption) | with_reducible apply Mv.alloc | with_reducible apply Mv.drew | with_reducible apply Mv.drewN | ((with_reducible apply Mv.setCell); rotate_left; (first | (dsimp only; omega) | omega | (simp; omega)); (first | (dsimp only; omega) | omega | (simp; omega))) | ((with_reducible apply Mv.below); rotate_left; (with_reducible assumption)) | ((with_reducible apply Mv.trans); rotate_left; (with_reducible assumption))))) (k1 _ _ hOld.2.2.2.2.1 hOld.2.2.2.2.2.2)).mono ?_); rintro e w1 ⟨rfl, hM, HM⟩)
  (try go_wp2_with (fail))
  refine hK.out _ _ ⟨(by first | exact mv_cell hM (by first | (dsimp only; omega) | (simp; omega)) hOld.1 | exact cell_later hM hOld.1 | exact HT.cb | exact HT.cc | (simp (maxDischargeDepth := 6) [go_sem, *]; done)), (by first | exact mv_cell hM (by first | (dsimp only; omega) | (simp; omega)) hOld.2.1 | exact cell_later hM hOld.2.1 | exact HT.cb | exact HT.cc | (simp (maxDischargeDepth := 6) [go_sem, *]; done)), (by first | exact mv_cell hM (by first | (dsimp only; omega) | (simp; omega)) hOld.2.2.1 | exact cell_later hM hOld.2.2.1 | exact HT.cb | exact HT.cc | (simp (maxDischargeDepth := 6) [go_sem, *]; done)), (by first | exact mv_cell hM (by first | (dsimp only; omega) | (simp; omega)) hOld.2.2.2.1 | exact cell_later hM hOld.2.2.2.1 | exact HT.cb | exact HT.cc | (simp (maxDischargeDepth := 6) [go_sem, *]; done)), (by first | exact mv_cell hM (by first | (dsimp only; omega) | (simp; omega)) hOld.2.2.2.2.1 | exact cell_later hM hOld.2.2.2.2.1 | exact HT.cb | exact HT.cc | (simp (maxDischargeDepth := 6) [go_sem, *]; done)), (by first | exact mv_cell hM (by first | (dsimp only; omega) | (simp; omega)) hOld.2.2.2.2.2.1 | exact cell_later hM hOld.2.2.2.2.2.1 | exact HT.cb | exact HT.cc | (simp (maxDischargeDepth := 6) [go_sem, *]; done)), (by first | exact mv_cell hM (by first | (dsimp only; omega) | (simp; omega)) hOld.2.2.2.2.2.2 | exact cell_later hM hOld.2.2.2.2.2.2 | exact HT.cb | exact HT.cc | (simp (maxDischargeDepth := 6) [go_sem, *]; done))⟩ (fun hHeld => ?_)
  clear hK K hOld
  try simp only [Act.put, List.setIfInBounds_toArray, List.set_cons_zero, List.set_cons_succ]
  have hR := row_mv (g := w.heap.size + 1 + 1) hM hR (by omega); clear hM
  have hOld := hHeld; clear hHeld
  refine wpAnyH_on (i := 25) (n := 11) (l' := (#[true, true, true, true, true, true, true, true, true, true, true, true, true, true, true, true, true, true, true, true, true, true, true, true, true, true, false, true, true, true, true, true, true, true, true, true, false, true, true, true, true, true, false, true, true, true, true, true, true, true, true, true, false, false, true, true, true, true, true, true, true, true, true, false, true, true, true, true, true, true, true, true, true, false, true, true, true, true, true, false, false, false, false] : Array Bool)) (by kernel_rfl) (by kernel_rfl) (by kernel_rfl) (by simp only [List.getElem?_toArray, List.getElem?_cons_succ, List.getElem?_cons_zero]; rfl) (by rfl) (fun K hK => ?_)
  go_simp
  (go_at_call 32; (with_reducible refine (mvCall (b := b) (w0 := w) (by (repeat (first | with_reducible assumption | with_reducible exact Mv.refl (by assumption) (by assumption) | with_reducible apply Mv.alloc | with_reducible apply Mv.drew | with_reducible apply Mv.drewN | ((with_reducible apply Mv.setCell); rotate_left; (first | (dsimp only; omega) | omega | (simp; omega)); (first | (dsimp only; omega) | omega | (simp; omega))) | ((with_reducible apply Mv.below); rotate_left; (with_reducible assumption)) | ((with_reducible apply Mv.trans); rotate_left; (with_reducible assumption))))) (k2 _ _ hOld.2.2.2.2.1 hOld.2.2.2.2.2.2)).mono ?_); rintro e w1 ⟨rfl, hM, HM⟩)
  (try go_wp2_with (fail))
  refine hK.out _ _ ⟨(by first | exact mv_cell hM (by first | (dsimp only; omega) | (simp; omega)) hOld.1 | exact cell_later hM hOld.1 | exact HT.cb | exact HT.cc | (simp (maxDischargeDepth := 6) [go_sem, *]; done)), (by first | exact mv_cell hM (by first | (dsimp only; omega) | (simp; omega)) hOld.2.1 | exact cell_later hM hOld.2.1 | exact HT.cb | exact HT.cc | (simp (maxDischargeDepth := 6) [go_sem, *]; done)), (by first | exact mv_cell hM (by first | (dsimp only; omega) | (simp; omega)) hOld.2.2.1 | exact cell_later hM hOld.2.2.1 | exact HT.cb | exact HT.cc | (simp (maxDischargeDepth := 6) [go_sem, *]; done)), (by first | exact mv_cell hM (by first | (dsimp only; omega) | (simp; omega)) hOld.2.2.2.1 | exact cell_later hM hOld.2.2.2.1 | exact HT.cb | exact HT.cc | (simp (maxDischargeDepth := 6) [go_sem, *]; done)), (by first | exact mv_cell hM (by first | (dsimp only; omega) | (simp; omega)) hOld.2.2.2.2.1 | exact cell_later hM hOld.2.2.2.2.1 | exact HT.cb | exact HT.cc | (simp (maxDischargeDepth := 6) [go_sem, *]; done)), (by first | exact mv_cell hM (by first | (dsimp only; omega) | (simp; omega)) hOld.2.2.2.2.2.1 | exact cell_later hM hOld.2.2.2.2.2.1 | exact HT.cb | exact HT.cc | (simp (maxDischargeDepth := 6) [go_sem, *]; done)), (by first | exact mv_cell hM (by first | (dsimp only; omega) | (simp; omega)) hOld.2.2.2.2.2.2 | exact cell_later hM hOld.2.2.2.2.2.2 | exact HT.cb | exact HT.cc | (simp (maxDischargeDepth := 6) [go_sem, *]; done))⟩ (fun hHeld => ?_)
  clear hK K hOld
  try simp only [Act.put, List.setIfInBounds_toArray, List.set_cons_zero, List.set_cons_succ]
  have hR := row_mv (g := w.heap.size + 1 + 1) hM hR (by omega); clear hM
  refine wpAnyH_sl (n := 10) (l' := (#[true, true, true, true, true, true, true, true, true, true, true, true, true, true, true, true, true, true, true, true, true, true, true, true, true, true, true, true, true, true, true, true, true, true, true, true, false, true, true, true, true, true, false, true, true, true, true, true, true, true, true, true, false, false, true, true, true, true, true, true, true, true, true, false, true, true, true, true, true, true, true, true, true, false, true, true, true, true, true, false, false, false, false] : Array Bool)) [26] [some 39] hSSA (
    LvY.skip <|
    LvY.skip <|
    LvY.skip <|
    LvY.skip <|
    LvY.skip <|
    LvY.skip <|
    LvY.skip <|
    LvY.skip <|
    LvY.skip <|
    LvY.skip <|
    LvY.skip <|
    LvY.skip <|
    LvY.skip <|
    LvY.skip <|
    LvY.skip <|
    LvY.skip <|
    LvY.skip <|
    LvY.skip <|
    LvY.skip <|
    LvY.skip <|
    LvY.skip <|
    LvY.skip <|
    LvY.skip <|
    LvY.skip <|
    LvY.skip <|
    LvY.skip <|
    LvY.take (by rfl) (by intro w hSw; (try dsimp only at hSw); go_simp; try with_reducible rfl) <|
    LvY.skip <|
    LvY.skip <|
    LvY.skip <|
    LvY.skip <|
    LvY.skip <|
    LvY.skip <|
    LvY.skip <|
    LvY.skip <|
    LvY.skip <|
    LvY.skip <|
    LvY.skip <|
    LvY.skip <|
    LvY.skip <|
    LvY.skip <|
    LvY.skip <|
    LvY.skip <|
    LvY.skip <|
    LvY.skip <|
    LvY.skip <|
    LvY.skip <|
    LvY.skip <|
    LvY.skip <|
    LvY.skip <|
    LvY.skip <|
    LvY.skip <|
    LvY.skip <|
    LvY.skip <|
    LvY.skip <|
    LvY.skip <|
    LvY.skip <|
    LvY.skip <|
    LvY.skip <|
    LvY.skip <|
    LvY.skip <|
    LvY.skip <|
    LvY.skip <|
    LvY.skip <|
    LvY.skip <|
    LvY.skip <|
    LvY.skip <|
    LvY.skip <|
    LvY.skip <|
    LvY.skip <|
    LvY.skip <|
    LvY.skip <|
    LvY.skip <|
    LvY.skip <|
    LvY.skip <|
    LvY.skip <|
    LvY.skip <|
    LvY.skip <|
    LvY.skip <|
    LvY.skip <|
    LvY.skip <|
    LvY.skip <|
    LvY.skip <|
    LvY.nil) (by rfl) (by rfl) (by kernel_rfl) (fun _ _ _ _ _ h => h) (by kernel_rfl) (by kernel_rfl) (by kernel_rfl) (by assumption) ?_
  simp only [lvVs, putDs, Act.put, List.setIfInBounds_toArray, List.set_cons_zero, List.set_cons_succ]
  have hOld := hHeld; clear hHeld
  refine wpAnyH_on (i := 36) (n := 9) (l' := (#[true, true, true, true, true, true, true, true, true, true, true, true, true, true, true, true, true, true, true, true, true, true, true, true, true, true, true, true, true, true, true, true, true, true, true, true, true, true, true, true, true, true, false, true, true, true, true, true, true, true, true, true, false, false, true, true, true, true, true, true, true, true, true, false, true, true, true, true, true, true, true, true, true, false, true, true, true, true, true, false, false, false, false] : Array Bool)) (by kernel_rfl) (by kernel_rfl) (by kernel_rfl) (by simp only [List.getElem?_toArray, List.getElem?_cons_succ, List.getElem?_cons_zero]; rfl) (by rfl) (fun K hK => ?_)
  go_simp
  (go_at_call 32; (with_reducible refine (mvCall (b := b) (w0 := w) (by (repeat (first | with_reducible assumption | with_reducible exact Mv.refl (by assumption) (by assumption) | with_reducible apply Mv.alloc | with_reducible apply Mv.drew | with_reducible apply Mv.drewN | ((with_reducible apply Mv.setCell); rotate_left; (first | (dsimp only; omega) | omega | (simp; omega)); (first | (dsimp only; omega) | omega | (simp; omega))) | ((with_reducible apply Mv.below); rotate_left; (with_reducible assumption)) | ((with_reducible apply Mv.trans); rotate_left; (with_reducible assumption))))) (k3 _ _ hOld.2.2.2.2.1 hOld.2.2.2.2.2.2)).mono ?_); rintro e w1 ⟨rfl, hM, HM⟩)
  (try go_wp2_with (fail))
  refine hK.out _ _ ⟨(by first | exact mv_cell hM (by first | (dsimp only; omega) | (simp; omega)) hOld.1 | exact cell_later hM hOld.1 | exact HT.cb | exact HT.cc | (simp (maxDischargeDepth := 6) [go_sem, *]; done)), (by first | exact mv_cell hM (by first | (dsimp only; omega) | (simp; omega)) hOld.2.1 | exact cell_later hM hOld.2.1 | exact HT.cb | exact HT.cc | (simp (maxDischargeDepth := 6) [go_sem, *]; done)), (by first | exact mv_cell hM (by first | (dsimp only; omega) | (simp; omega)) hOld.2.2.1 | exact cell_later hM hOld.2.2.1 | exact HT.cb | exact HT.cc | (simp (maxDischargeDepth := 6) [go_sem, *]; done)), (by first | exact mv_cell hM (by first | (dsimp only; omega) | (simp; omega)) hOld.2.2.2.1 | exact cell_later hM hOld.2.2.2.1 | exact HT.cb | exact HT.cc | (simp (maxDischargeDepth := 6) [go_sem, *]; done)), (by first | exact mv_cell hM (by first | (dsimp only; omega) | (simp; omega)) hOld.2.2.2.2.1 | exact cell_later hM hOld.2.2.2.2.1 | exact HT.cb | exact HT.cc | (simp (maxDischargeDepth := 6) [go_sem, *]; done)), (by first | exact mv_cell hM (by first | (dsimp only; omega) | (simp; omega)) hOld.2.2.2.2.2.1 | exact cell_later hM hOld.2.2.2.2.2.1 | exact HT.cb | exact HT.cc | (simp (maxDischargeDepth := 6) [go_sem, *]; done)), (by first | exact mv_cell hM (by first | (dsimp only; omega) | (simp; omega)) hOld.2.2.2.2.2.2 | exact cell_later hM hOld.2.2.2.2.2.2 | exact HT.cb | exact HT.cc | (simp (maxDischargeDepth := 6) [go_sem, *]; done))⟩ (fun hHeld => ?_)
  clear hK K hOld
  try simp only [Act.put, List.setIfInBounds_toArray, List.set_cons_zero, List.set_cons_succ]
  have hR := row_mv (g := w.heap.size + 1 + 1) hM hR (by omega); clear hM
  have hOld := hHeld; clear hHeld
  refine wpAnyH_on (i := 42) (n := 8) (l' := (#[true, true, true, true, true, true, true, true, true, true, true, true, true, true, true, true, true, true, true, true, true, true, true, true, true, true, true, true, true, true, true, true, true, true, true, true, true, true, true, true, true, true, true, true, true, true, true, true, true, true, true, true, false, false, true, true, true, true, true, true, true, true, true, false, true, true, true, true, true, true, true, true, true, false, true, true, true, true, true, false, false, false, false] : Array Bool)) (by kernel_rfl) (by kernel_rfl) (by kernel_rfl) (by simp only [List.getElem?_toArray, List.getElem?_cons_succ, List.getElem?_cons_zero]; rfl) (by rfl) (fun K hK => ?_)
  go_simp
  (go_at_call 35; (with_reducible refine (mvCall (b := b) (w0 := w) (by (repeat (first | with_reducible assumption | with_reducible exact Mv.refl (by assumption) (by assumption) | with_reducible apply Mv.alloc | with_reducible apply Mv.drew | with_reducible apply Mv.drewN | ((with_reducible apply Mv.setCell); rotate_left; (first | (dsimp only; omega) | omega | (simp; omega)); (first | (dsimp only; omega) | omega | (simp; omega))) | ((with_reducible apply Mv.below); rotate_left; (with_reducible assumption)) | ((with_reducible apply Mv.trans); rotate_left; (with_reducible assumption))))) (k4 _ _ hOld.2.2.2.2.2.1 hOld.2.2.2.2.1 hOld.2.2.2.2.2.2)).mono ?_); rintro e w1 ⟨rfl, hM, HM⟩)
  (try go_wp2_with (fail))
  refine hK.out _ _ ⟨(by first | exact mv_cell hM (by first | (dsimp only; omega) | (simp; omega)) hOld.1 | exact cell_later hM hOld.1 | exact HT.cb | exact HT.cc | (simp (maxDischargeDepth := 6) [go_sem, *]; done)), (by first | exact mv_cell hM (by first | (dsimp only; omega) | (simp; omega)) hOld.2.1 | exact cell_later hM hOld.2.1 | exact HT.cb | exact HT.cc | (simp (maxDischargeDepth := 6) [go_sem, *]; done)), (by first | exact mv_cell hM (by first | (dsimp only; omega) | (simp; omega)) hOld.2.2.1 | exact cell_later hM hOld.2.2.1 | exact HT.cb | exact HT.cc | (simp (maxDischargeDepth := 6) [go_sem, *]; done)), (by first | exact mv_cell hM (by first | (dsimp only; omega) | (simp; omega)) hOld.2.2.2.1 | exact cell_later hM hOld.2.2.2.1 | exact HT.cb | exact HT.cc | (simp (maxDischargeDepth := 6) [go_sem, *]; done)), (by first | exact mv_cell hM (by first | (dsimp only; omega) | (simp; omega)) hOld.2.2.2.2.1 | exact cell_later hM hOld.2.2.2.2.1 | exact HT.cb | exact HT.cc | (simp (maxDischargeDepth := 6) [go_sem, *]; done)), (by first | exact mv_cell hM (by first | (dsimp only; omega) | (simp; omega)) hOld.2.2.2.2.2.1 | exact cell_later hM hOld.2.2.2.2.2.1 | exact HT.cb | exact HT.cc | (simp (maxDischargeDepth := 6) [go_sem, *]; done)), (by first | exact mv_cell hM (by first | (dsimp only; omega) | (simp; omega)) hOld.2.2.2.2.2.2 | exact cell_later hM hOld.2.2.2.2.2.2 | exact HT.cb | exact HT.cc | (simp (maxDischargeDepth := 6) [go_sem, *]; done))⟩ (fun hHeld => ?_)
  clear hK K hOld
  try simp only [Act.put, List.setIfInBounds_toArray, List.set_cons_zero, List.set_cons_succ]
  have hR := row_mv (g := w.heap.size + 1 + 1) hM hR (by omega); clear hM
  have hOld := hHeld; clear hHeld
  refine wpAnyH_on (i := 52) (n := 7) (l' := (#[true, true, true, true, true, true, true, true, true, true, true, true, true, true, true, true, true, true, true, true, true, true, true, true, true, true, true, true, true, true, true, true, true, true, true, true, true, true, true, true, true, true, true, true, true, true, true, true, true, true, true, true, true, false, true, true, true, true, true, true, true, true, true, false, true, true, true, true, true, true, true, true, true, false, true, true, true, true, true, false, false, false, false] : Array Bool)) (by kernel_rfl) (by kernel_rfl) (by kernel_rfl) (by simp only [List.getElem?_toArray, List.getElem?_cons_succ, List.getElem?_cons_zero]; rfl) (by rfl) (fun K hK => ?_)
  go_simp
  (go_at_call 34; (with_reducible refine (mvCall (b := b) (w0 := w) (by (repeat (first | with_reducible assumption | with_reducible exact Mv.refl (by assumption) (by assumption) | with_reducible apply Mv.alloc | with_reducible apply Mv.drew | with_reducible apply Mv.drewN | ((with_reducible apply Mv.setCell); rotate_left; (first | (dsimp only; omega) | omega | (simp; omega)); (first | (dsimp only; omega) | omega | (simp; omega))) | ((with_reducible apply Mv.below); rotate_left; (with_reducible assumption)) | ((with_reducible apply Mv.trans); rotate_left; (with_reducible assumption))))) (k5 _ _ hOld.2.2.2.2.1 hOld.2.2.2.2.2.2)).mono ?_); rintro e w1 ⟨rfl, hM, HM⟩)
  (try go_wp2_with (fail))
  refine hK.out _ _ ⟨(by first | exact mv_cell hM (by first | (dsimp only; omega) | (simp; omega)) hOld.1 | exact cell_later hM hOld.1 | exact HT.cb | exact HT.cc | (simp (maxDischargeDepth := 6) [go_sem, *]; done)), (by first | exact mv_cell hM (by first | (dsimp only; omega) | (simp; omega)) hOld.2.1 | exact cell_later hM hOld.2.1 | exact HT.cb | exact HT.cc | (simp (maxDischargeDepth := 6) [go_sem, *]; done)), (by first | exact mv_cell hM (by first | (dsimp only; omega) | (simp; omega)) hOld.2.2.1 | exact cell_later hM hOld.2.2.1 | exact HT.cb | exact HT.cc | (simp (maxDischargeDepth := 6) [go_sem, *]; done)), (by first | exact mv_cell hM (by first | (dsimp only; omega) | (simp; omega)) hOld.2.2.2.1 | exact cell_later hM hOld.2.2.2.1 | exact HT.cb | exact HT.cc | (simp (maxDischargeDepth := 6) [go_sem, *]; done)), (by first | exact mv_cell hM (by first | (dsimp only; omega) | (simp; omega)) hOld.2.2.2.2.1 | exact cell_later hM hOld.2.2.2.2.1 | exact HT.cb | exact HT.cc | (simp (maxDischargeDepth := 6) [go_sem, *]; done)), (by first | exact mv_cell hM (by first | (dsimp only; omega) | (simp; omega)) hOld.2.2.2.2.2.1 | exact cell_later hM hOld.2.2.2.2.2.1 | exact HT.cb | exact HT.cc | (simp (maxDischargeDepth := 6) [go_sem, *]; done)), (by first | exact mv_cell hM (by first | (dsimp only; omega) | (simp; omega)) hOld.2.2.2.2.2.2 | exact cell_later hM hOld.2.2.2.2.2.2 | exact HT.cb | exact HT.cc | (simp (maxDischargeDepth := 6) [go_sem, *]; done))⟩ (fun hHeld => ?_)
  clear hK K hOld
  try simp only [Act.put, List.setIfInBounds_toArray, List.set_cons_zero, List.set_cons_succ]
  have hR := row_mv (g := w.heap.size + 1 + 1) hM hR (by omega); clear hM
  refine wpAnyH_sl (n := 6) (l' := (#[true, true, true, true, true, true, true, true, true, true, true, true, true, true, true, true, true, true, true, true, true, true, true, true, true, true, true, true, true, true, true, true, true, true, true, true, true, true, true, true, true, true, true, true, true, true, true, true, true, true, true, true, true, true, true, true, true, true, true, true, true, true, true, false, true, true, true, true, true, true, true, true, true, false, true, true, true, true, true, false, false, false, false] : Array Bool)) [53] [some 66] hSSA (
    LvY.skip <|
    LvY.skip <|
    LvY.skip <|
    LvY.skip <|
    LvY.skip <|
    LvY.skip <|
    LvY.skip <|
    LvY.skip <|
    LvY.skip <|
    LvY.skip <|
    LvY.skip <|
    LvY.skip <|
    LvY.skip <|
    LvY.skip <|
    LvY.skip <|
    LvY.skip <|
    LvY.skip <|
    LvY.skip <|
    LvY.skip <|
    LvY.skip <|
    LvY.skip <|
    LvY.skip <|
    LvY.skip <|
    LvY.skip <|
    LvY.skip <|
    LvY.skip <|
    LvY.skip <|
    LvY.skip <|
    LvY.skip <|
    LvY.skip <|
    LvY.skip <|
    LvY.skip <|
    LvY.skip <|
    LvY.skip <|
    LvY.skip <|
    LvY.skip <|
    LvY.skip <|
    LvY.skip <|
    LvY.skip <|
    LvY.skip <|
    LvY.skip <|
    LvY.skip <|
    LvY.skip <|
    LvY.skip <|
    LvY.skip <|
    LvY.skip <|
    LvY.skip <|
    LvY.skip <|
    LvY.skip <|
    LvY.skip <|
    LvY.skip <|
    LvY.skip <|
    LvY.skip <|
    LvY.take (by rfl) (by intro w hSw; (try dsimp only at hSw); go_simp; try with_reducible rfl) <|
    LvY.skip <|
    LvY.skip <|
    LvY.skip <|
    LvY.skip <|
    LvY.skip <|
    LvY.skip <|
    LvY.skip <|
    LvY.skip <|
    LvY.skip <|
    LvY.skip <|
    LvY.skip <|
    LvY.skip <|
    LvY.skip <|
    LvY.skip <|
    LvY.skip <|
    LvY.skip <|
    LvY.skip <|
    LvY.skip <|
    LvY.skip <|
    LvY.skip <|
    LvY.skip <|
    LvY.skip <|
    LvY.skip <|
    LvY.skip <|
    LvY.skip <|
    LvY.skip <|
    LvY.skip <|
    LvY.skip <|
    LvY.skip <|
    LvY.nil) (by rfl) (by rfl) (by kernel_rfl) (fun _ _ _ _ _ h => h) (by kernel_rfl) (by kernel_rfl) (by kernel_rfl) (by assumption) ?_
  simp only [lvVs, putDs, Act.put, List.setIfInBounds_toArray, List.set_cons_zero, List.set_cons_succ]
  have hOld := hHeld; clear hHeld
  refine wpAnyH_on (i := 63) (n := 5) (l' := (#[true, true, true, true, true, true, true, true, true, true, true, true, true, true, true, true, true, true, true, true, true, true, true, true, true, true, true, true, true, true, true, true, true, true, true, true, true, true, true, true, true, true, true, true, true, true, true, true, true, true, true, true, true, true, true, true, true, true, true, true, true, true, true, true, true, true, true, true, true, true, true, true, true, false, true, true, true, true, true, false, false, false, false] : Array Bool)) (by kernel_rfl) (by kernel_rfl) (by kernel_rfl) (by simp only [List.getElem?_toArray, List.getElem?_cons_succ, List.getElem?_cons_zero]; rfl) (by rfl) (fun K hK => ?_)
  go_simp
  (go_at_call 34; (with_reducible refine (mvCall (b := b) (w0 := w) (by (repeat (first | with_reducible assumption | with_reducible exact Mv.refl (by assumption) (by assumption) | with_reducible apply Mv.alloc | with_reducible apply Mv.drew | with_reducible apply Mv.drewN | ((with_reducible apply Mv.setCell); rotate_left; (first | (dsimp only; omega) | omega | (simp; omega)); (first | (dsimp only; omega) | omega | (simp; omega))) | ((with_reducible apply Mv.below); rotate_left; (with_reducible assumption)) | ((with_reducible apply Mv.trans); rotate_left; (with_reducible assumption))))) (k6 _ _ hOld.2.2.2.2.1 hOld.2.2.2.2.2.2)).mono ?_); rintro e w1 ⟨rfl, hM, HM⟩)
  (try go_wp2_with (fail))
  refine hK.out _ _ ⟨(by first | exact mv_cell hM (by first | (dsimp only; omega) | (simp; omega)) hOld.1 | exact cell_later hM hOld.1 | exact HT.cb | exact HT.cc | (simp (maxDischargeDepth := 6) [go_sem, *]; done)), (by first | exact mv_cell hM (by first | (dsimp only; omega) | (simp; omega)) hOld.2.1 | exact cell_later hM hOld.2.1 | exact HT.cb | exact HT.cc | (simp (maxDischargeDepth := 6) [go_sem, *]; done)), (by first | exact mv_cell hM (by first | (dsimp only; omega) | (simp; omega)) hOld.2.2.1 | exact cell_later hM hOld.2.2.1 | exact HT.cb | exact HT.cc | (simp (maxDischargeDepth := 6) [go_sem, *]; done)), (by first | exact mv_cell hM (by first | (dsimp only; omega) | (simp; omega)) hOld.2.2.2.1 | exact cell_later hM hOld.2.2.2.1 | exact HT.cb | exact HT.cc | (simp (maxDischargeDepth := 6) [go_sem, *]; done)), (by first | exact mv_cell hM (by first | (dsimp only; omega) | (simp; omega)) hOld.2.2.2.2.1 | exact cell_later hM hOld.2.2.2.2.1 | exact HT.cb | exact HT.cc | (simp (maxDischargeDepth := 6) [go_sem, *]; done)), (by first | exact mv_cell hM (by first | (dsimp only; omega) | (simp; omega)) hOld.2.2.2.2.2.1 | exact cell_later hM hOld.2.2.2.2.2.1 | exact HT.cb | exact HT.cc | (simp (maxDischargeDepth := 6) [go_sem, *]; done)), (by first | exact mv_cell hM (by first | (dsimp only; omega) | (simp; omega)) hOld.2.2.2.2.2.2 | exact cell_later hM hOld.2.2.2.2.2.2 | exact HT.cb | exact HT.cc | (simp (maxDischargeDepth := 6) [go_sem, *]; done))⟩ (fun hHeld => ?_)
  clear hK K hOld
  try simp only [Act.put, List.setIfInBounds_toArray, List.set_cons_zero, List.set_cons_succ]
  have hR := row_mv (g := w.heap.size + 1 + 1) hM hR (by omega); clear hM
  have hOld := hHeld; clear hHeld
  refine wpAnyH_on (i := 73) (n := 4) (l' := (#[true, true, true, true, true, true, true, true, true, true, true, true, true, true, true, true, true, true, true, true, true, true, true, true, true, true, true, true, true, true, true, true, true, true, true, true, true, true, true, true, true, true, true, true, true, true, true, true, true, true, true, true, true, true, true, true, true, true, true, true, true, true, true, true, true, true, true, true, true, true, true, true, true, true, true, true, true, true, true, false, false, false, false] : Array Bool)) (by kernel_rfl) (by kernel_rfl) (by kernel_rfl) (by simp only [List.getElem?_toArray, List.getElem?_cons_succ, List.getElem?_cons_zero]; rfl) (by rfl) (fun K hK => ?_)
  go_simp
  (go_at_call 32; (with_reducible refine (mvCall (b := b) (w0 := w) (by (repeat (first | with_reducible assumption | with_reducible exact Mv.refl (by assumption) (by assumption) | with_reducible apply Mv.alloc | with_reducible apply Mv.drew | with_reducible apply Mv.drewN | ((with_reducible apply Mv.setCell); rotate_left; (first | (dsimp only; omega) | omega | (simp; omega)); (first | (dsimp only; omega) | omega | (simp; omega))) | ((with_reducible apply Mv.below); rotate_left; (with_reducible assumption)) | ((with_reducible apply Mv.trans); rotate_left; (with_reducible assumption))))) (k7 _ _ hOld.2.2.2.2.1 hOld.2.2.2.2.2.2)).mono ?_); rintro e w1 ⟨rfl, hM, HM⟩)
  (try go_wp2_with (fail))
  refine hK.out _ _ ⟨(by first | exact mv_cell hM (by first | (dsimp only; omega) | (simp; omega)) hOld.1 | exact cell_later hM hOld.1 | exact HT.cb | exact HT.cc | (simp (maxDischargeDepth := 6) [go_sem, *]; done)), (by first | exact mv_cell hM (by first | (dsimp only; omega) | (simp; omega)) hOld.2.1 | exact cell_later hM hOld.2.1 | exact HT.cb | exact HT.cc | (simp (maxDischargeDepth := 6) [go_sem, *]; done)), (by first | exact mv_cell hM (by first | (dsimp only; omega) | (simp; omega)) hOld.2.2.1 | exact cell_later hM hOld.2.2.1 | exact HT.cb | exact HT.cc | (simp (maxDischargeDepth := 6) [go_sem, *]; done)), (by first | exact mv_cell hM (by first | (dsimp only; omega) | (simp; omega)) hOld.2.2.2.1 | exact cell_later hM hOld.2.2.2.1 | exact HT.cb | exact HT.cc | (simp (maxDischargeDepth := 6) [go_sem, *]; done)), (by first | exact mv_cell hM (by first | (dsimp only; omega) | (simp; omega)) hOld.2.2.2.2.1 | exact cell_later hM hOld.2.2.2.2.1 | exact HT.cb | exact HT.cc | (simp (maxDischargeDepth := 6) [go_sem, *]; done)), (by first | exact mv_cell hM (by first | (dsimp only; omega) | (simp; omega)) hOld.2.2.2.2.2.1 | exact cell_later hM hOld.2.2.2.2.2.1 | exact HT.cb | exact HT.cc | (simp (maxDischargeDepth := 6) [go_sem, *]; done)), (by first | exact mv_cell hM (by first | (dsimp only; omega) | (simp; omega)) hOld.2.2.2.2.2.2 | exact cell_later hM hOld.2.2.2.2.2.2 | exact HT.cb | exact HT.cc | (simp (maxDischargeDepth := 6) [go_sem, *]; done))⟩ (fun hHeld => ?_)
  clear hK K hOld
  try simp only [Act.put, List.setIfInBounds_toArray, List.set_cons_zero, List.set_cons_succ]
  have hR := row_mv (g := w.heap.size + 1 + 1) hM hR (by omega); clear hM
  have hOld := hHeld; clear hHeld
  refine wpAnyH_on (i := 79) (n := 3) (l' := (#[true, true, true, true, true, true, true, true, true, true, true, true, true, true, true, true, true, true, true, true, true, true, true, true, true, true, true, true, true, true, true, true, true, true, true, true, true, true, true, true, true, true, true, true, true, true, true, true, true, true, true, true, true, true, true, true, true, true, true, true, true, true, true, true, true, true, true, true, true, true, true, true, true, true, true, true, true, true, true, true, false, false, false] : Array Bool)) (by kernel_rfl) (by kernel_rfl) (by kernel_rfl) (by simp only [List.getElem?_toArray, List.getElem?_cons_succ, List.getElem?_cons_zero]; rfl) (by rfl) (fun K hK => ?_)
  go_simp
  (go_at_call 35; (with_reducible refine (mvCall (b := b) (w0 := w) (by (repeat (first | with_reducible assumption | with_reducible exact Mv.refl (by assumption) (by assumption) | with_reducible apply Mv.alloc | with_reducible apply Mv.drew | with_reducible apply Mv.drewN | ((with_reducible apply Mv.setCell); rotate_left; (first | (dsimp only; omega) | omega | (simp; omega)); (first | (dsimp only; omega) | omega | (simp; omega))) | ((with_reducible apply Mv.below); rotate_left; (with_reducible assumption)) | ((with_reducible apply Mv.trans); rotate_left; (with_reducible assumption))))) (k8 _ _ hOld.2.2.2.2.2.1 hOld.2.2.2.2.1 hOld.2.2.2.2.2.2)).mono ?_); rintro e w1 ⟨rfl, hM, HM⟩)
  (try go_wp2_with (fail))
  refine hK.out _ _ ⟨(by first | exact mv_cell hM (by first | (dsimp only; omega) | (simp; omega)) hOld.1 | exact cell_later hM hOld.1 | exact HT.cb | exact HT.cc | (simp (maxDischargeDepth := 6) [go_sem, *]; done)), (by first | exact mv_cell hM (by first | (dsimp only; omega) | (simp; omega)) hOld.2.1 | exact cell_later hM hOld.2.1 | exact HT.cb | exact HT.cc | (simp (maxDischargeDepth := 6) [go_sem, *]; done)), (by first | exact mv_cell hM (by first | (dsimp only; omega) | (simp; omega)) hOld.2.2.1 | exact cell_later hM hOld.2.2.1 | exact HT.cb | exact HT.cc | (simp (maxDischargeDepth := 6) [go_sem, *]; done)), (by first | exact mv_cell hM (by first | (dsimp only; omega) | (simp; omega)) hOld.2.2.2.1 | exact cell_later hM hOld.2.2.2.1 | exact HT.cb | exact HT.cc | (simp (maxDischargeDepth := 6) [go_sem, *]; done)), (by first | exact mv_cell hM (by first | (dsimp only; omega) | (simp; omega)) hOld.2.2.2.2.1 | exact cell_later hM hOld.2.2.2.2.1 | exact HT.cb | exact HT.cc | (simp (maxDischargeDepth := 6) [go_sem, *]; done)), (by first | exact mv_cell hM (by first | (dsimp only; omega) | (simp; omega)) hOld.2.2.2.2.2.1 | exact cell_later hM hOld.2.2.2.2.2.1 | exact HT.cb | exact HT.cc | (simp (maxDischargeDepth := 6) [go_sem, *]; done)), (by first | exact mv_cell hM (by first | (dsimp only; omega) | (simp; omega)) hOld.2.2.2.2.2.2 | exact cell_later hM hOld.2.2.2.2.2.2 | exact HT.cb | exact HT.cc | (simp (maxDischargeDepth := 6) [go_sem, *]; done))⟩ (fun hHeld => ?_)
  clear hK K hOld
  try simp only [Act.put, List.setIfInBounds_toArray, List.set_cons_zero, List.set_cons_succ]
  have hR := row_mv (g := w.heap.size + 1 + 1) hM hR (by omega); clear hM
  refine wpAnyH_sl (n := 2) (l' := (#[true, true, true, true, true, true, true, true, true, true, true, true, true, true, true, true, true, true, true, true, true, true, true, true, true, true, true, true, true, true, true, true, true, true, true, true, true, true, true, true, true, true, true, true, true, true, true, true, true, true, true, true, true, true, true, true, true, true, true, true, true, true, true, true, true, true, true, true, true, true, true, true, true, true, true, true, true, true, true, true, true, false, false] : Array Bool)) [80] [some 93] hSSA (
    LvY.skip <|
    LvY.skip <|
    LvY.skip <|
    LvY.skip <|
    LvY.skip <|
    LvY.skip <|
    LvY.skip <|
    LvY.skip <|
    LvY.skip <|
    LvY.skip <|
    LvY.skip <|
    LvY.skip <|
    LvY.skip <|
    LvY.skip <|
    LvY.skip <|
    LvY.skip <|
    LvY.skip <|
    LvY.skip <|
    LvY.skip <|
    LvY.skip <|
    LvY.skip <|
    LvY.skip <|
    LvY.skip <|
    LvY.skip <|
    LvY.skip <|
    LvY.skip <|
    LvY.skip <|
    LvY.skip <|
    LvY.skip <|
    LvY.skip <|
    LvY.skip <|
    LvY.skip <|
    LvY.skip <|
    LvY.skip <|
    LvY.skip <|
    LvY.skip <|
    LvY.skip <|
    LvY.skip <|
    LvY.skip <|
    LvY.skip <|
    LvY.skip <|
    LvY.skip <|
    LvY.skip <|
    LvY.skip <|
    LvY.skip <|
    LvY.skip <|
    LvY.skip <|
    LvY.skip <|
    LvY.skip <|
    LvY.skip <|
    LvY.skip <|
    LvY.skip <|
    LvY.skip <|
    LvY.skip <|
    LvY.skip <|
    LvY.skip <|
    LvY.skip <|
    LvY.skip <|
    LvY.skip <|
    LvY.skip <|
    LvY.skip <|
    LvY.skip <|
    LvY.skip <|
    LvY.skip <|
    LvY.skip <|
    LvY.skip <|
    LvY.skip <|
    LvY.skip <|
    LvY.skip <|
    LvY.skip <|
    LvY.skip <|
    LvY.skip <|
    LvY.skip <|
    LvY.skip <|
    LvY.skip <|
    LvY.skip <|
    LvY.skip <|
    LvY.skip <|
    LvY.skip <|
    LvY.skip <|
    LvY.take (by rfl) (by intro w hSw; (try dsimp only at hSw); go_simp; try with_reducible rfl) <|
    LvY.skip <|
    LvY.skip <|
    LvY.nil) (by rfl) (by rfl) (by kernel_rfl) (fun _ _ _ _ _ h => h) (by kernel_rfl) (by kernel_rfl) (by kernel_rfl) (by assumption) ?_
  simp only [lvVs, putDs, Act.put, List.setIfInBounds_toArray, List.set_cons_zero, List.set_cons_succ]
  refine wpAnyH_sl (n := 1) (l' := (#[true, true, true, true, true, true, true, true, true, true, true, true, true, true, true, true, true, true, true, true, true, true, true, true, true, true, true, true, true, true, true, true, true, true, true, true, true, true, true, true, true, true, true, true, true, true, true, true, true, true, true, true, true, true, true, true, true, true, true, true, true, true, true, true, true, true, true, true, true, true, true, true, true, true, true, true, true, true, true, true, true, true, false] : Array Bool)) [81] [some 94] hSSA (
    LvY.skip <|
    LvY.skip <|
    LvY.skip <|
    LvY.skip <|
    LvY.skip <|
    LvY.skip <|
    LvY.skip <|
    LvY.skip <|
    LvY.skip <|
    LvY.skip <|
    LvY.skip <|
    LvY.skip <|
    LvY.skip <|
    LvY.skip <|
    LvY.skip <|
    LvY.skip <|
    LvY.skip <|
    LvY.skip <|
    LvY.skip <|
    LvY.skip <|
    LvY.skip <|
    LvY.skip <|
    LvY.skip <|
    LvY.skip <|
    LvY.skip <|
    LvY.skip <|
    LvY.skip <|
    LvY.skip <|
    LvY.skip <|
    LvY.skip <|
    LvY.skip <|
    LvY.skip <|
    LvY.skip <|
    LvY.skip <|
    LvY.skip <|
    LvY.skip <|
    LvY.skip <|
    LvY.skip <|
    LvY.skip <|
    LvY.skip <|
    LvY.skip <|
    LvY.skip <|
    LvY.skip <|
    LvY.skip <|
    LvY.skip <|
    LvY.skip <|
    LvY.skip <|
    LvY.skip <|
    LvY.skip <|
    LvY.skip <|
    LvY.skip <|
    LvY.skip <|
    LvY.skip <|
    LvY.skip <|
    LvY.skip <|
    LvY.skip <|
    LvY.skip <|
    LvY.skip <|
    LvY.skip <|
    LvY.skip <|
    LvY.skip <|
    LvY.skip <|
    LvY.skip <|
    LvY.skip <|
    LvY.skip <|
    LvY.skip <|
    LvY.skip <|
    LvY.skip <|
    LvY.skip <|
    LvY.skip <|
    LvY.skip <|
    LvY.skip <|
    LvY.skip <|
    LvY.skip <|
    LvY.skip <|
    LvY.skip <|
    LvY.skip <|
    LvY.skip <|
    LvY.skip <|
    LvY.skip <|
    LvY.skip <|
    LvY.take (by rfl) (by intro w hSw; (try dsimp only at hSw); go_simp; try with_reducible rfl) <|
    LvY.skip <|
    LvY.nil) (by rfl) (by rfl) (by kernel_rfl) (fun _ _ _ _ _ h => h) (by kernel_rfl) (by kernel_rfl) (by kernel_rfl) (by assumption) ?_
  simp only [lvVs, putDs, Act.put, List.setIfInBounds_toArray, List.set_cons_zero, List.set_cons_succ]
  have hOld := hHeld; clear hHeld
  refine wpAnyH_on (i := 82) (n := 0) (l' := (#[true, true, true, true, true, true, true, true, true, true, true, true, true, true, true, true, true, true, true, true, true, true, true, true, true, true, true, true, true, true, true, true, true, true, true, true, true, true, true, true, true, true, true, true, true, true, true, true, true, true, true, true, true, true, true, true, true, true, true, true, true, true, true, true, true, true, true, true, true, true, true, true, true, true, true, true, true, true, true, true, true, true, true] : Array Bool)) (by kernel_rfl) (by kernel_rfl) (by kernel_rfl) (by simp only [List.getElem?_toArray, List.getElem?_cons_succ, List.getElem?_cons_zero]; rfl) (by rfl) (fun K hK => ?_)
  refine wp_store_row 33 _ _ rfl (w.heap.size + 1 + 1) #[.int .i64 v0, .int .i64 v1, .int .i64 v2, .int .i64 v3, .int .i64 v4, .int .i64 v5, .int .i64 v6, .int .i64 v7, .int .i64 v8] (by rfl) (by rfl) 33 _ hR (by kernel_rfl) rfl (by simp [Value.oneCell']) ?_
  refine hK.out _ _ ⟨cell_row hOld.1 (by dsimp only; omega), cell_row hOld.2.1 (by dsimp only; omega), cell_row hOld.2.2.1 (by dsimp only; omega), cell_row hOld.2.2.2.1 (by dsimp only; omega), cell_row hOld.2.2.2.2.1 (by dsimp only; omega), cell_row hOld.2.2.2.2.2.1 (by dsimp only; omega), cell_row hOld.2.2.2.2.2.2 (by dsimp only; omega)⟩ (fun hHeld => ?_)
  clear hK K hOld
  try simp only [Act.put, List.setIfInBounds_toArray, List.set_cons_zero, List.set_cons_succ]
  refine wpAnyH_done (by kernel_rfl) ?_ _
  (try refine NoPanic.normal ?_)
  (try clear q0); (try clear q1); (try clear q2); (try clear q3); (try clear q4); (try clear q5); (try clear q6); obtain ⟨q0, q1, q2, q3, q4, q5, q6⟩ := hHeld
  have hR := row_put #[.int .i64 v0, .int .i64 v1, .int .i64 v2, .int .i64 v3, .int .i64 v4, .int .i64 v5, .int .i64 v6, .int .i64 v7, .int .i64 v8] hR
  go_wp2
  refine bodyPost_ret (results_cell_row rfl _ _ (w.heap.size + 1 + 1) 33 #[.int .i64 v0, .int .i64 v1, .int .i64 v2, .int .i64 v3, .int .i64 v4, .int .i64 v5, .int .i64 v6, .int .i64 v7, .int .i64 v8] (0, 0) _ (by rfl) hR Try.underlying33 rfl (by kernel_rfl)) rfl ⟨rfl, ?_⟩
  exact HM.row (by omega) (by omega) _
end Go.Proofs.Ytjpkkpflamkjkaa
