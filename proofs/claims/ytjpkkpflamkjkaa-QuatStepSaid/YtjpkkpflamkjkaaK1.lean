/- The contract of quat.Mul. -/
import Derived.Test.YtjpkkpflamkjkaaK0
import Derived.Test.YtjpkkpflamkjkaaW5
import Derived.Test.YtjpkkpflamkjkaaW7
set_option linter.unusedSimpArgs false
set_option linter.unusedVariables false
namespace Go.Proofs.Ytjpkkpflamkjkaa
open Go.RowKit
set_option maxRecDepth 100000 in
set_option maxHeartbeats 16000000 in
theorem cQMul (p0 p1 p2 p3 q0 q1 q2 q3 : Int) (b : Nat) (o : Bool) (w : World) (p0_0 : -9223372036854775808 ≤ p0) (p0_1 : p0 ≤ 9223372036854775807) (p1_0 : -9223372036854775808 ≤ p1) (p1_1 : p1 ≤ 9223372036854775807) (p2_0 : -9223372036854775808 ≤ p2) (p2_1 : p2 ≤ 9223372036854775807) (p3_0 : -9223372036854775808 ≤ p3) (p3_1 : p3 ≤ 9223372036854775807) (q0_0 : -9223372036854775808 ≤ q0) (q0_1 : q0 ≤ 9223372036854775807) (q1_0 : -9223372036854775808 ≤ q1) (q1_1 : q1 ≤ 9223372036854775807) (q2_0 : -9223372036854775808 ≤ q2) (q2_1 : q2 ≤ 9223372036854775807) (q3_0 : -9223372036854775808 ≤ q3) (q3_1 : q3 ≤ 9223372036854775807) (hc : w.cell? ⟨b, 0, none⟩ = some (.bool o)) (hf : w.frozen? ⟨b, 0, none⟩ = false) :
    Calls Try.prog 16 #[.pointer (some ⟨b, 0, none⟩), .agg #[.int .i64 p0, .int .i64 p1, .int .i64 p2, .int .i64 p3], .agg #[.int .i64 q0, .int .i64 q1, .int .i64 q2, .int .i64 q3]] w fun e w' => e = .returned (.agg #[.int .i64 (qmW p0 p1 p2 p3 q0 q1 q2 q3), .int .i64 (qmX p0 p1 p2 p3 q0 q1 q2 q3), .int .i64 (qmY p0 p1 p2 p3 q0 q1 q2 q3), .int .i64 (qmZ p0 p1 p2 p3 q0 q1 q2 q3)]) ∧ Mv b (o || !(qkW p0 p1 p2 p3 q0 q1 q2 q3 && qkX p0 p1 p2 p3 q0 q1 q2 q3 && qkY p0 p1 p2 p3 q0 q1 q2 q3 && qkZ p0 p1 p2 p3 q0 q1 q2 q3)) w w' := by
  have hb := lt_of_cell hc
  have HM := Mv.refl hc hf
  clear hc hf
  have kk0 := fun gt O W => cSum p0 q0 p1 q1 p2 q2 p3 q3 false true true true gt b O W p0_0 p0_1 q0_0 q0_1 p1_0 p1_1 q1_0 q1_1 p2_0 p2_1 q2_0 q2_1 p3_0 p3_1 q3_0 q3_1
  have kk1 := fun gt O W => cSum p0 q1 p1 q0 p2 q3 p3 q2 false false false true gt b O W p0_0 p0_1 q1_0 q1_1 p1_0 p1_1 q0_0 q0_1 p2_0 p2_1 q3_0 q3_1 p3_0 p3_1 q2_0 q2_1
  have kk2 := fun gt O W => cSum p0 q2 p1 q3 p2 q0 p3 q1 false true false false gt b O W p0_0 p0_1 q2_0 q2_1 p1_0 p1_1 q3_0 q3_1 p2_0 p2_1 q0_0 q0_1 p3_0 p3_1 q1_0 q1_1
  have kk3 := fun gt O W => cSum p0 q3 p1 q2 p2 q1 p3 q0 false false true false gt b O W p0_0 p0_1 q3_0 q3_1 p1_0 p1_1 q2_0 q2_1 p2_0 p2_1 q1_0 q1_1 p3_0 p3_1 q0_0 q0_1
  unfold qmW qkW
  unfold qmX qkX
  unfold qmY qkY
  unfold qmZ qkZ
  generalize s4 (ml p0 q0) (ml p1 q1) (ml p2 q2) (ml p3 q3) true true true = vv0 at *
  generalize ok4 (ml p0 q0) (ml p1 q1) (ml p2 q2) (ml p3 q3) true true true = hh0 at *
  generalize s4 (ml p0 q1) (ml p1 q0) (ml p2 q3) (ml p3 q2) false false true = vv1 at *
  generalize ok4 (ml p0 q1) (ml p1 q0) (ml p2 q3) (ml p3 q2) false false true = hh1 at *
  generalize s4 (ml p0 q2) (ml p1 q3) (ml p2 q0) (ml p3 q1) true false false = vv2 at *
  generalize ok4 (ml p0 q2) (ml p1 q3) (ml p2 q0) (ml p3 q1) true false false = hh2 at *
  generalize s4 (ml p0 q3) (ml p1 q2) (ml p2 q1) (ml p3 q0) false true false = vv3 at *
  generalize ok4 (ml p0 q3) (ml p1 q2) (ml p2 q1) (ml p3 q0) false true false = hh3 at *
  generalize mlok p0 q0 = f00 at *
  generalize mlok p1 q1 = f11 at *
  generalize mlok p2 q2 = f22 at *
  generalize mlok p3 q3 = f33 at *
  generalize mlok p0 q1 = f01 at *
  generalize mlok p1 q0 = f10 at *
  generalize mlok p2 q3 = f23 at *
  generalize mlok p3 q2 = f32 at *
  generalize mlok p0 q2 = f02 at *
  generalize mlok p1 q3 = f13 at *
  generalize mlok p2 q0 = f20 at *
  generalize mlok p3 q1 = f31 at *
  generalize mlok p0 q3 = f03 at *
  generalize mlok p1 q2 = f12 at *
  generalize mlok p2 q1 = f21 at *
  generalize mlok p3 q0 = f30 at *
  go_enter Try.func16, Try.ntmps16
  go_upto_region 1 with (fail)
  generalize hW : World.alloc _ _ = W
  have P : Bk (w.heap.size) 0 [.int .i64 p0, .int .i64 p1, .int .i64 p2, .int .i64 p3] W := by rw [← hW]; simp [Bk, go_sem]
  have Q : Bk (w.heap.size + 1) 0 [.int .i64 q0, .int .i64 q1, .int .i64 q2, .int .i64 q3] W := by rw [← hW]; simp [Bk, go_sem]
  have R : Bk (w.heap.size + 1 + 1) 0 [.int .i64 0, .int .i64 0, .int .i64 0, .int .i64 0] W := by rw [← hW]; simp [Bk, go_sem]
  have HM : Mv b o w W := by rw [← hW]; (repeat (first | with_reducible assumption | with_reducible exact Mv.refl (by assumption) (by assumption) | with_reducible apply Mv.alloc | with_reducible apply Mv.drew | with_reducible apply Mv.drewN | ((with_reducible apply Mv.setCell); rotate_left; (first | (dsimp only; omega) | omega | (simp; omega)); (first | (dsimp only; omega) | omega | (simp; omega))) | ((with_reducible apply Mv.below); rotate_left; (with_reducible assumption)) | ((with_reducible apply Mv.trans); rotate_left; (with_reducible assumption))))
  have hzz : w.heap.size + 1 + 1 < W.heap.size := by rw [← hW]; simp
  clear hW
  (try simp only [List.cons_append, List.nil_append])
  (try refine wp_region_noPanic ?_)
  refine wp_region_ssa (S := (fun (w' : World) => Bk w.heap.size 0 [.int .i64 p0, .int .i64 p1, .int .i64 p2, .int .i64 p3] w' ∧ Bk (w.heap.size + 1) 0 [.int .i64 q0, .int .i64 q1, .int .i64 q2, .int .i64 q3] w')) (#[none, none, none, none, none, none, none, some 0, some 1, some 2, some 3, some 4, some 5, some 6, some 7, some 8, some 9, some 10, some 11, some 12, some 13, some 14, some 15, some 16, some 17, some 18, some 19, some 20, some 21, some 22, some 23, some 24, some 25, some 26, some 27, some 28, some 29, some 30, some 31, some 32, some 33, some 34, some 35, some 36, some 37, some 38, some 39, some 40, some 41, some 42, some 43, some 44, some 45, some 46, some 47, some 48, some 49, some 50, some 51, some 52, some 53, some 54, some 55, some 56, some 57, some 58, some 59, some 60, some 61, some 62, some 63, some 64, some 65, some 66, some 67, some 68, some 69, some 70, some 71, some 72, some 73, some 74, some 75, some 76, some 77, some 78, some 79, some 80, some 81, some 82, some 83, some 84, some 85, some 86, some 87, some 88, some 89, some 90, some 91, some 92] : Array (Option Nat)) (by kernel_rfl) (by kernel_rfl) (by kernel_rfl) ⟨by (repeat (first | with_reducible assumption | with_reducible apply Bk.drew | with_reducible apply Bk.alloc | with_reducible apply Bk.later (hB := hR) | with_reducible apply Bk.later (hB := hM) | ((with_reducible apply Bk.mv hM); (focus omega)) | ((with_reducible apply Bk.later); rotate_left; (with_reducible assumption)) | ((with_reducible apply Bk.put); rotate_left; (first | (dsimp only; omega))))), by (repeat (first | with_reducible assumption | with_reducible apply Bk.drew | with_reducible apply Bk.alloc | with_reducible apply Bk.later (hB := hR) | with_reducible apply Bk.later (hB := hM) | ((with_reducible apply Bk.mv hM); (focus omega)) | ((with_reducible apply Bk.later); rotate_left; (with_reducible assumption)) | ((with_reducible apply Bk.put); rotate_left; (first | (dsimp only; omega)))))⟩ (fun hSSA hHeld => ?_)
  refine wpAnyH_sl (n := 58) (l' := (#[true, true, false, true, false, false, true, false, true, false, false, true, false, true, false, false, true, false, true, false, false, false, false, true, true, false, true, false, false, true, false, true, false, false, true, false, true, false, false, true, false, true, false, false, false, false, true, true, false, true, false, false, true, false, true, false, false, true, false, true, false, false, true, false, true, false, false, false, false, true, true, false, true, false, false, true, false, true, false, false, true, false, true, false, false, true, false, true, false, false, false, false, false, false] : Array Bool)) [0, 1, 3, 6, 8, 11, 13, 16, 18, 23, 24, 26, 29, 31, 34, 36, 39, 41, 46, 47, 49, 52, 54, 57, 59, 62, 64, 69, 70, 72, 75, 77, 80, 82, 85, 87] [some 7, some 8, some 10, some 13, some 15, some 18, some 20, some 23, some 25, some 30, some 31, some 33, some 36, some 38, some 41, some 43, some 46, some 48, some 53, some 54, some 56, some 59, some 61, some 64, some 66, some 69, some 71, some 76, some 77, some 79, some 82, some 84, some 87, some 89, some 92, some 94] hSSA (
    LvY.take (by rfl) (by intro w hSw; (try dsimp only at hSw); (try simp only [Bk] at hSw); go_simp; try with_reducible rfl) <|
    LvY.take (by rfl) (by intro w hSw; (try dsimp only at hSw); (try simp only [Bk] at hSw); go_simp; try with_reducible rfl) <|
    LvY.skip <|
    LvY.take (by rfl) (by intro w hSw; (try dsimp only at hSw); (try simp only [Bk] at hSw); go_simp; try with_reducible rfl) <|
    LvY.skip <|
    LvY.skip <|
    LvY.take (by rfl) (by intro w hSw; (try dsimp only at hSw); (try simp only [Bk] at hSw); go_simp; try with_reducible rfl) <|
    LvY.skip <|
    LvY.take (by rfl) (by intro w hSw; (try dsimp only at hSw); (try simp only [Bk] at hSw); go_simp; try with_reducible rfl) <|
    LvY.skip <|
    LvY.skip <|
    LvY.take (by rfl) (by intro w hSw; (try dsimp only at hSw); (try simp only [Bk] at hSw); go_simp; try with_reducible rfl) <|
    LvY.skip <|
    LvY.take (by rfl) (by intro w hSw; (try dsimp only at hSw); (try simp only [Bk] at hSw); go_simp; try with_reducible rfl) <|
    LvY.skip <|
    LvY.skip <|
    LvY.take (by rfl) (by intro w hSw; (try dsimp only at hSw); (try simp only [Bk] at hSw); go_simp; try with_reducible rfl) <|
    LvY.skip <|
    LvY.take (by rfl) (by intro w hSw; (try dsimp only at hSw); (try simp only [Bk] at hSw); go_simp; try with_reducible rfl) <|
    LvY.skip <|
    LvY.skip <|
    LvY.skip <|
    LvY.skip <|
    LvY.take (by rfl) (by intro w hSw; (try dsimp only at hSw); (try simp only [Bk] at hSw); go_simp; try with_reducible rfl) <|
    LvY.take (by rfl) (by intro w hSw; (try dsimp only at hSw); (try simp only [Bk] at hSw); go_simp; try with_reducible rfl) <|
    LvY.skip <|
    LvY.take (by rfl) (by intro w hSw; (try dsimp only at hSw); (try simp only [Bk] at hSw); go_simp; try with_reducible rfl) <|
    LvY.skip <|
    LvY.skip <|
    LvY.take (by rfl) (by intro w hSw; (try dsimp only at hSw); (try simp only [Bk] at hSw); go_simp; try with_reducible rfl) <|
    LvY.skip <|
    LvY.take (by rfl) (by intro w hSw; (try dsimp only at hSw); (try simp only [Bk] at hSw); go_simp; try with_reducible rfl) <|
    LvY.skip <|
    LvY.skip <|
    LvY.take (by rfl) (by intro w hSw; (try dsimp only at hSw); (try simp only [Bk] at hSw); go_simp; try with_reducible rfl) <|
    LvY.skip <|
    LvY.take (by rfl) (by intro w hSw; (try dsimp only at hSw); (try simp only [Bk] at hSw); go_simp; try with_reducible rfl) <|
    LvY.skip <|
    LvY.skip <|
    LvY.take (by rfl) (by intro w hSw; (try dsimp only at hSw); (try simp only [Bk] at hSw); go_simp; try with_reducible rfl) <|
    LvY.skip <|
    LvY.take (by rfl) (by intro w hSw; (try dsimp only at hSw); (try simp only [Bk] at hSw); go_simp; try with_reducible rfl) <|
    LvY.skip <|
    LvY.skip <|
    LvY.skip <|
    LvY.skip <|
    LvY.take (by rfl) (by intro w hSw; (try dsimp only at hSw); (try simp only [Bk] at hSw); go_simp; try with_reducible rfl) <|
    LvY.take (by rfl) (by intro w hSw; (try dsimp only at hSw); (try simp only [Bk] at hSw); go_simp; try with_reducible rfl) <|
    LvY.skip <|
    LvY.take (by rfl) (by intro w hSw; (try dsimp only at hSw); (try simp only [Bk] at hSw); go_simp; try with_reducible rfl) <|
    LvY.skip <|
    LvY.skip <|
    LvY.take (by rfl) (by intro w hSw; (try dsimp only at hSw); (try simp only [Bk] at hSw); go_simp; try with_reducible rfl) <|
    LvY.skip <|
    LvY.take (by rfl) (by intro w hSw; (try dsimp only at hSw); (try simp only [Bk] at hSw); go_simp; try with_reducible rfl) <|
    LvY.skip <|
    LvY.skip <|
    LvY.take (by rfl) (by intro w hSw; (try dsimp only at hSw); (try simp only [Bk] at hSw); go_simp; try with_reducible rfl) <|
    LvY.skip <|
    LvY.take (by rfl) (by intro w hSw; (try dsimp only at hSw); (try simp only [Bk] at hSw); go_simp; try with_reducible rfl) <|
    LvY.skip <|
    LvY.skip <|
    LvY.take (by rfl) (by intro w hSw; (try dsimp only at hSw); (try simp only [Bk] at hSw); go_simp; try with_reducible rfl) <|
    LvY.skip <|
    LvY.take (by rfl) (by intro w hSw; (try dsimp only at hSw); (try simp only [Bk] at hSw); go_simp; try with_reducible rfl) <|
    LvY.skip <|
    LvY.skip <|
    LvY.skip <|
    LvY.skip <|
    LvY.take (by rfl) (by intro w hSw; (try dsimp only at hSw); (try simp only [Bk] at hSw); go_simp; try with_reducible rfl) <|
    LvY.take (by rfl) (by intro w hSw; (try dsimp only at hSw); (try simp only [Bk] at hSw); go_simp; try with_reducible rfl) <|
    LvY.skip <|
    LvY.take (by rfl) (by intro w hSw; (try dsimp only at hSw); (try simp only [Bk] at hSw); go_simp; try with_reducible rfl) <|
    LvY.skip <|
    LvY.skip <|
    LvY.take (by rfl) (by intro w hSw; (try dsimp only at hSw); (try simp only [Bk] at hSw); go_simp; try with_reducible rfl) <|
    LvY.skip <|
    LvY.take (by rfl) (by intro w hSw; (try dsimp only at hSw); (try simp only [Bk] at hSw); go_simp; try with_reducible rfl) <|
    LvY.skip <|
    LvY.skip <|
    LvY.take (by rfl) (by intro w hSw; (try dsimp only at hSw); (try simp only [Bk] at hSw); go_simp; try with_reducible rfl) <|
    LvY.skip <|
    LvY.take (by rfl) (by intro w hSw; (try dsimp only at hSw); (try simp only [Bk] at hSw); go_simp; try with_reducible rfl) <|
    LvY.skip <|
    LvY.skip <|
    LvY.take (by rfl) (by intro w hSw; (try dsimp only at hSw); (try simp only [Bk] at hSw); go_simp; try with_reducible rfl) <|
    LvY.skip <|
    LvY.take (by rfl) (by intro w hSw; (try dsimp only at hSw); (try simp only [Bk] at hSw); go_simp; try with_reducible rfl) <|
    LvY.skip <|
    LvY.skip <|
    LvY.skip <|
    LvY.skip <|
    LvY.skip <|
    LvY.skip <|
    LvY.nil) (by rfl) (by rfl) (by kernel_rfl) (fun _ _ _ _ _ h => h) (by kernel_rfl) (by kernel_rfl) (by kernel_rfl) (by assumption) ?_
  simp only [lvVs, putDs, Act.put, List.setIfInBounds_toArray, List.set_cons_zero, List.set_cons_succ]
  refine wpAnyH_sl (n := 26) (l' := (#[true, true, true, true, true, false, true, true, true, true, false, true, true, true, true, false, true, true, true, true, false, false, false, true, true, true, true, true, false, true, true, true, true, false, true, true, true, true, false, true, true, true, true, false, false, false, true, true, true, true, true, false, true, true, true, true, false, true, true, true, true, false, true, true, true, true, false, false, false, true, true, true, true, true, false, true, true, true, true, false, true, true, true, true, false, true, true, true, true, false, false, false, false, false] : Array Bool)) [2, 4, 7, 9, 12, 14, 17, 19, 25, 27, 30, 32, 35, 37, 40, 42, 48, 50, 53, 55, 58, 60, 63, 65, 71, 73, 76, 78, 81, 83, 86, 88] [some 9, some 11, some 14, some 16, some 19, some 21, some 24, some 26, some 32, some 34, some 37, some 39, some 42, some 44, some 47, some 49, some 55, some 57, some 60, some 62, some 65, some 67, some 70, some 72, some 78, some 80, some 83, some 85, some 88, some 90, some 93, some 95] hSSA (
    LvY.skip <|
    LvY.skip <|
    LvY.take (by rfl) (by intro w hSw; (try dsimp only at hSw); (try simp only [Bk] at hSw); go_simp; try with_reducible rfl) <|
    LvY.skip <|
    LvY.take (by rfl) (by intro w hSw; (try dsimp only at hSw); (try simp only [Bk] at hSw); go_simp; try with_reducible rfl) <|
    LvY.skip <|
    LvY.skip <|
    LvY.take (by rfl) (by intro w hSw; (try dsimp only at hSw); (try simp only [Bk] at hSw); go_simp; try with_reducible rfl) <|
    LvY.skip <|
    LvY.take (by rfl) (by intro w hSw; (try dsimp only at hSw); (try simp only [Bk] at hSw); go_simp; try with_reducible rfl) <|
    LvY.skip <|
    LvY.skip <|
    LvY.take (by rfl) (by intro w hSw; (try dsimp only at hSw); (try simp only [Bk] at hSw); go_simp; try with_reducible rfl) <|
    LvY.skip <|
    LvY.take (by rfl) (by intro w hSw; (try dsimp only at hSw); (try simp only [Bk] at hSw); go_simp; try with_reducible rfl) <|
    LvY.skip <|
    LvY.skip <|
    LvY.take (by rfl) (by intro w hSw; (try dsimp only at hSw); (try simp only [Bk] at hSw); go_simp; try with_reducible rfl) <|
    LvY.skip <|
    LvY.take (by rfl) (by intro w hSw; (try dsimp only at hSw); (try simp only [Bk] at hSw); go_simp; try with_reducible rfl) <|
    LvY.skip <|
    LvY.skip <|
    LvY.skip <|
    LvY.skip <|
    LvY.skip <|
    LvY.take (by rfl) (by intro w hSw; (try dsimp only at hSw); (try simp only [Bk] at hSw); go_simp; try with_reducible rfl) <|
    LvY.skip <|
    LvY.take (by rfl) (by intro w hSw; (try dsimp only at hSw); (try simp only [Bk] at hSw); go_simp; try with_reducible rfl) <|
    LvY.skip <|
    LvY.skip <|
    LvY.take (by rfl) (by intro w hSw; (try dsimp only at hSw); (try simp only [Bk] at hSw); go_simp; try with_reducible rfl) <|
    LvY.skip <|
    LvY.take (by rfl) (by intro w hSw; (try dsimp only at hSw); (try simp only [Bk] at hSw); go_simp; try with_reducible rfl) <|
    LvY.skip <|
    LvY.skip <|
    LvY.take (by rfl) (by intro w hSw; (try dsimp only at hSw); (try simp only [Bk] at hSw); go_simp; try with_reducible rfl) <|
    LvY.skip <|
    LvY.take (by rfl) (by intro w hSw; (try dsimp only at hSw); (try simp only [Bk] at hSw); go_simp; try with_reducible rfl) <|
    LvY.skip <|
    LvY.skip <|
    LvY.take (by rfl) (by intro w hSw; (try dsimp only at hSw); (try simp only [Bk] at hSw); go_simp; try with_reducible rfl) <|
    LvY.skip <|
    LvY.take (by rfl) (by intro w hSw; (try dsimp only at hSw); (try simp only [Bk] at hSw); go_simp; try with_reducible rfl) <|
    LvY.skip <|
    LvY.skip <|
    LvY.skip <|
    LvY.skip <|
    LvY.skip <|
    LvY.take (by rfl) (by intro w hSw; (try dsimp only at hSw); (try simp only [Bk] at hSw); go_simp; try with_reducible rfl) <|
    LvY.skip <|
    LvY.take (by rfl) (by intro w hSw; (try dsimp only at hSw); (try simp only [Bk] at hSw); go_simp; try with_reducible rfl) <|
    LvY.skip <|
    LvY.skip <|
    LvY.take (by rfl) (by intro w hSw; (try dsimp only at hSw); (try simp only [Bk] at hSw); go_simp; try with_reducible rfl) <|
    LvY.skip <|
    LvY.take (by rfl) (by intro w hSw; (try dsimp only at hSw); (try simp only [Bk] at hSw); go_simp; try with_reducible rfl) <|
    LvY.skip <|
    LvY.skip <|
    LvY.take (by rfl) (by intro w hSw; (try dsimp only at hSw); (try simp only [Bk] at hSw); go_simp; try with_reducible rfl) <|
    LvY.skip <|
    LvY.take (by rfl) (by intro w hSw; (try dsimp only at hSw); (try simp only [Bk] at hSw); go_simp; try with_reducible rfl) <|
    LvY.skip <|
    LvY.skip <|
    LvY.take (by rfl) (by intro w hSw; (try dsimp only at hSw); (try simp only [Bk] at hSw); go_simp; try with_reducible rfl) <|
    LvY.skip <|
    LvY.take (by rfl) (by intro w hSw; (try dsimp only at hSw); (try simp only [Bk] at hSw); go_simp; try with_reducible rfl) <|
    LvY.skip <|
    LvY.skip <|
    LvY.skip <|
    LvY.skip <|
    LvY.skip <|
    LvY.take (by rfl) (by intro w hSw; (try dsimp only at hSw); (try simp only [Bk] at hSw); go_simp; try with_reducible rfl) <|
    LvY.skip <|
    LvY.take (by rfl) (by intro w hSw; (try dsimp only at hSw); (try simp only [Bk] at hSw); go_simp; try with_reducible rfl) <|
    LvY.skip <|
    LvY.skip <|
    LvY.take (by rfl) (by intro w hSw; (try dsimp only at hSw); (try simp only [Bk] at hSw); go_simp; try with_reducible rfl) <|
    LvY.skip <|
    LvY.take (by rfl) (by intro w hSw; (try dsimp only at hSw); (try simp only [Bk] at hSw); go_simp; try with_reducible rfl) <|
    LvY.skip <|
    LvY.skip <|
    LvY.take (by rfl) (by intro w hSw; (try dsimp only at hSw); (try simp only [Bk] at hSw); go_simp; try with_reducible rfl) <|
    LvY.skip <|
    LvY.take (by rfl) (by intro w hSw; (try dsimp only at hSw); (try simp only [Bk] at hSw); go_simp; try with_reducible rfl) <|
    LvY.skip <|
    LvY.skip <|
    LvY.take (by rfl) (by intro w hSw; (try dsimp only at hSw); (try simp only [Bk] at hSw); go_simp; try with_reducible rfl) <|
    LvY.skip <|
    LvY.take (by rfl) (by intro w hSw; (try dsimp only at hSw); (try simp only [Bk] at hSw); go_simp; try with_reducible rfl) <|
    LvY.skip <|
    LvY.skip <|
    LvY.skip <|
    LvY.skip <|
    LvY.skip <|
    LvY.nil) (by rfl) (by rfl) (by kernel_rfl) (fun _ _ _ _ _ h => h) (by kernel_rfl) (by kernel_rfl) (by kernel_rfl) (by assumption) ?_
  simp only [lvVs, putDs, Act.put, List.setIfInBounds_toArray, List.set_cons_zero, List.set_cons_succ]
  refine wpAnyH_sl (n := 10) (l' := (#[true, true, true, true, true, true, true, true, true, true, true, true, true, true, true, true, true, true, true, true, true, false, false, true, true, true, true, true, true, true, true, true, true, true, true, true, true, true, true, true, true, true, true, true, false, false, true, true, true, true, true, true, true, true, true, true, true, true, true, true, true, true, true, true, true, true, true, false, false, true, true, true, true, true, true, true, true, true, true, true, true, true, true, true, true, true, true, true, true, true, false, false, false, false] : Array Bool)) [5, 10, 15, 20, 28, 33, 38, 43, 51, 56, 61, 66, 74, 79, 84, 89] [some 12, some 17, some 22, some 27, some 35, some 40, some 45, some 50, some 58, some 63, some 68, some 73, some 81, some 86, some 91, some 96] hSSA (
    LvY.skip <|
    LvY.skip <|
    LvY.skip <|
    LvY.skip <|
    LvY.skip <|
    LvY.take (by rfl) (by intro w hSw; (try dsimp only at hSw); (try simp only [Bk] at hSw); go_simp; try with_reducible rfl) <|
    LvY.skip <|
    LvY.skip <|
    LvY.skip <|
    LvY.skip <|
    LvY.take (by rfl) (by intro w hSw; (try dsimp only at hSw); (try simp only [Bk] at hSw); go_simp; try with_reducible rfl) <|
    LvY.skip <|
    LvY.skip <|
    LvY.skip <|
    LvY.skip <|
    LvY.take (by rfl) (by intro w hSw; (try dsimp only at hSw); (try simp only [Bk] at hSw); go_simp; try with_reducible rfl) <|
    LvY.skip <|
    LvY.skip <|
    LvY.skip <|
    LvY.skip <|
    LvY.take (by rfl) (by intro w hSw; (try dsimp only at hSw); (try simp only [Bk] at hSw); go_simp; try with_reducible rfl) <|
    LvY.skip <|
    LvY.skip <|
    LvY.skip <|
    LvY.skip <|
    LvY.skip <|
    LvY.skip <|
    LvY.skip <|
    LvY.take (by rfl) (by intro w hSw; (try dsimp only at hSw); (try simp only [Bk] at hSw); go_simp; try with_reducible rfl) <|
    LvY.skip <|
    LvY.skip <|
    LvY.skip <|
    LvY.skip <|
    LvY.take (by rfl) (by intro w hSw; (try dsimp only at hSw); (try simp only [Bk] at hSw); go_simp; try with_reducible rfl) <|
    LvY.skip <|
    LvY.skip <|
    LvY.skip <|
    LvY.skip <|
    LvY.take (by rfl) (by intro w hSw; (try dsimp only at hSw); (try simp only [Bk] at hSw); go_simp; try with_reducible rfl) <|
    LvY.skip <|
    LvY.skip <|
    LvY.skip <|
    LvY.skip <|
    LvY.take (by rfl) (by intro w hSw; (try dsimp only at hSw); (try simp only [Bk] at hSw); go_simp; try with_reducible rfl) <|
    LvY.skip <|
    LvY.skip <|
    LvY.skip <|
    LvY.skip <|
    LvY.skip <|
    LvY.skip <|
    LvY.skip <|
    LvY.take (by rfl) (by intro w hSw; (try dsimp only at hSw); (try simp only [Bk] at hSw); go_simp; try with_reducible rfl) <|
    LvY.skip <|
    LvY.skip <|
    LvY.skip <|
    LvY.skip <|
    LvY.take (by rfl) (by intro w hSw; (try dsimp only at hSw); (try simp only [Bk] at hSw); go_simp; try with_reducible rfl) <|
    LvY.skip <|
    LvY.skip <|
    LvY.skip <|
    LvY.skip <|
    LvY.take (by rfl) (by intro w hSw; (try dsimp only at hSw); (try simp only [Bk] at hSw); go_simp; try with_reducible rfl) <|
    LvY.skip <|
    LvY.skip <|
    LvY.skip <|
    LvY.skip <|
    LvY.take (by rfl) (by intro w hSw; (try dsimp only at hSw); (try simp only [Bk] at hSw); go_simp; try with_reducible rfl) <|
    LvY.skip <|
    LvY.skip <|
    LvY.skip <|
    LvY.skip <|
    LvY.skip <|
    LvY.skip <|
    LvY.skip <|
    LvY.take (by rfl) (by intro w hSw; (try dsimp only at hSw); (try simp only [Bk] at hSw); go_simp; try with_reducible rfl) <|
    LvY.skip <|
    LvY.skip <|
    LvY.skip <|
    LvY.skip <|
    LvY.take (by rfl) (by intro w hSw; (try dsimp only at hSw); (try simp only [Bk] at hSw); go_simp; try with_reducible rfl) <|
    LvY.skip <|
    LvY.skip <|
    LvY.skip <|
    LvY.skip <|
    LvY.take (by rfl) (by intro w hSw; (try dsimp only at hSw); (try simp only [Bk] at hSw); go_simp; try with_reducible rfl) <|
    LvY.skip <|
    LvY.skip <|
    LvY.skip <|
    LvY.skip <|
    LvY.take (by rfl) (by intro w hSw; (try dsimp only at hSw); (try simp only [Bk] at hSw); go_simp; try with_reducible rfl) <|
    LvY.skip <|
    LvY.skip <|
    LvY.skip <|
    LvY.skip <|
    LvY.nil) (by rfl) (by rfl) (by kernel_rfl) (fun _ _ _ _ _ h => h) (by kernel_rfl) (by kernel_rfl) (by kernel_rfl) (by assumption) ?_
  simp only [lvVs, putDs, Act.put, List.setIfInBounds_toArray, List.set_cons_zero, List.set_cons_succ]
  refine wpAnyH_listed (l' := #[true, true, true, true, true, true, true, true, true, true, true, true, true, true, true, true, true, true, true, true, true, false, false, true, true, true, true, true, true, true, true, true, true, true, true, true, true, true, true, true, true, true, true, true, false, false, true, true, true, true, true, true, true, true, true, true, true, true, true, true, true, true, true, true, true, true, true, false, false, true, true, true, true, true, true, true, true, true, true, true, true, true, true, true, true, true, true, true, true, true, false, false, false, false]) (by kernel_rfl) ?_
  refine wpAnyH_from2 [91] (fun l0 a0 l a w' => ∃ (b0 c0 b1 c1 b2 c2 b3 c3 : Bool) (y0 x0 y1 x1 y2 x2 y3 x3 : Value), l = sets l0 [(21, b0), (22, c0), (44, b1), (45, c1), (67, b2), (68, c2), (90, b3), (91, c3)] ∧ a = puts a0 [(28, y0), (29, x0), (51, y1), (52, x1), (74, y2), (75, x2), (97, y3), (98, x3)] ∧ (c0 = true → b0 = true) ∧ (c1 = true → c0 = true) ∧ (c1 = true → b1 = true) ∧ (c2 = true → c1 = true) ∧ (c2 = true → b2 = true) ∧ (c3 = true → c2 = true) ∧ (c3 = true → b3 = true) ∧ (c0 = true → x0 = .int .i64 vv0) ∧ (c1 = true → x1 = .int .i64 vv1) ∧ (c2 = true → x2 = .int .i64 vv2) ∧ (c3 = true → x3 = .int .i64 vv3) ∧ (b0 = true → ∃ g : Nat, y0 = .slice (some ⟨g, 0, none⟩) 4 4 ∧ Bk g 0 [.int .i64 p0, .int .i64 q0, .bool false, .int .i64 p1, .int .i64 q1, .bool true, .int .i64 p2, .int .i64 q2, .bool true, .int .i64 p3, .int .i64 q3, .bool true] w' ∧ (W).heap.size ≤ g) ∧ (b1 = true → ∃ g : Nat, y1 = .slice (some ⟨g, 0, none⟩) 4 4 ∧ Bk g 0 [.int .i64 p0, .int .i64 q1, .bool false, .int .i64 p1, .int .i64 q0, .bool false, .int .i64 p2, .int .i64 q3, .bool false, .int .i64 p3, .int .i64 q2, .bool true] w' ∧ (W).heap.size ≤ g) ∧ (b2 = true → ∃ g : Nat, y2 = .slice (some ⟨g, 0, none⟩) 4 4 ∧ Bk g 0 [.int .i64 p0, .int .i64 q2, .bool false, .int .i64 p1, .int .i64 q3, .bool true, .int .i64 p2, .int .i64 q0, .bool false, .int .i64 p3, .int .i64 q1, .bool false] w' ∧ (W).heap.size ≤ g) ∧ (b3 = true → ∃ g : Nat, y3 = .slice (some ⟨g, 0, none⟩) 4 4 ∧ Bk g 0 [.int .i64 p0, .int .i64 q3, .bool false, .int .i64 p1, .int .i64 q2, .bool false, .int .i64 p2, .int .i64 q1, .bool true, .int .i64 p3, .int .i64 q0, .bool false] w' ∧ (W).heap.size ≤ g) ∧ (b0 = true → b1 = true → y0 ≠ y1) ∧ (b0 = true → b2 = true → y0 ≠ y2) ∧ (b0 = true → b3 = true → y0 ≠ y3) ∧ (b1 = true → b2 = true → y1 ≠ y2) ∧ (b1 = true → b3 = true → y1 ≠ y3) ∧ (b2 = true → b3 = true → y2 ≠ y3) ∧ Bk w.heap.size 0 [.int .i64 p0, .int .i64 p1, .int .i64 p2, .int .i64 p3] w' ∧ Bk (w.heap.size + 1) 0 [.int .i64 q0, .int .i64 q1, .int .i64 q2, .int .i64 q3] w' ∧ Bk (w.heap.size + 1 + 1) 0 [.int .i64 0, .int .i64 0, .int .i64 0, .int .i64 0] w' ∧ (W).heap.size ≤ w'.heap.size ∧ Mv b ((o) || (c0 && !(f00 && f11 && f22 && f33 && hh0)) || (c1 && !(f01 && f10 && f23 && f32 && hh1)) || (c2 && !(f02 && f13 && f20 && f31 && hh2)) || (c3 && !(f03 && f12 && f21 && f30 && hh3))) w w') (by kernel_rfl) ?_ ?_ ?_ ?_ ?_ ?_
  rotate_left 4
  · exact of_decide_eq_true (by kernel_rfl)
  · exact ⟨false, false, false, false, false, false, false, false, undef, undef, undef, undef, undef, undef, undef, undef, by first | (simp only [sets, List.setIfInBounds_toArray, List.set_cons_zero, List.set_cons_succ]; done) | rfl, by first | (simp only [puts, Act.put, List.setIfInBounds_toArray, List.set_cons_zero, List.set_cons_succ]; done) | rfl, (fun h => by cases h), (fun h => by cases h), (fun h => by cases h), (fun h => by cases h), (fun h => by cases h), (fun h => by cases h), (fun h => by cases h), (fun h => by cases h), (fun h => by cases h), (fun h => by cases h), (fun h => by cases h), (fun h => by cases h), (fun h => by cases h), (fun h => by cases h), (fun h => by cases h), (fun h => by cases h), (fun h => by cases h), (fun h => by cases h), (fun h => by cases h), (fun h => by cases h), (fun h => by cases h), by (repeat (first | with_reducible assumption | with_reducible apply Bk.drew | with_reducible apply Bk.alloc | with_reducible apply Bk.later (hB := hR) | with_reducible apply Bk.later (hB := hM) | ((with_reducible apply Bk.mv hM); (focus omega)) | ((with_reducible apply Bk.later); rotate_left; (with_reducible assumption)) | ((with_reducible apply Bk.put); rotate_left; (first | (dsimp only; omega))))), by (repeat (first | with_reducible assumption | with_reducible apply Bk.drew | with_reducible apply Bk.alloc | with_reducible apply Bk.later (hB := hR) | with_reducible apply Bk.later (hB := hM) | ((with_reducible apply Bk.mv hM); (focus omega)) | ((with_reducible apply Bk.later); rotate_left; (with_reducible assumption)) | ((with_reducible apply Bk.put); rotate_left; (first | (dsimp only; omega))))), by (repeat (first | with_reducible assumption | with_reducible apply Bk.drew | with_reducible apply Bk.alloc | with_reducible apply Bk.later (hB := hR) | with_reducible apply Bk.later (hB := hM) | ((with_reducible apply Bk.mv hM); (focus omega)) | ((with_reducible apply Bk.later); rotate_left; (with_reducible assumption)) | ((with_reducible apply Bk.put); rotate_left; (first | (dsimp only; omega))))), by first | exact Nat.le_refl _ | (simp; done), Mv.cast (by (repeat (first | with_reducible assumption | with_reducible exact Mv.refl (by assumption) (by assumption) | with_reducible apply Mv.alloc | with_reducible apply Mv.drew | with_reducible apply Mv.drewN | ((with_reducible apply Mv.setCell); rotate_left; (first | (dsimp only; omega) | omega | (simp; omega)); (first | (dsimp only; omega) | omega | (simp; omega))) | ((with_reducible apply Mv.below); rotate_left; (with_reducible assumption)) | ((with_reducible apply Mv.trans); rotate_left; (with_reducible assumption))))) (by simp only [Bool.false_and, Bool.or_false])⟩
  · intro l a w' hJ9; refine Exists.elim hJ9 fun b0 hJ9 => Exists.elim hJ9 fun c0 hJ9 => Exists.elim hJ9 fun b1 hJ9 => Exists.elim hJ9 fun c1 hJ9 => Exists.elim hJ9 fun b2 hJ9 => Exists.elim hJ9 fun c2 hJ9 => Exists.elim hJ9 fun b3 hJ9 => Exists.elim hJ9 fun c3 hJ9 => Exists.elim hJ9 fun y0 hJ9 => Exists.elim hJ9 fun x0 hJ9 => Exists.elim hJ9 fun y1 hJ9 => Exists.elim hJ9 fun x1 hJ9 => Exists.elim hJ9 fun y2 hJ9 => Exists.elim hJ9 fun x2 hJ9 => Exists.elim hJ9 fun y3 hJ9 => Exists.elim hJ9 fun x3 hJ9 => And.elim (fun hE1 hJ9 => And.elim (fun hE2 hJ9 => And.elim (fun k0 hJ9 => And.elim (fun k1 hJ9 => And.elim (fun k2 hJ9 => And.elim (fun k3 hJ9 => And.elim (fun k4 hJ9 => And.elim (fun k5 hJ9 => And.elim (fun k6 hJ9 => And.elim (fun v0 hJ9 => And.elim (fun v1 hJ9 => And.elim (fun v2 hJ9 => And.elim (fun v3 hJ9 => And.elim (fun a0 hJ9 => And.elim (fun a1 hJ9 => And.elim (fun a2 hJ9 => And.elim (fun a3 hJ9 => And.elim (fun e0_1 hJ9 => And.elim (fun e0_2 hJ9 => And.elim (fun e0_3 hJ9 => And.elim (fun e1_2 hJ9 => And.elim (fun e1_3 hJ9 => And.elim (fun e2_3 hJ9 => And.elim (fun B0 hJ9 => And.elim (fun B1 hJ9 => And.elim (fun D0 hJ9 => And.elim (fun hz9 HM => ?_) hJ9) hJ9) hJ9) hJ9) hJ9) hJ9) hJ9) hJ9) hJ9) hJ9) hJ9) hJ9) hJ9) hJ9) hJ9) hJ9) hJ9) hJ9) hJ9) hJ9) hJ9) hJ9) hJ9) hJ9) hJ9) hJ9) hJ9; replace hE1 := hE1.symm; replace hE2 := hE2.symm; subst hE1; subst hE2; clear hJ9; rw [sets_size]; show (_ : Nat) = _; kernel_rfl
  · intro l a w' hJ9; refine Exists.elim hJ9 fun b0 hJ9 => Exists.elim hJ9 fun c0 hJ9 => Exists.elim hJ9 fun b1 hJ9 => Exists.elim hJ9 fun c1 hJ9 => Exists.elim hJ9 fun b2 hJ9 => Exists.elim hJ9 fun c2 hJ9 => Exists.elim hJ9 fun b3 hJ9 => Exists.elim hJ9 fun c3 hJ9 => Exists.elim hJ9 fun y0 hJ9 => Exists.elim hJ9 fun x0 hJ9 => Exists.elim hJ9 fun y1 hJ9 => Exists.elim hJ9 fun x1 hJ9 => Exists.elim hJ9 fun y2 hJ9 => Exists.elim hJ9 fun x2 hJ9 => Exists.elim hJ9 fun y3 hJ9 => Exists.elim hJ9 fun x3 hJ9 => And.elim (fun hE1 hJ9 => And.elim (fun hE2 hJ9 => And.elim (fun k0 hJ9 => And.elim (fun k1 hJ9 => And.elim (fun k2 hJ9 => And.elim (fun k3 hJ9 => And.elim (fun k4 hJ9 => And.elim (fun k5 hJ9 => And.elim (fun k6 hJ9 => And.elim (fun v0 hJ9 => And.elim (fun v1 hJ9 => And.elim (fun v2 hJ9 => And.elim (fun v3 hJ9 => And.elim (fun a0 hJ9 => And.elim (fun a1 hJ9 => And.elim (fun a2 hJ9 => And.elim (fun a3 hJ9 => And.elim (fun e0_1 hJ9 => And.elim (fun e0_2 hJ9 => And.elim (fun e0_3 hJ9 => And.elim (fun e1_2 hJ9 => And.elim (fun e1_3 hJ9 => And.elim (fun e2_3 hJ9 => And.elim (fun B0 hJ9 => And.elim (fun B1 hJ9 => And.elim (fun D0 hJ9 => And.elim (fun hz9 HM => ?_) hJ9) hJ9) hJ9) hJ9) hJ9) hJ9) hJ9) hJ9) hJ9) hJ9) hJ9) hJ9) hJ9) hJ9) hJ9) hJ9) hJ9) hJ9) hJ9) hJ9) hJ9) hJ9) hJ9) hJ9) hJ9) hJ9) hJ9; replace hE1 := hE1.symm; replace hE2 := hE2.symm; subst hE1; subst hE2; clear hJ9; exact ⟨B0, B1⟩
  · intro l a w' hJ9; refine Exists.elim hJ9 fun b0 hJ9 => Exists.elim hJ9 fun c0 hJ9 => Exists.elim hJ9 fun b1 hJ9 => Exists.elim hJ9 fun c1 hJ9 => Exists.elim hJ9 fun b2 hJ9 => Exists.elim hJ9 fun c2 hJ9 => Exists.elim hJ9 fun b3 hJ9 => Exists.elim hJ9 fun c3 hJ9 => Exists.elim hJ9 fun y0 hJ9 => Exists.elim hJ9 fun x0 hJ9 => Exists.elim hJ9 fun y1 hJ9 => Exists.elim hJ9 fun x1 hJ9 => Exists.elim hJ9 fun y2 hJ9 => Exists.elim hJ9 fun x2 hJ9 => Exists.elim hJ9 fun y3 hJ9 => Exists.elim hJ9 fun x3 hJ9 => And.elim (fun hE1 hJ9 => And.elim (fun hE2 hJ9 => And.elim (fun k0 hJ9 => And.elim (fun k1 hJ9 => And.elim (fun k2 hJ9 => And.elim (fun k3 hJ9 => And.elim (fun k4 hJ9 => And.elim (fun k5 hJ9 => And.elim (fun k6 hJ9 => And.elim (fun v0 hJ9 => And.elim (fun v1 hJ9 => And.elim (fun v2 hJ9 => And.elim (fun v3 hJ9 => And.elim (fun a0 hJ9 => And.elim (fun a1 hJ9 => And.elim (fun a2 hJ9 => And.elim (fun a3 hJ9 => And.elim (fun e0_1 hJ9 => And.elim (fun e0_2 hJ9 => And.elim (fun e0_3 hJ9 => And.elim (fun e1_2 hJ9 => And.elim (fun e1_3 hJ9 => And.elim (fun e2_3 hJ9 => And.elim (fun B0 hJ9 => And.elim (fun B1 hJ9 => And.elim (fun D0 hJ9 => And.elim (fun hz9 HM => ?_) hJ9) hJ9) hJ9) hJ9) hJ9) hJ9) hJ9) hJ9) hJ9) hJ9) hJ9) hJ9) hJ9) hJ9) hJ9) hJ9) hJ9) hJ9) hJ9) hJ9) hJ9) hJ9) hJ9) hJ9) hJ9) hJ9) hJ9; replace hE1 := hE1.symm; replace hE2 := hE2.symm; subst hE1; subst hE2; clear hJ9; intro hf i hi hd
    have hcd := cand_of [(21, b0), (22, c0), (44, b1), (45, c1), (67, b2), (68, c2), (90, b3), (91, c3)] (cand := [21, 22, 44, 45, 67, 68, 90, 91, 92, 93]) (by kernel_rfl) (by kernel_rfl) hi
    simp only [List.mem_cons, List.not_mem_nil, or_false] at hcd
    rcases hcd with rfl | rfl | rfl | rfl | rfl | rfl | rfl | rfl | rfl | rfl
    · have hi0 := hi
      simp only [sets, List.setIfInBounds_toArray, List.set_cons_zero, List.set_cons_succ, Array.getD_eq_getD_getElem?, List.getElem?_toArray, List.getElem?_cons_zero, List.getElem?_cons_succ, Option.getD_some] at hi
      subst hi
      clear hf hd hi0
      refine wpOp_shut rfl (fun K hK => ?_)
      simp only [puts, Act.put, List.setIfInBounds_toArray, List.set_cons_zero, List.set_cons_succ]
      have hzn := hz9
      go_simp
      exact hK.out _ _ ⟨true, c0, b1, c1, b2, c2, b3, c3, .slice (some ⟨w'.heap.size, 0, none⟩) 4 4, x0, y1, x1, y2, x2, y3, x3, by first | (simp only [sets, List.setIfInBounds_toArray, List.set_cons_zero, List.set_cons_succ]; done) | rfl, by first | (simp only [puts, Act.put, List.setIfInBounds_toArray, List.set_cons_zero, List.set_cons_succ]; done) | rfl, (fun _ => rfl), k1, k2, k3, k4, k5, k6, v0, v1, v2, v3, (fun _ => ⟨w'.heap.size, rfl, by simp [Bk, go_sem], hz9⟩), (fun h => by obtain ⟨g, h1, h2, h3⟩ := a1 h; exact ⟨g, h1, Bk.alloc h2 _, h3⟩), (fun h => by obtain ⟨g, h1, h2, h3⟩ := a2 h; exact ⟨g, h1, Bk.alloc h2 _, h3⟩), (fun h => by obtain ⟨g, h1, h2, h3⟩ := a3 h; exact ⟨g, h1, Bk.alloc h2 _, h3⟩), (fun _ h => by obtain ⟨g, h1, h2, h3⟩ := a1 h; rw [h1]; intro hh; simp at hh; have := World.block_lt_of_cell? _ _ h2.1; dsimp only at this; omega), (fun _ h => by obtain ⟨g, h1, h2, h3⟩ := a2 h; rw [h1]; intro hh; simp at hh; have := World.block_lt_of_cell? _ _ h2.1; dsimp only at this; omega), (fun _ h => by obtain ⟨g, h1, h2, h3⟩ := a3 h; rw [h1]; intro hh; simp at hh; have := World.block_lt_of_cell? _ _ h2.1; dsimp only at this; omega), (fun r1 r2 => e1_2 (by first | exact r1 | trivial) (by first | exact r2 | trivial)), (fun r1 r2 => e1_3 (by first | exact r1 | trivial) (by first | exact r2 | trivial)), (fun r1 r2 => e2_3 (by first | exact r1 | trivial) (by first | exact r2 | trivial)), Bk.alloc B0 _, Bk.alloc B1 _, Bk.alloc D0 _, (by simp only [World.size_alloc]; omega), HM.alloc _⟩
    · have hi0 := hi
      simp only [sets, List.setIfInBounds_toArray, List.set_cons_zero, List.set_cons_succ, Array.getD_eq_getD_getElem?, List.getElem?_toArray, List.getElem?_cons_zero, List.getElem?_cons_succ, Option.getD_some] at hi
      subst hi
      have hx := dep_of hd 21 (by kernel_rfl); simp only [sets, List.setIfInBounds_toArray, List.set_cons_zero, List.set_cons_succ, Array.getD_eq_getD_getElem?, List.getElem?_toArray, List.getElem?_cons_zero, List.getElem?_cons_succ, Option.getD_some] at hx; subst hx
      clear hf hd hi0
      refine wpOp_shut rfl (fun K hK => ?_)
      simp only [puts, Act.put, List.setIfInBounds_toArray, List.set_cons_zero, List.set_cons_succ]
      obtain ⟨g0, rfl, G0, L0⟩ := a0 rfl
      have hbL := lt_of_cell HM.cell
      have N0 : g0 ≠ b := by omega
      go_simp
      (go_at_call 44; (with_reducible refine (mvCall (b := b) (w0 := w) HM (kk0 _ _ _ G0 N0)).mono ?_); rintro e wr ⟨rfl, hR, HM⟩)
      have hzr := hR.size
      (try go_wp2_with (fail))
      exact hK.out _ _ ⟨true, true, b1, c1, b2, c2, b3, c3, .slice (some ⟨g0, 0, none⟩) 4 4, .int .i64 vv0, y1, x1, y2, x2, y3, x3, by first | (simp only [sets, List.setIfInBounds_toArray, List.set_cons_zero, List.set_cons_succ]; done) | rfl, by first | (simp only [puts, Act.put, List.setIfInBounds_toArray, List.set_cons_zero, List.set_cons_succ]; done) | rfl, (fun _ => rfl), (fun _ => rfl), k2, k3, k4, k5, k6, (fun _ => rfl), v1, v2, v3, (fun _ => ⟨g0, rfl, Bk.mv hR (by omega) G0, L0⟩), (fun h => by obtain ⟨g, h1, h2, h3⟩ := a1 h; exact ⟨g, h1, Bk.mv hR (by omega) h2, h3⟩), (fun h => by obtain ⟨g, h1, h2, h3⟩ := a2 h; exact ⟨g, h1, Bk.mv hR (by omega) h2, h3⟩), (fun h => by obtain ⟨g, h1, h2, h3⟩ := a3 h; exact ⟨g, h1, Bk.mv hR (by omega) h2, h3⟩), (fun r1 r2 => e0_1 (by first | exact r1 | trivial) (by first | exact r2 | trivial)), (fun r1 r2 => e0_2 (by first | exact r1 | trivial) (by first | exact r2 | trivial)), (fun r1 r2 => e0_3 (by first | exact r1 | trivial) (by first | exact r2 | trivial)), (fun r1 r2 => e1_2 (by first | exact r1 | trivial) (by first | exact r2 | trivial)), (fun r1 r2 => e1_3 (by first | exact r1 | trivial) (by first | exact r2 | trivial)), (fun r1 r2 => e2_3 (by first | exact r1 | trivial) (by first | exact r2 | trivial)), Bk.mv hR (by omega) B0, Bk.mv hR (by omega) B1, Bk.mv hR (by omega) D0, (by omega), Mv.cast HM (by first | (simp only [Bool.true_and, Bool.false_and, Bool.or_false, Bool.false_or, Bool.or_assoc, Bool.or_left_comm, Bool.or_comm]; done) | (simp only [Bool.true_and, Bool.false_and, Bool.or_false, Bool.false_or, Bool.not_and, Bool.or_assoc, Bool.or_left_comm, Bool.or_comm]; done))⟩
    · have hi0 := hi
      simp only [sets, List.setIfInBounds_toArray, List.set_cons_zero, List.set_cons_succ, Array.getD_eq_getD_getElem?, List.getElem?_toArray, List.getElem?_cons_zero, List.getElem?_cons_succ, Option.getD_some] at hi
      subst hi
      clear hf hd hi0
      refine wpOp_shut rfl (fun K hK => ?_)
      simp only [puts, Act.put, List.setIfInBounds_toArray, List.set_cons_zero, List.set_cons_succ]
      have hzn := hz9
      go_simp
      exact hK.out _ _ ⟨b0, c0, true, c1, b2, c2, b3, c3, y0, x0, .slice (some ⟨w'.heap.size, 0, none⟩) 4 4, x1, y2, x2, y3, x3, by first | (simp only [sets, List.setIfInBounds_toArray, List.set_cons_zero, List.set_cons_succ]; done) | rfl, by first | (simp only [puts, Act.put, List.setIfInBounds_toArray, List.set_cons_zero, List.set_cons_succ]; done) | rfl, k0, k1, (fun _ => rfl), k3, k4, k5, k6, v0, v1, v2, v3, (fun h => by obtain ⟨g, h1, h2, h3⟩ := a0 h; exact ⟨g, h1, Bk.alloc h2 _, h3⟩), (fun _ => ⟨w'.heap.size, rfl, by simp [Bk, go_sem], hz9⟩), (fun h => by obtain ⟨g, h1, h2, h3⟩ := a2 h; exact ⟨g, h1, Bk.alloc h2 _, h3⟩), (fun h => by obtain ⟨g, h1, h2, h3⟩ := a3 h; exact ⟨g, h1, Bk.alloc h2 _, h3⟩), (fun h _ => by obtain ⟨g, h1, h2, h3⟩ := a0 h; rw [h1]; intro hh; simp at hh; have := World.block_lt_of_cell? _ _ h2.1; dsimp only at this; omega), (fun r1 r2 => e0_2 (by first | exact r1 | trivial) (by first | exact r2 | trivial)), (fun r1 r2 => e0_3 (by first | exact r1 | trivial) (by first | exact r2 | trivial)), (fun _ h => by obtain ⟨g, h1, h2, h3⟩ := a2 h; rw [h1]; intro hh; simp at hh; have := World.block_lt_of_cell? _ _ h2.1; dsimp only at this; omega), (fun _ h => by obtain ⟨g, h1, h2, h3⟩ := a3 h; rw [h1]; intro hh; simp at hh; have := World.block_lt_of_cell? _ _ h2.1; dsimp only at this; omega), (fun r1 r2 => e2_3 (by first | exact r1 | trivial) (by first | exact r2 | trivial)), Bk.alloc B0 _, Bk.alloc B1 _, Bk.alloc D0 _, (by simp only [World.size_alloc]; omega), HM.alloc _⟩
    · have hi0 := hi
      simp only [sets, List.setIfInBounds_toArray, List.set_cons_zero, List.set_cons_succ, Array.getD_eq_getD_getElem?, List.getElem?_toArray, List.getElem?_cons_zero, List.getElem?_cons_succ, Option.getD_some] at hi
      subst hi
      have hx := dep_of hd 22 (by kernel_rfl); simp only [sets, List.setIfInBounds_toArray, List.set_cons_zero, List.set_cons_succ, Array.getD_eq_getD_getElem?, List.getElem?_toArray, List.getElem?_cons_zero, List.getElem?_cons_succ, Option.getD_some] at hx; subst hx
      have hx := dep_of hd 44 (by kernel_rfl); simp only [sets, List.setIfInBounds_toArray, List.set_cons_zero, List.set_cons_succ, Array.getD_eq_getD_getElem?, List.getElem?_toArray, List.getElem?_cons_zero, List.getElem?_cons_succ, Option.getD_some] at hx; subst hx
      clear hf hd hi0
      refine wpOp_shut rfl (fun K hK => ?_)
      have hk0 := k0 rfl; subst hk0
      simp only [puts, Act.put, List.setIfInBounds_toArray, List.set_cons_zero, List.set_cons_succ]
      obtain ⟨g0, rfl, G0, L0⟩ := a0 rfl
      obtain ⟨g1, rfl, G1, L1⟩ := a1 rfl
      have hv0 := v0 rfl; subst hv0
      have hbL := lt_of_cell HM.cell
      have N0 : g0 ≠ b := by omega
      have N1 : g1 ≠ b := by omega
      go_simp
      (go_at_call 44; (with_reducible refine (mvCall (b := b) (w0 := w) HM (kk1 _ _ _ G1 N1)).mono ?_); rintro e wr ⟨rfl, hR, HM⟩)
      have hzr := hR.size
      (try go_wp2_with (fail))
      exact hK.out _ _ ⟨true, true, true, true, b2, c2, b3, c3, .slice (some ⟨g0, 0, none⟩) 4 4, .int .i64 vv0, .slice (some ⟨g1, 0, none⟩) 4 4, .int .i64 vv1, y2, x2, y3, x3, by first | (simp only [sets, List.setIfInBounds_toArray, List.set_cons_zero, List.set_cons_succ]; done) | rfl, by first | (simp only [puts, Act.put, List.setIfInBounds_toArray, List.set_cons_zero, List.set_cons_succ]; done) | rfl, (fun _ => rfl), (fun _ => rfl), (fun _ => rfl), (fun _ => rfl), k4, k5, k6, (fun _ => rfl), (fun _ => rfl), v2, v3, (fun _ => ⟨g0, rfl, Bk.mv hR (by omega) G0, L0⟩), (fun _ => ⟨g1, rfl, Bk.mv hR (by omega) G1, L1⟩), (fun h => by obtain ⟨g, h1, h2, h3⟩ := a2 h; exact ⟨g, h1, Bk.mv hR (by omega) h2, h3⟩), (fun h => by obtain ⟨g, h1, h2, h3⟩ := a3 h; exact ⟨g, h1, Bk.mv hR (by omega) h2, h3⟩), (fun r1 r2 => e0_1 (by first | exact r1 | trivial) (by first | exact r2 | trivial)), (fun r1 r2 => e0_2 (by first | exact r1 | trivial) (by first | exact r2 | trivial)), (fun r1 r2 => e0_3 (by first | exact r1 | trivial) (by first | exact r2 | trivial)), (fun r1 r2 => e1_2 (by first | exact r1 | trivial) (by first | exact r2 | trivial)), (fun r1 r2 => e1_3 (by first | exact r1 | trivial) (by first | exact r2 | trivial)), (fun r1 r2 => e2_3 (by first | exact r1 | trivial) (by first | exact r2 | trivial)), Bk.mv hR (by omega) B0, Bk.mv hR (by omega) B1, Bk.mv hR (by omega) D0, (by omega), Mv.cast HM (by first | (simp only [Bool.true_and, Bool.false_and, Bool.or_false, Bool.false_or, Bool.or_assoc, Bool.or_left_comm, Bool.or_comm]; done) | (simp only [Bool.true_and, Bool.false_and, Bool.or_false, Bool.false_or, Bool.not_and, Bool.or_assoc, Bool.or_left_comm, Bool.or_comm]; done))⟩
    · have hi0 := hi
      simp only [sets, List.setIfInBounds_toArray, List.set_cons_zero, List.set_cons_succ, Array.getD_eq_getD_getElem?, List.getElem?_toArray, List.getElem?_cons_zero, List.getElem?_cons_succ, Option.getD_some] at hi
      subst hi
      clear hf hd hi0
      refine wpOp_shut rfl (fun K hK => ?_)
      simp only [puts, Act.put, List.setIfInBounds_toArray, List.set_cons_zero, List.set_cons_succ]
      have hzn := hz9
      go_simp
      exact hK.out _ _ ⟨b0, c0, b1, c1, true, c2, b3, c3, y0, x0, y1, x1, .slice (some ⟨w'.heap.size, 0, none⟩) 4 4, x2, y3, x3, by first | (simp only [sets, List.setIfInBounds_toArray, List.set_cons_zero, List.set_cons_succ]; done) | rfl, by first | (simp only [puts, Act.put, List.setIfInBounds_toArray, List.set_cons_zero, List.set_cons_succ]; done) | rfl, k0, k1, k2, k3, (fun _ => rfl), k5, k6, v0, v1, v2, v3, (fun h => by obtain ⟨g, h1, h2, h3⟩ := a0 h; exact ⟨g, h1, Bk.alloc h2 _, h3⟩), (fun h => by obtain ⟨g, h1, h2, h3⟩ := a1 h; exact ⟨g, h1, Bk.alloc h2 _, h3⟩), (fun _ => ⟨w'.heap.size, rfl, by simp [Bk, go_sem], hz9⟩), (fun h => by obtain ⟨g, h1, h2, h3⟩ := a3 h; exact ⟨g, h1, Bk.alloc h2 _, h3⟩), (fun r1 r2 => e0_1 (by first | exact r1 | trivial) (by first | exact r2 | trivial)), (fun h _ => by obtain ⟨g, h1, h2, h3⟩ := a0 h; rw [h1]; intro hh; simp at hh; have := World.block_lt_of_cell? _ _ h2.1; dsimp only at this; omega), (fun r1 r2 => e0_3 (by first | exact r1 | trivial) (by first | exact r2 | trivial)), (fun h _ => by obtain ⟨g, h1, h2, h3⟩ := a1 h; rw [h1]; intro hh; simp at hh; have := World.block_lt_of_cell? _ _ h2.1; dsimp only at this; omega), (fun r1 r2 => e1_3 (by first | exact r1 | trivial) (by first | exact r2 | trivial)), (fun _ h => by obtain ⟨g, h1, h2, h3⟩ := a3 h; rw [h1]; intro hh; simp at hh; have := World.block_lt_of_cell? _ _ h2.1; dsimp only at this; omega), Bk.alloc B0 _, Bk.alloc B1 _, Bk.alloc D0 _, (by simp only [World.size_alloc]; omega), HM.alloc _⟩
    · have hi0 := hi
      simp only [sets, List.setIfInBounds_toArray, List.set_cons_zero, List.set_cons_succ, Array.getD_eq_getD_getElem?, List.getElem?_toArray, List.getElem?_cons_zero, List.getElem?_cons_succ, Option.getD_some] at hi
      subst hi
      have hx := dep_of hd 45 (by kernel_rfl); simp only [sets, List.setIfInBounds_toArray, List.set_cons_zero, List.set_cons_succ, Array.getD_eq_getD_getElem?, List.getElem?_toArray, List.getElem?_cons_zero, List.getElem?_cons_succ, Option.getD_some] at hx; subst hx
      have hx := dep_of hd 67 (by kernel_rfl); simp only [sets, List.setIfInBounds_toArray, List.set_cons_zero, List.set_cons_succ, Array.getD_eq_getD_getElem?, List.getElem?_toArray, List.getElem?_cons_zero, List.getElem?_cons_succ, Option.getD_some] at hx; subst hx
      clear hf hd hi0
      refine wpOp_shut rfl (fun K hK => ?_)
      have hk1 := k1 rfl; subst hk1
      have hk2 := k2 rfl; subst hk2
      have hk0 := k0 rfl; subst hk0
      simp only [puts, Act.put, List.setIfInBounds_toArray, List.set_cons_zero, List.set_cons_succ]
      obtain ⟨g0, rfl, G0, L0⟩ := a0 rfl
      obtain ⟨g1, rfl, G1, L1⟩ := a1 rfl
      obtain ⟨g2, rfl, G2, L2⟩ := a2 rfl
      have hv0 := v0 rfl; subst hv0
      have hv1 := v1 rfl; subst hv1
      have hbL := lt_of_cell HM.cell
      have N0 : g0 ≠ b := by omega
      have N1 : g1 ≠ b := by omega
      have N2 : g2 ≠ b := by omega
      go_simp
      (go_at_call 44; (with_reducible refine (mvCall (b := b) (w0 := w) HM (kk2 _ _ _ G2 N2)).mono ?_); rintro e wr ⟨rfl, hR, HM⟩)
      have hzr := hR.size
      (try go_wp2_with (fail))
      exact hK.out _ _ ⟨true, true, true, true, true, true, b3, c3, .slice (some ⟨g0, 0, none⟩) 4 4, .int .i64 vv0, .slice (some ⟨g1, 0, none⟩) 4 4, .int .i64 vv1, .slice (some ⟨g2, 0, none⟩) 4 4, .int .i64 vv2, y3, x3, by first | (simp only [sets, List.setIfInBounds_toArray, List.set_cons_zero, List.set_cons_succ]; done) | rfl, by first | (simp only [puts, Act.put, List.setIfInBounds_toArray, List.set_cons_zero, List.set_cons_succ]; done) | rfl, (fun _ => rfl), (fun _ => rfl), (fun _ => rfl), (fun _ => rfl), (fun _ => rfl), (fun _ => rfl), k6, (fun _ => rfl), (fun _ => rfl), (fun _ => rfl), v3, (fun _ => ⟨g0, rfl, Bk.mv hR (by omega) G0, L0⟩), (fun _ => ⟨g1, rfl, Bk.mv hR (by omega) G1, L1⟩), (fun _ => ⟨g2, rfl, Bk.mv hR (by omega) G2, L2⟩), (fun h => by obtain ⟨g, h1, h2, h3⟩ := a3 h; exact ⟨g, h1, Bk.mv hR (by omega) h2, h3⟩), (fun r1 r2 => e0_1 (by first | exact r1 | trivial) (by first | exact r2 | trivial)), (fun r1 r2 => e0_2 (by first | exact r1 | trivial) (by first | exact r2 | trivial)), (fun r1 r2 => e0_3 (by first | exact r1 | trivial) (by first | exact r2 | trivial)), (fun r1 r2 => e1_2 (by first | exact r1 | trivial) (by first | exact r2 | trivial)), (fun r1 r2 => e1_3 (by first | exact r1 | trivial) (by first | exact r2 | trivial)), (fun r1 r2 => e2_3 (by first | exact r1 | trivial) (by first | exact r2 | trivial)), Bk.mv hR (by omega) B0, Bk.mv hR (by omega) B1, Bk.mv hR (by omega) D0, (by omega), Mv.cast HM (by first | (simp only [Bool.true_and, Bool.false_and, Bool.or_false, Bool.false_or, Bool.or_assoc, Bool.or_left_comm, Bool.or_comm]; done) | (simp only [Bool.true_and, Bool.false_and, Bool.or_false, Bool.false_or, Bool.not_and, Bool.or_assoc, Bool.or_left_comm, Bool.or_comm]; done))⟩
    · have hi0 := hi
      simp only [sets, List.setIfInBounds_toArray, List.set_cons_zero, List.set_cons_succ, Array.getD_eq_getD_getElem?, List.getElem?_toArray, List.getElem?_cons_zero, List.getElem?_cons_succ, Option.getD_some] at hi
      subst hi
      clear hf hd hi0
      refine wpOp_shut rfl (fun K hK => ?_)
      simp only [puts, Act.put, List.setIfInBounds_toArray, List.set_cons_zero, List.set_cons_succ]
      have hzn := hz9
      go_simp
      exact hK.out _ _ ⟨b0, c0, b1, c1, b2, c2, true, c3, y0, x0, y1, x1, y2, x2, .slice (some ⟨w'.heap.size, 0, none⟩) 4 4, x3, by first | (simp only [sets, List.setIfInBounds_toArray, List.set_cons_zero, List.set_cons_succ]; done) | rfl, by first | (simp only [puts, Act.put, List.setIfInBounds_toArray, List.set_cons_zero, List.set_cons_succ]; done) | rfl, k0, k1, k2, k3, k4, k5, (fun _ => rfl), v0, v1, v2, v3, (fun h => by obtain ⟨g, h1, h2, h3⟩ := a0 h; exact ⟨g, h1, Bk.alloc h2 _, h3⟩), (fun h => by obtain ⟨g, h1, h2, h3⟩ := a1 h; exact ⟨g, h1, Bk.alloc h2 _, h3⟩), (fun h => by obtain ⟨g, h1, h2, h3⟩ := a2 h; exact ⟨g, h1, Bk.alloc h2 _, h3⟩), (fun _ => ⟨w'.heap.size, rfl, by simp [Bk, go_sem], hz9⟩), (fun r1 r2 => e0_1 (by first | exact r1 | trivial) (by first | exact r2 | trivial)), (fun r1 r2 => e0_2 (by first | exact r1 | trivial) (by first | exact r2 | trivial)), (fun h _ => by obtain ⟨g, h1, h2, h3⟩ := a0 h; rw [h1]; intro hh; simp at hh; have := World.block_lt_of_cell? _ _ h2.1; dsimp only at this; omega), (fun r1 r2 => e1_2 (by first | exact r1 | trivial) (by first | exact r2 | trivial)), (fun h _ => by obtain ⟨g, h1, h2, h3⟩ := a1 h; rw [h1]; intro hh; simp at hh; have := World.block_lt_of_cell? _ _ h2.1; dsimp only at this; omega), (fun h _ => by obtain ⟨g, h1, h2, h3⟩ := a2 h; rw [h1]; intro hh; simp at hh; have := World.block_lt_of_cell? _ _ h2.1; dsimp only at this; omega), Bk.alloc B0 _, Bk.alloc B1 _, Bk.alloc D0 _, (by simp only [World.size_alloc]; omega), HM.alloc _⟩
    · have hi0 := hi
      simp only [sets, List.setIfInBounds_toArray, List.set_cons_zero, List.set_cons_succ, Array.getD_eq_getD_getElem?, List.getElem?_toArray, List.getElem?_cons_zero, List.getElem?_cons_succ, Option.getD_some] at hi
      subst hi
      have hx := dep_of hd 68 (by kernel_rfl); simp only [sets, List.setIfInBounds_toArray, List.set_cons_zero, List.set_cons_succ, Array.getD_eq_getD_getElem?, List.getElem?_toArray, List.getElem?_cons_zero, List.getElem?_cons_succ, Option.getD_some] at hx; subst hx
      have hx := dep_of hd 90 (by kernel_rfl); simp only [sets, List.setIfInBounds_toArray, List.set_cons_zero, List.set_cons_succ, Array.getD_eq_getD_getElem?, List.getElem?_toArray, List.getElem?_cons_zero, List.getElem?_cons_succ, Option.getD_some] at hx; subst hx
      clear hf hd hi0
      refine wpOp_shut rfl (fun K hK => ?_)
      have hk3 := k3 rfl; subst hk3
      have hk4 := k4 rfl; subst hk4
      have hk1 := k1 rfl; subst hk1
      have hk2 := k2 rfl; subst hk2
      have hk0 := k0 rfl; subst hk0
      simp only [puts, Act.put, List.setIfInBounds_toArray, List.set_cons_zero, List.set_cons_succ]
      obtain ⟨g0, rfl, G0, L0⟩ := a0 rfl
      obtain ⟨g1, rfl, G1, L1⟩ := a1 rfl
      obtain ⟨g2, rfl, G2, L2⟩ := a2 rfl
      obtain ⟨g3, rfl, G3, L3⟩ := a3 rfl
      have hv0 := v0 rfl; subst hv0
      have hv1 := v1 rfl; subst hv1
      have hv2 := v2 rfl; subst hv2
      have hbL := lt_of_cell HM.cell
      have N0 : g0 ≠ b := by omega
      have N1 : g1 ≠ b := by omega
      have N2 : g2 ≠ b := by omega
      have N3 : g3 ≠ b := by omega
      go_simp
      (go_at_call 44; (with_reducible refine (mvCall (b := b) (w0 := w) HM (kk3 _ _ _ G3 N3)).mono ?_); rintro e wr ⟨rfl, hR, HM⟩)
      have hzr := hR.size
      (try go_wp2_with (fail))
      exact hK.out _ _ ⟨true, true, true, true, true, true, true, true, .slice (some ⟨g0, 0, none⟩) 4 4, .int .i64 vv0, .slice (some ⟨g1, 0, none⟩) 4 4, .int .i64 vv1, .slice (some ⟨g2, 0, none⟩) 4 4, .int .i64 vv2, .slice (some ⟨g3, 0, none⟩) 4 4, .int .i64 vv3, by first | (simp only [sets, List.setIfInBounds_toArray, List.set_cons_zero, List.set_cons_succ]; done) | rfl, by first | (simp only [puts, Act.put, List.setIfInBounds_toArray, List.set_cons_zero, List.set_cons_succ]; done) | rfl, (fun _ => rfl), (fun _ => rfl), (fun _ => rfl), (fun _ => rfl), (fun _ => rfl), (fun _ => rfl), (fun _ => rfl), (fun _ => rfl), (fun _ => rfl), (fun _ => rfl), (fun _ => rfl), (fun _ => ⟨g0, rfl, Bk.mv hR (by omega) G0, L0⟩), (fun _ => ⟨g1, rfl, Bk.mv hR (by omega) G1, L1⟩), (fun _ => ⟨g2, rfl, Bk.mv hR (by omega) G2, L2⟩), (fun _ => ⟨g3, rfl, Bk.mv hR (by omega) G3, L3⟩), (fun r1 r2 => e0_1 (by first | exact r1 | trivial) (by first | exact r2 | trivial)), (fun r1 r2 => e0_2 (by first | exact r1 | trivial) (by first | exact r2 | trivial)), (fun r1 r2 => e0_3 (by first | exact r1 | trivial) (by first | exact r2 | trivial)), (fun r1 r2 => e1_2 (by first | exact r1 | trivial) (by first | exact r2 | trivial)), (fun r1 r2 => e1_3 (by first | exact r1 | trivial) (by first | exact r2 | trivial)), (fun r1 r2 => e2_3 (by first | exact r1 | trivial) (by first | exact r2 | trivial)), Bk.mv hR (by omega) B0, Bk.mv hR (by omega) B1, Bk.mv hR (by omega) D0, (by omega), Mv.cast HM (by first | (simp only [Bool.true_and, Bool.false_and, Bool.or_false, Bool.false_or, Bool.or_assoc, Bool.or_left_comm, Bool.or_comm]; done) | (simp only [Bool.true_and, Bool.false_and, Bool.or_false, Bool.false_or, Bool.not_and, Bool.or_assoc, Bool.or_left_comm, Bool.or_comm]; done))⟩
    · have hi0 := hi
      have hx0 := dep_of hd 91 (by kernel_rfl); simp only [sets, List.setIfInBounds_toArray, List.set_cons_zero, List.set_cons_succ, Array.getD_eq_getD_getElem?, List.getElem?_toArray, List.getElem?_cons_zero, List.getElem?_cons_succ, Option.getD_some] at hx0; subst hx0
      obtain ⟨q, hq, hf⟩ := hf; simp only [List.mem_cons, List.not_mem_nil, or_false] at hq
      rcases hq with rfl <;> simp only [sets, List.setIfInBounds_toArray, List.set_cons_zero, List.set_cons_succ, Array.getD_eq_getD_getElem?, List.getElem?_toArray, List.getElem?_cons_zero, List.getElem?_cons_succ, Option.getD_some] at hf <;> cases hf
    · have hi0 := hi
      have hx := dep_of hd 92 (by kernel_rfl); simp only [sets, List.setIfInBounds_toArray, List.set_cons_zero, List.set_cons_succ, Array.getD_eq_getD_getElem?, List.getElem?_toArray, List.getElem?_cons_zero, List.getElem?_cons_succ, Option.getD_some] at hx; cases hx
  intro l a w' n hJ9; refine Exists.elim hJ9 fun b0 hJ9 => Exists.elim hJ9 fun c0 hJ9 => Exists.elim hJ9 fun b1 hJ9 => Exists.elim hJ9 fun c1 hJ9 => Exists.elim hJ9 fun b2 hJ9 => Exists.elim hJ9 fun c2 hJ9 => Exists.elim hJ9 fun b3 hJ9 => Exists.elim hJ9 fun c3 hJ9 => Exists.elim hJ9 fun y0 hJ9 => Exists.elim hJ9 fun x0 hJ9 => Exists.elim hJ9 fun y1 hJ9 => Exists.elim hJ9 fun x1 hJ9 => Exists.elim hJ9 fun y2 hJ9 => Exists.elim hJ9 fun x2 hJ9 => Exists.elim hJ9 fun y3 hJ9 => Exists.elim hJ9 fun x3 hJ9 => And.elim (fun hE1 hJ9 => And.elim (fun hE2 hJ9 => And.elim (fun k0 hJ9 => And.elim (fun k1 hJ9 => And.elim (fun k2 hJ9 => And.elim (fun k3 hJ9 => And.elim (fun k4 hJ9 => And.elim (fun k5 hJ9 => And.elim (fun k6 hJ9 => And.elim (fun v0 hJ9 => And.elim (fun v1 hJ9 => And.elim (fun v2 hJ9 => And.elim (fun v3 hJ9 => And.elim (fun a0 hJ9 => And.elim (fun a1 hJ9 => And.elim (fun a2 hJ9 => And.elim (fun a3 hJ9 => And.elim (fun e0_1 hJ9 => And.elim (fun e0_2 hJ9 => And.elim (fun e0_3 hJ9 => And.elim (fun e1_2 hJ9 => And.elim (fun e1_3 hJ9 => And.elim (fun e2_3 hJ9 => And.elim (fun B0 hJ9 => And.elim (fun B1 hJ9 => And.elim (fun D0 hJ9 => And.elim (fun hz9 HM => ?_) hJ9) hJ9) hJ9) hJ9) hJ9) hJ9) hJ9) hJ9) hJ9) hJ9) hJ9) hJ9) hJ9) hJ9) hJ9) hJ9) hJ9) hJ9) hJ9) hJ9) hJ9) hJ9) hJ9) hJ9) hJ9) hJ9) hJ9; replace hE1 := hE1.symm; replace hE2 := hE2.symm; subst hE1; subst hE2; clear hJ9; intro hf hu
  have hf0 := hf 91 (by simp); simp only [sets, List.setIfInBounds_toArray, List.set_cons_zero, List.set_cons_succ, Array.getD_eq_getD_getElem?, List.getElem?_toArray, List.getElem?_cons_zero, List.getElem?_cons_succ, Option.getD_some] at hf0; subst hf0
  have hk5 := k5 rfl; subst hk5
  have hk6 := k6 rfl; subst hk6
  have hk3 := k3 rfl; subst hk3
  have hk4 := k4 rfl; subst hk4
  have hk1 := k1 rfl; subst hk1
  have hk2 := k2 rfl; subst hk2
  have hk0 := k0 rfl; subst hk0
  have hv0 := v0 rfl; subst hv0
  have hv1 := v1 rfl; subst hv1
  have hv2 := v2 rfl; subst hv2
  have hv3 := v3 rfl; subst hv3
  obtain ⟨g0, rfl, G0, L0⟩ := a0 rfl
  obtain ⟨g1, rfl, G1, L1⟩ := a1 rfl
  obtain ⟨g2, rfl, G2, L2⟩ := a2 rfl
  obtain ⟨g3, rfl, G3, L3⟩ := a3 rfl
  have ne0_1 : g0 ≠ g1 := fun h => e0_1 rfl rfl (by rw [h])
  have ne1_0 := ne0_1.symm
  have ne0_2 : g0 ≠ g2 := fun h => e0_2 rfl rfl (by rw [h])
  have ne2_0 := ne0_2.symm
  have ne0_3 : g0 ≠ g3 := fun h => e0_3 rfl rfl (by rw [h])
  have ne3_0 := ne0_3.symm
  have ne1_2 : g1 ≠ g2 := fun h => e1_2 rfl rfl (by rw [h])
  have ne2_1 := ne1_2.symm
  have ne1_3 : g1 ≠ g3 := fun h => e1_3 rfl rfl (by rw [h])
  have ne3_1 := ne1_3.symm
  have ne2_3 : g2 ≠ g3 := fun h => e2_3 rfl rfl (by rw [h])
  have ne3_2 := ne2_3.symm
  have hbL := lt_of_cell HM.cell
  have N0 : g0 ≠ b := by omega
  have N1 : g1 ≠ b := by omega
  have N2 : g2 ≠ b := by omega
  have N3 : g3 ≠ b := by omega
  obtain ⟨n, rfl⟩ : ∃ q, n = q + 2 := ⟨n - 2, by have hu2 := Nat.le_trans (by (simp only [sets, List.setIfInBounds_toArray, List.set_cons_zero, List.set_cons_succ]); exact of_decide_eq_true (by kernel_rfl) : 2 ≤ _) hu; omega⟩
  simp only [sets, puts, Act.put, List.setIfInBounds_toArray, List.set_cons_zero, List.set_cons_succ]
  clear hu k0 k1 k2 k3 k4 k5 k6 v0 v1 v2 v3
  have hHeld : (fun (w' : World) => Bk w.heap.size 0 [.int .i64 p0, .int .i64 p1, .int .i64 p2, .int .i64 p3] w' ∧ Bk (w.heap.size + 1) 0 [.int .i64 q0, .int .i64 q1, .int .i64 q2, .int .i64 q3] w') w' := ⟨B0, B1⟩
  have C_B0 := B0; simp only [Bk] at C_B0
  have C_B1 := B1; simp only [Bk] at C_B1
  have C_D0 := D0; simp only [Bk] at C_D0
  have C_G0 := G0; simp only [Bk] at C_G0
  have C_G1 := G1; simp only [Bk] at C_G1
  have C_G2 := G2; simp only [Bk] at C_G2
  have C_G3 := G3; simp only [Bk] at C_G3
  refine wpAnyH_take (i := 92) (v := ?_) (by simp only [List.getElem?_toArray, List.getElem?_cons_succ, List.getElem?_cons_zero]; rfl) (by kernel_rfl) (by kernel_rfl) (by kernel_rfl) (fun _ _ _ h => h) (Or.inl ⟨by rfl, ?_⟩) (by assumption) ?_
  rotate_left
  · intro w hSw; (try dsimp only at hSw); simp only [Bk] at hSw; go_simp; try with_reducible rfl
  (try simp only [Act.put, List.setIfInBounds_toArray]); (try dsimp only [List.set_cons_zero, List.set_cons_succ])
  have hOld := hHeld; clear hHeld
  refine wpAnyH_ready (rs := [93]) (by kernel_rfl) (by simp) (AllReadyH.cons rfl (fun K hK => ?_) AllReadyH.nil)
  go_simp
  refine hK.out _ _ ⟨by (repeat (first | with_reducible assumption | with_reducible apply Bk.drew | with_reducible apply Bk.alloc | with_reducible apply Bk.later (hB := hR) | with_reducible apply Bk.later (hB := hM) | ((with_reducible apply Bk.mv hM); (focus omega)) | ((with_reducible apply Bk.later); rotate_left; (with_reducible assumption)) | ((with_reducible apply Bk.put); rotate_left; (first | (dsimp only; omega))))), by (repeat (first | with_reducible assumption | with_reducible apply Bk.drew | with_reducible apply Bk.alloc | with_reducible apply Bk.later (hB := hR) | with_reducible apply Bk.later (hB := hM) | ((with_reducible apply Bk.mv hM); (focus omega)) | ((with_reducible apply Bk.later); rotate_left; (with_reducible assumption)) | ((with_reducible apply Bk.put); rotate_left; (first | (dsimp only; omega)))))⟩ (fun hHeld => ?_)
  clear hK K hOld
  (try simp only [Act.put, List.setIfInBounds_toArray]); (try dsimp only [List.set_cons_zero, List.set_cons_succ])
  refine wpAnyH_done (by kernel_rfl) ?_ _
  (try refine NoPanic.normal ?_)
  clear C_B0 C_B1 C_G0 C_G1 C_G2 C_G3 G0 G1 G2 G3 B0 B1 hHeld P Q R kk0 kk1 kk2 kk3
  go_wp2
  clear ne0_1 ne0_2 ne0_3 ne1_0 ne1_2 ne1_3 ne2_0 ne2_1 ne2_3 ne3_0 ne3_1 ne3_2
  obtain ⟨r0, s0, r1, s1, r2, s2, r3, s3, _⟩ := C_D0
  simp (maxDischargeDepth := 8) [bodyPost, results, Try.results16, go_sem, r0, s0, r1, s1, r2, s2, r3, s3]
  exact Mv.cast (by (repeat (first | with_reducible assumption | with_reducible exact Mv.refl (by assumption) (by assumption) | with_reducible apply Mv.alloc | with_reducible apply Mv.drew | with_reducible apply Mv.drewN | ((with_reducible apply Mv.setCell); rotate_left; (first | (dsimp only; omega) | omega | (simp; omega)); (first | (dsimp only; omega) | omega | (simp; omega))) | ((with_reducible apply Mv.below); rotate_left; (with_reducible assumption)) | ((with_reducible apply Mv.trans); rotate_left; (with_reducible assumption))))) (by simp only [Bool.true_and, Bool.not_and, Bool.or_assoc])
end Go.Proofs.Ytjpkkpflamkjkaa
