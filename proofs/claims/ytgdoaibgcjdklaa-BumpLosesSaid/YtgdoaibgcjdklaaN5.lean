/- The document's discs: bounds of velocities, how two lie. -/
import Derived.Test.YtgdoaibgcjdklaaN4
set_option linter.unusedSimpArgs false
set_option linter.unusedVariables false
namespace Go.Proofs.Ytgdoaibgcjdklaa
open Go.RowKit
set_option maxHeartbeats 2000000 in
theorem r9Limit (x y : Int) (w : World) : Calls Try.prog 36 #[.int .i64 x, .int .i64 y] w fun e w' => e = .returned (.agg #[.int .i64 (clm x (-549755813888) 549755813888), .int .i64 (clm y (-549755813888) 549755813888)]) ∧ Below w.heap.size w w' := by
  have k1 := fun W => rClamp x (-549755813888) 549755813888 W
  have k2 := fun W => rClamp y (-549755813888) 549755813888 W
  generalize clm x (-549755813888) 549755813888 = p at *
  generalize clm y (-549755813888) 549755813888 = q at *
  go_enter Try.func36, Try.ntmps36
  go_wp2_with (first | (go_at_call 53; (with_reducible refine (k1 _).mono ?_); rintro e w1 ⟨rfl, rfl⟩) | (go_at_call 53; (with_reducible refine (k2 _).mono ?_); rintro e w1 ⟨rfl, rfl⟩))
  simp (maxDischargeDepth := 8) [bodyPost, results, Try.results36, go_sem, *]
  (repeat (first | with_reducible assumption | with_reducible exact Below.refl _ _ | ((with_reducible refine Below.setCell ?_ ?_ _); rotate_left; (first | exact Nat.le_refl _ | (dsimp only; omega) | (simp; done) | (simp; omega))) | with_reducible refine below_alloc ?_ _ | with_reducible apply below_drewN | with_reducible apply Below.drew | with_reducible refine below_step ?_ (by assumption)))
set_option maxHeartbeats 8000000 in
theorem r9Apart (ax ay vx vy s1 m1 bx bY wx wy s2 m2 : Int) (b : Nat) (o : Bool) (w : World) (ax_0 : -9223372036854775808 ≤ ax) (ax_1 : ax ≤ 9223372036854775807) (ay_0 : -9223372036854775808 ≤ ay) (ay_1 : ay ≤ 9223372036854775807) (bx_0 : -9223372036854775808 ≤ bx) (bx_1 : bx ≤ 9223372036854775807) (bY_0 : -9223372036854775808 ≤ bY) (bY_1 : bY ≤ 9223372036854775807) (s1_0 : -9223372036854775808 ≤ s1) (s1_1 : s1 ≤ 9223372036854775807) (s2_0 : -9223372036854775808 ≤ s2) (s2_1 : s2 ≤ 9223372036854775807) (hc : w.cell? ⟨b, 0, none⟩ = some (.bool o)) (hf : w.frozen? ⟨b, 0, none⟩ = false) :
    Calls Try.prog 8 #[.pointer (some ⟨b, 0, none⟩), .agg #[.int .i64 ax, .int .i64 ay, .int .i64 vx, .int .i64 vy, .int .i64 s1, .int .i64 m1], .agg #[.int .i64 bx, .int .i64 bY, .int .i64 wx, .int .i64 wy, .int .i64 s2, .int .i64 m2]] w fun e w' =>
      e = .returned (.tuple #[.agg #[.int .i64 (uq (sat (bx - ax)) (sqs (sat (bx - ax)) (sat (bY - ay)))), .int .i64 (uq (sat (bY - ay)) (sqs (sat (bx - ax)) (sat (bY - ay))))], .int .i64 (sqs (sat (bx - ax)) (sat (bY - ay))), .bool (tou (sqs (sat (bx - ax)) (sat (bY - ay))) s1 s2)]) ∧ Mv b (o || !apok ax ay bx bY s1 s2) w w' := by
  have hb := lt_of_cell hc
  have HM := Mv.refl hc hf
  clear hc hf
  have k0 := fun O W => rFSub bx ax b O W bx_0 bx_1 ax_0 ax_1
  have k1 := fun O W => rFSub bY ay b O W bY_0 bY_1 ay_0 ay_1
  have x0 := sat_lo (bx - ax); have x1 := sat_hi (bx - ax); have y0 := sat_lo (bY - ay); have y1 := sat_hi (bY - ay)
  unfold apok
  generalize sat (bx - ax) = X at *
  generalize sat (bY - ay) = Y at *
  generalize fx (bx - ax) = f1 at *
  generalize fx (bY - ay) = f2 at *
  have k2 := fun O W => rUnit2 X Y b O W x0 x1 y0 y1
  have k3 := fun O W => c3Len2 X Y b O W x0 x1 y0 y1
  have k4 := fun O W => rFAdd s1 s2 b O W s1_0 s1_1 s2_0 s2_1
  rw [← apok_o]
  unfold sqs tou tok
  generalize lnok (X * X + Y * Y) = l at *
  generalize ln (X * X + Y * Y) = n at *
  generalize uq X n = ux at *
  generalize uq Y n = uy at *
  generalize uok X n = o1 at *
  generalize uok Y n = o2 at *
  generalize (!decide (n = 0)) = tz at *
  generalize sat (s1 + s2) = S at *
  generalize fx (s1 + s2) = fS at *
  clear x0 x1 y0 y1
  go_enter Try.func8, Try.ntmps8
  go_wp2_with (fail)
  (go_at_call 24; (with_reducible refine (mvCall (b := b) (w0 := w) (by (repeat (first | with_reducible assumption | with_reducible exact Mv.refl (by assumption) (by assumption) | with_reducible apply Mv.alloc | with_reducible apply Mv.drew | with_reducible apply Mv.drewN | ((with_reducible apply Mv.setCell); rotate_left; (first | (dsimp only; omega) | omega | (simp; omega)); (first | (dsimp only; omega) | omega | (simp; omega))) | ((with_reducible apply Mv.below); rotate_left; (with_reducible assumption)) | ((with_reducible apply Mv.trans); rotate_left; (with_reducible assumption))))) (k0 _ _)).mono ?_); rintro e w1 ⟨rfl, hM, HM⟩)
  have A : Bk (w.heap.size) 0 [.int .i64 ax, .int .i64 ay, .int .i64 vx, .int .i64 vy, .int .i64 s1, .int .i64 m1] w1 := Bk.mv hM (by omega) (by simp [Bk, go_sem]; done)
  have B : Bk (w.heap.size + 1) 0 [.int .i64 bx, .int .i64 bY, .int .i64 wx, .int .i64 wy, .int .i64 s2, .int .i64 m2] w1 := Bk.mv hM (by omega) (by simp [Bk, go_sem]; done)
  have R : Bk (w.heap.size + 1 + 1) 0 [.int .i64 0, .int .i64 0] w1 := Bk.mv hM (by omega) (by simp [Bk, go_sem]; done)
  have hz := World.block_lt_of_cell? w1 _ R.1
  have C_A := A; simp only [Bk] at C_A
  have C_B := B; simp only [Bk] at C_B
  have C_R := R; simp only [Bk] at C_R
  rename World => wa
  clear hM k0
  go_wp2_with (fail)
  (go_at_call 24; (with_reducible refine (mvCall (b := b) (w0 := w) (by (repeat (first | with_reducible assumption | with_reducible exact Mv.refl (by assumption) (by assumption) | with_reducible apply Mv.alloc | with_reducible apply Mv.drew | with_reducible apply Mv.drewN | ((with_reducible apply Mv.setCell); rotate_left; (first | (dsimp only; omega) | omega | (simp; omega)); (first | (dsimp only; omega) | omega | (simp; omega))) | ((with_reducible apply Mv.below); rotate_left; (with_reducible assumption)) | ((with_reducible apply Mv.trans); rotate_left; (with_reducible assumption))))) (k1 _ _)).mono ?_); rintro e9 w1 ⟨rfl, hM, HM⟩; (first | have A := Bk.mv hM (by omega) A | have A := Bk.mv hM (by omega) (Bk.drew A) | have A := Bk.mv hM (by omega) (Bk.alloc A _) | have A := Bk.mv hM (by omega) (Bk.alloc (Bk.alloc A _) _)); have C_A := A; simp only [Bk] at C_A; (first | have B := Bk.mv hM (by omega) B | have B := Bk.mv hM (by omega) (Bk.drew B) | have B := Bk.mv hM (by omega) (Bk.alloc B _) | have B := Bk.mv hM (by omega) (Bk.alloc (Bk.alloc B _) _)); have C_B := B; simp only [Bk] at C_B; (first | have R := Bk.mv hM (by omega) R | have R := Bk.mv hM (by omega) (Bk.drew R) | have R := Bk.mv hM (by omega) (Bk.alloc R _) | have R := Bk.mv hM (by omega) (Bk.alloc (Bk.alloc R _) _)); have C_R := R; simp only [Bk] at C_R)
  clear hM k1
  go_wp2_with (fail)
  (go_at_call 25; (with_reducible refine (mvCall (b := b) (w0 := w) (by (repeat (first | with_reducible assumption | with_reducible exact Mv.refl (by assumption) (by assumption) | with_reducible apply Mv.alloc | with_reducible apply Mv.drew | with_reducible apply Mv.drewN | ((with_reducible apply Mv.setCell); rotate_left; (first | (dsimp only; omega) | omega | (simp; omega)); (first | (dsimp only; omega) | omega | (simp; omega))) | ((with_reducible apply Mv.below); rotate_left; (with_reducible assumption)) | ((with_reducible apply Mv.trans); rotate_left; (with_reducible assumption))))) (k2 _ _)).mono ?_); rintro e9 w1 ⟨rfl, hM, HM⟩; (first | have A := Bk.mv hM (by omega) A | have A := Bk.mv hM (by omega) (Bk.drew A) | have A := Bk.mv hM (by omega) (Bk.alloc A _) | have A := Bk.mv hM (by omega) (Bk.alloc (Bk.alloc A _) _)); have C_A := A; simp only [Bk] at C_A; (first | have B := Bk.mv hM (by omega) B | have B := Bk.mv hM (by omega) (Bk.drew B) | have B := Bk.mv hM (by omega) (Bk.alloc B _) | have B := Bk.mv hM (by omega) (Bk.alloc (Bk.alloc B _) _)); have C_B := B; simp only [Bk] at C_B; (first | have R := Bk.mv hM (by omega) R | have R := Bk.mv hM (by omega) (Bk.drew R) | have R := Bk.mv hM (by omega) (Bk.alloc R _) | have R := Bk.mv hM (by omega) (Bk.alloc (Bk.alloc R _) _)); have C_R := R; simp only [Bk] at C_R)
  clear hM k2
  go_wp2_with (fail)
  (go_at_call 26; (with_reducible refine (mvCall (b := b) (w0 := w) (by (repeat (first | with_reducible assumption | with_reducible exact Mv.refl (by assumption) (by assumption) | with_reducible apply Mv.alloc | with_reducible apply Mv.drew | with_reducible apply Mv.drewN | ((with_reducible apply Mv.setCell); rotate_left; (first | (dsimp only; omega) | omega | (simp; omega)); (first | (dsimp only; omega) | omega | (simp; omega))) | ((with_reducible apply Mv.below); rotate_left; (with_reducible assumption)) | ((with_reducible apply Mv.trans); rotate_left; (with_reducible assumption))))) (k3 _ _)).mono ?_); rintro e9 w1 ⟨rfl, hM, HM⟩; (first | have A := Bk.mv hM (by omega) A | have A := Bk.mv hM (by omega) (Bk.drew A) | have A := Bk.mv hM (by omega) (Bk.alloc A _) | have A := Bk.mv hM (by omega) (Bk.alloc (Bk.alloc A _) _)); have C_A := A; simp only [Bk] at C_A; (first | have B := Bk.mv hM (by omega) B | have B := Bk.mv hM (by omega) (Bk.drew B) | have B := Bk.mv hM (by omega) (Bk.alloc B _) | have B := Bk.mv hM (by omega) (Bk.alloc (Bk.alloc B _) _)); have C_B := B; simp only [Bk] at C_B; (first | have R := Bk.mv hM (by omega) R | have R := Bk.mv hM (by omega) (Bk.drew R) | have R := Bk.mv hM (by omega) (Bk.alloc R _) | have R := Bk.mv hM (by omega) (Bk.alloc (Bk.alloc R _) _)); have C_R := R; simp only [Bk] at C_R)
  clear hM k3
  by_cases hn : 0 < n
  · have dn := decide_eq_true hn
    go_wp2_with ((go_at_call 27; (with_reducible refine (mvCall (b := b) (w0 := w) (by (repeat (first | with_reducible assumption | with_reducible exact Mv.refl (by assumption) (by assumption) | with_reducible apply Mv.alloc | with_reducible apply Mv.drew | with_reducible apply Mv.drewN | ((with_reducible apply Mv.setCell); rotate_left; (first | (dsimp only; omega) | omega | (simp; omega)); (first | (dsimp only; omega) | omega | (simp; omega))) | ((with_reducible apply Mv.below); rotate_left; (with_reducible assumption)) | ((with_reducible apply Mv.trans); rotate_left; (with_reducible assumption))))) (k4 _ _)).mono ?_); rintro e9 w1 ⟨rfl, hM, HM⟩; (first | have A := Bk.mv hM (by omega) A | have A := Bk.mv hM (by omega) (Bk.drew A) | have A := Bk.mv hM (by omega) (Bk.alloc A _) | have A := Bk.mv hM (by omega) (Bk.alloc (Bk.alloc A _) _)); have C_A := A; simp only [Bk] at C_A; (first | have B := Bk.mv hM (by omega) B | have B := Bk.mv hM (by omega) (Bk.drew B) | have B := Bk.mv hM (by omega) (Bk.alloc B _) | have B := Bk.mv hM (by omega) (Bk.alloc (Bk.alloc B _) _)); have C_B := B; simp only [Bk] at C_B; (first | have R := Bk.mv hM (by omega) R | have R := Bk.mv hM (by omega) (Bk.drew R) | have R := Bk.mv hM (by omega) (Bk.alloc R _) | have R := Bk.mv hM (by omega) (Bk.alloc (Bk.alloc R _) _)); have C_R := R; simp only [Bk] at C_R))
    simp (maxDischargeDepth := 8) [bodyPost, results, Try.results8, go_sem, *]
    exact Mv.cast (by (repeat (first | with_reducible assumption | with_reducible exact Mv.refl (by assumption) (by assumption) | with_reducible apply Mv.alloc | with_reducible apply Mv.drew | with_reducible apply Mv.drewN | ((with_reducible apply Mv.setCell); rotate_left; (first | (dsimp only; omega) | omega | (simp; omega)); (first | (dsimp only; omega) | omega | (simp; omega))) | ((with_reducible apply Mv.below); rotate_left; (with_reducible assumption)) | ((with_reducible apply Mv.trans); rotate_left; (with_reducible assumption))))) (by simp only [Bool.not_and, Bool.or_assoc, Bool.true_and, Bool.not_true, Bool.false_or])
  · have dn := decide_eq_false hn
    go_wp2_with (fail)
    simp (maxDischargeDepth := 8) [bodyPost, results, Try.results8, go_sem, *]
    exact Mv.cast (by (repeat (first | with_reducible assumption | with_reducible exact Mv.refl (by assumption) (by assumption) | with_reducible apply Mv.alloc | with_reducible apply Mv.drew | with_reducible apply Mv.drewN | ((with_reducible apply Mv.setCell); rotate_left; (first | (dsimp only; omega) | omega | (simp; omega)); (first | (dsimp only; omega) | omega | (simp; omega))) | ((with_reducible apply Mv.below); rotate_left; (with_reducible assumption)) | ((with_reducible apply Mv.trans); rotate_left; (with_reducible assumption))))) (by simp only [Bool.not_and, Bool.or_assoc, Bool.not_true, Bool.not_false, Bool.true_or, Bool.or_false, Bool.false_or])
end Go.Proofs.Ytgdoaibgcjdklaa
