/- The contract of the document's Bump, of discs that may be. -/
import Derived.Test.YtgdoaibgcjdklaaN6
import Derived.Test.YtgdoaibgcjdklaaW3
set_option linter.unusedSimpArgs false
set_option linter.unusedVariables false
namespace Go.Proofs.Ytgdoaibgcjdklaa
open Go.RowKit
theorem r9LimitM (x y : Int) (b : Nat) (o : Bool) (w : World) (hc : w.cell? ⟨b, 0, none⟩ = some (.bool o)) (hf : w.frozen? ⟨b, 0, none⟩ = false) : Calls Try.prog 36 #[.int .i64 x, .int .i64 y] w fun e w' => e = .returned (.agg #[.int .i64 (clm x (-549755813888) 549755813888), .int .i64 (clm y (-549755813888) 549755813888)]) ∧ Mv b (o || !true) w w' :=
  (r9Limit x y w).mono fun _ _ ⟨h1, h2⟩ => ⟨h1, Mv.cast (Mv.below (Mv.refl hc hf) h2) (by cases o <;> rfl)⟩
set_option maxHeartbeats 16000000 in
set_option maxRecDepth 20000 in
theorem r9BumpY (ax ay vx vy s1 m1 bx bY wx wy s2 m2 bo : Int) (b : Nat) (o : Bool) (w : World) (h1 : drt ax ay vx vy s1 m1 = true) (h2 : drt bx bY wx wy s2 m2 = true) (b0 : 0 ≤ bo) (b1 : bo ≤ 4294967296) (ux uy n : Int) (t : Bool)
    (eux : uq (sat (bx - ax)) (sqs (sat (bx - ax)) (sat (bY - ay))) = ux) (euy : uq (sat (bY - ay)) (sqs (sat (bx - ax)) (sat (bY - ay))) = uy) (en : sqs (sat (bx - ax)) (sat (bY - ay)) = n) (et : tou n s1 s2 = t)
    (u0 : -9223372036854775808 ≤ ux) (u1 : ux ≤ 9223372036854775807) (u2 : -9223372036854775808 ≤ uy) (u3 : uy ≤ 9223372036854775807) (hc : w.cell? ⟨b, 0, none⟩ = some (.bool o)) (hf : w.frozen? ⟨b, 0, none⟩ = false) :
    Calls Try.prog 14 #[.pointer (some ⟨b, 0, none⟩), .agg #[.int .i64 ax, .int .i64 ay, .int .i64 vx, .int .i64 vy, .int .i64 s1, .int .i64 m1], .agg #[.int .i64 bx, .int .i64 bY, .int .i64 wx, .int .i64 wy, .int .i64 s2, .int .i64 m2], .int .i64 bo] w fun e w' =>
      e = .returned (if (t && decide (0 < bcl ux uy vx vy wx wy)) = true then
          .tuple #[.agg #[.int .i64 (tn true vx ux (ml (bsh (bcl ux uy vx vy wx wy) bo m1 m2) m2)), .int .i64 (tn true vy uy (ml (bsh (bcl ux uy vx vy wx wy) bo m1 m2) m2))], .agg #[.int .i64 (tn false wx ux (ml (bsh (bcl ux uy vx vy wx wy) bo m1 m2) m1)), .int .i64 (tn false wy uy (ml (bsh (bcl ux uy vx vy wx wy) bo m1 m2) m1))], .bool true]
        else .tuple #[.agg #[.int .i64 vx, .int .i64 vy], .agg #[.int .i64 wx, .int .i64 wy], .bool true]) ∧
      Mv b (o || !apok ax ay bx bY s1 s2 || !bclok ux uy vx vy wx wy || ((t && decide (0 < bcl ux uy vx vy wx wy)) && !(bshok (bcl ux uy vx vy wx wy) bo m1 m2 && turnok (bsh (bcl ux uy vx vy wx wy) bo m1 m2) m1 m2 vx vy wx wy ux uy))) w w' := by
  have hb := lt_of_cell hc
  have HM := Mv.refl hc hf
  clear hc hf
  obtain ⟨d1, d2, d3, d4, d5, d6⟩ := drt_bd h1
  obtain ⟨g1, g2, g3, g4, g5, g6⟩ := drt_bd h2
  have kR1 := fun W => r9Right ax ay vx vy s1 m1 W (by omega) (by omega) (by omega) (by omega)
  have kR2 := fun W => r9Right bx bY wx wy s2 m2 W (by omega) (by omega) (by omega) (by omega)
  rw [show drn ax ay vx vy s1 m1 = 0 by unfold drn; rw [if_pos h1]] at kR1
  rw [show drn bx bY wx wy s2 m2 = 0 by unfold drn; rw [if_pos h2]] at kR2
  have kA := fun O W => r9Apart ax ay vx vy s1 m1 bx bY wx wy s2 m2 b O W (by omega) (by omega) (by omega) (by omega) (by omega) (by omega) (by omega) (by omega) (by omega) (by omega) (by omega) (by omega)
  rw [eux, euy, en, et] at kA
  have kL1 := fun O W => rFSub vx wx b O W (by omega) (by omega) (by omega) (by omega)
  have kL2 := fun O W => rFSub vy wy b O W (by omega) (by omega) (by omega) (by omega)
  have x0 := sat_lo (vx - wx); have x1 := sat_hi (vx - wx); have y0 := sat_lo (vy - wy); have y1 := sat_hi (vy - wy)
  have kM1 := fun O W => rMl (sat (vx - wx)) ux b O W x0 x1 u0 u1
  have kM2 := fun O W => rMl (sat (vy - wy)) uy b O W y0 y1 u2 u3
  have z0 := ml_lo (sat (vx - wx)) ux; have z1 := ml_hi (sat (vx - wx)) ux; have z2 := ml_lo (sat (vy - wy)) uy; have z3 := ml_hi (sat (vy - wy)) uy
  have kC := fun O W => rFAdd (ml (sat (vx - wx)) ux) (ml (sat (vy - wy)) uy) b O W z0 z1 z2 z3
  have c0 : -9223372036854775808 ≤ bcl ux uy vx vy wx wy := sat_lo _
  have c1 : bcl ux uy vx vy wx wy ≤ 9223372036854775807 := sat_hi _
  rw [show sat (ml (sat (vx - wx)) ux + ml (sat (vy - wy)) uy) = bcl ux uy vx vy wx wy from rfl] at kC
  have EQ : bclok ux uy vx vy wx wy = (fx (vx - wx) && fx (vy - wy) && mlok (sat (vx - wx)) ux && mlok (sat (vy - wy)) uy && fx (ml (sat (vx - wx)) ux + ml (sat (vy - wy)) uy)) := rfl
  rw [EQ]
  clear EQ
  generalize bcl ux uy vx vy wx wy = c at *
  generalize fx (ml (sat (vx - wx)) ux + ml (sat (vy - wy)) uy) = f5 at *
  generalize mlok (sat (vx - wx)) ux = f3 at *
  generalize mlok (sat (vy - wy)) uy = f4 at *
  generalize ml (sat (vx - wx)) ux = p at *
  generalize ml (sat (vy - wy)) uy = q at *
  generalize sat (vx - wx) = nx at *
  generalize sat (vy - wy) = ny at *
  generalize fx (vx - wx) = f1 at *
  generalize fx (vy - wy) = f2 at *
  generalize apok ax ay bx bY s1 s2 = f0 at *
  clear eux euy en et x0 x1 y0 y1 z0 z1 z2 z3 h1 h2
  generalize hRV : (if (t && decide (0 < c)) = true then _ else _ : Value) = RV
  generalize hFV : (o || !f0 || !(f1 && f2 && f3 && f4 && f5) || ((t && decide (0 < c)) && !(bshok c bo m1 m2 && turnok (bsh c bo m1 m2) m1 m2 vx vy wx wy ux uy))) = FV
  have HRV := Lib.hid (And.intro hRV hFV)
  clear hRV hFV
  go_enter Try.func14, Try.ntmps14
  go_wp2_with (fail)
  (go_at_call 11; (with_reducible refine (kR1 _).mono ?_); rintro e w1 ⟨rfl, hM⟩)
  have A : Bk (w.heap.size) 0 [.int .i64 ax, .int .i64 ay, .int .i64 vx, .int .i64 vy, .int .i64 s1, .int .i64 m1] w1 := Bk.later (by simp [Bk, go_sem]; done) hM
  have B : Bk (w.heap.size + 1) 0 [.int .i64 bx, .int .i64 bY, .int .i64 wx, .int .i64 wy, .int .i64 s2, .int .i64 m2] w1 := Bk.later (by simp [Bk, go_sem]; done) hM
  have R : Bk (w.heap.size + 1 + 1) 0 [.int .i64 0, .int .i64 0] w1 := Bk.later (by simp [Bk, go_sem]; done) hM
  have T : Bk (w.heap.size + 1 + 1 + 1) 0 [.int .i64 0, .int .i64 0] w1 := Bk.later (by simp [Bk, go_sem]; done) hM
  have HB : Below w.heap.size w w1 := by (repeat (first | with_reducible assumption | with_reducible exact Below.refl _ _ | ((with_reducible refine Below.setCell ?_ ?_ _); rotate_left; (first | exact Nat.le_refl _ | (dsimp only; omega) | (simp; done) | (simp; omega))) | with_reducible refine below_alloc ?_ _ | with_reducible apply below_drewN | with_reducible apply Below.drew | with_reducible refine below_step ?_ (by assumption)))
  have C_A := A; simp only [Bk] at C_A
  have C_B := B; simp only [Bk] at C_B
  have C_R := R; simp only [Bk] at C_R
  have C_T := T; simp only [Bk] at C_T
  have HM : Mv b o w w1 := by (repeat (first | with_reducible assumption | with_reducible exact Mv.refl (by assumption) (by assumption) | with_reducible apply Mv.alloc | with_reducible apply Mv.drew | with_reducible apply Mv.drewN | ((with_reducible apply Mv.setCell); rotate_left; (first | (dsimp only; omega) | omega | (simp; omega)); (first | (dsimp only; omega) | omega | (simp; omega))) | ((with_reducible apply Mv.below); rotate_left; (with_reducible assumption)) | ((with_reducible apply Mv.trans); rotate_left; (with_reducible assumption))))
  clear hM kR1
  go_wp2_with (fail)
  (go_at_call 11; (with_reducible refine (kR2 _).mono ?_); rintro e9 w1 ⟨rfl, hM⟩; (first | have HB : Below w.heap.size w _ := below_step HB hM | have HB : Below w.heap.size w _ := below_step (W := _) (by (repeat (first | with_reducible assumption | with_reducible exact Below.refl _ _ | ((with_reducible refine Below.setCell ?_ ?_ _); rotate_left; (first | exact Nat.le_refl _ | (dsimp only; omega) | (simp; done) | (simp; omega))) | with_reducible refine below_alloc ?_ _ | with_reducible apply below_drewN | with_reducible apply Below.drew | with_reducible refine below_step ?_ (by assumption)))) hM); (first | have A := Bk.later A hM | have A := Bk.later (Bk.alloc A _) hM | have A := Bk.later (Bk.alloc (Bk.alloc A _) _) hM); have C_A := A; simp only [Bk] at C_A; (first | have B := Bk.later B hM | have B := Bk.later (Bk.alloc B _) hM | have B := Bk.later (Bk.alloc (Bk.alloc B _) _) hM); have C_B := B; simp only [Bk] at C_B; (first | have R := Bk.later R hM | have R := Bk.later (Bk.alloc R _) hM | have R := Bk.later (Bk.alloc (Bk.alloc R _) _) hM); have C_R := R; simp only [Bk] at C_R; (first | have T := Bk.later T hM | have T := Bk.later (Bk.alloc T _) hM | have T := Bk.later (Bk.alloc (Bk.alloc T _) _) hM); have C_T := T; simp only [Bk] at C_T)
  have HM : Mv b o w w1 := by (repeat (first | with_reducible assumption | with_reducible exact Mv.refl (by assumption) (by assumption) | with_reducible apply Mv.alloc | with_reducible apply Mv.drew | with_reducible apply Mv.drewN | ((with_reducible apply Mv.setCell); rotate_left; (first | (dsimp only; omega) | omega | (simp; omega)); (first | (dsimp only; omega) | omega | (simp; omega))) | ((with_reducible apply Mv.below); rotate_left; (with_reducible assumption)) | ((with_reducible apply Mv.trans); rotate_left; (with_reducible assumption))))
  clear hM kR2
  go_wp2_with (fail)
  (go_at_call 8; (with_reducible refine (mvCall (b := b) (w0 := w) (by (repeat (first | with_reducible assumption | with_reducible exact Mv.refl (by assumption) (by assumption) | with_reducible apply Mv.alloc | with_reducible apply Mv.drew | with_reducible apply Mv.drewN | ((with_reducible apply Mv.setCell); rotate_left; (first | (dsimp only; omega) | omega | (simp; omega)); (first | (dsimp only; omega) | omega | (simp; omega))) | ((with_reducible apply Mv.below); rotate_left; (with_reducible assumption)) | ((with_reducible apply Mv.trans); rotate_left; (with_reducible assumption))))) (kA _ _)).mono ?_); rintro e9 w1 ⟨rfl, hM, HM⟩; (first | have A := Bk.mv hM (by omega) A | have A := Bk.mv hM (by omega) (Bk.drew A) | have A := Bk.mv hM (by omega) (Bk.alloc A _) | have A := Bk.mv hM (by omega) (Bk.alloc (Bk.alloc A _) _)); have C_A := A; simp only [Bk] at C_A; (first | have B := Bk.mv hM (by omega) B | have B := Bk.mv hM (by omega) (Bk.drew B) | have B := Bk.mv hM (by omega) (Bk.alloc B _) | have B := Bk.mv hM (by omega) (Bk.alloc (Bk.alloc B _) _)); have C_B := B; simp only [Bk] at C_B; (first | have R := Bk.mv hM (by omega) R | have R := Bk.mv hM (by omega) (Bk.drew R) | have R := Bk.mv hM (by omega) (Bk.alloc R _) | have R := Bk.mv hM (by omega) (Bk.alloc (Bk.alloc R _) _)); have C_R := R; simp only [Bk] at C_R; (first | have T := Bk.mv hM (by omega) T | have T := Bk.mv hM (by omega) (Bk.drew T) | have T := Bk.mv hM (by omega) (Bk.alloc T _) | have T := Bk.mv hM (by omega) (Bk.alloc (Bk.alloc T _) _)); have C_T := T; simp only [Bk] at C_T)
  rename World => wa
  have hwa := World.block_lt_of_cell? wa _ T.1
  dsimp only at hwa
  clear hM kA HB
  go_upto_region 4 with (fail)
  generalize hW : World.alloc _ _ = W
  have U : Bk wa.heap.size 0 [.int .i64 ux, .int .i64 uy] W := by rw [← hW]; simp [Bk, go_sem]
  have A : Bk (w.heap.size) 0 [.int .i64 ax, .int .i64 ay, .int .i64 vx, .int .i64 vy, .int .i64 s1, .int .i64 m1] W := by rw [← hW]; exact Bk.alloc A _
  have B : Bk (w.heap.size + 1) 0 [.int .i64 bx, .int .i64 bY, .int .i64 wx, .int .i64 wy, .int .i64 s2, .int .i64 m2] W := by rw [← hW]; exact Bk.alloc B _
  have R : Bk (w.heap.size + 1 + 1) 0 [.int .i64 0, .int .i64 0] W := by rw [← hW]; exact Bk.alloc R _
  have T : Bk (w.heap.size + 1 + 1 + 1) 0 [.int .i64 0, .int .i64 0] W := by rw [← hW]; exact Bk.alloc T _
  have HM : Mv b (o || !f0) w W := by rw [← hW]; exact Mv.alloc HM _
  clear hW C_A C_B C_R C_T
  have C_A := A; simp only [Bk] at C_A
  have C_B := B; simp only [Bk] at C_B
  have C_U := U; simp only [Bk] at C_U
  (try refine wp_region_noPanic ?_)
  refine wp_region_held_drew (S := (fun (w' : World) => w'.cell? ⟨w.heap.size, 2, none⟩ = some (.int .i64 vx) ∧ w'.cell? ⟨w.heap.size, 3, none⟩ = some (.int .i64 vy) ∧ w'.cell? ⟨w.heap.size + 1, 2, none⟩ = some (.int .i64 wx) ∧ w'.cell? ⟨w.heap.size + 1, 3, none⟩ = some (.int .i64 wy) ∧ w'.cell? ⟨wa.heap.size, 0, none⟩ = some (.int .i64 ux) ∧ w'.cell? ⟨wa.heap.size, 1, none⟩ = some (.int .i64 uy))) (by kernel_rfl) ⟨(by first | (simp (maxDischargeDepth := 6) [go_sem, *]; done)), (by first | (simp (maxDischargeDepth := 6) [go_sem, *]; done)), (by first | (simp (maxDischargeDepth := 6) [go_sem, *]; done)), (by first | (simp (maxDischargeDepth := 6) [go_sem, *]; done)), (by first | (simp (maxDischargeDepth := 6) [go_sem, *]; done)), (by first | (simp (maxDischargeDepth := 6) [go_sem, *]; done))⟩ (fun hHeld => ?_)
  refine wpAnyH_take (i := 0) (v := ?_) (by simp only [List.getElem?_toArray, List.getElem?_cons_succ, List.getElem?_cons_zero]; rfl) (by kernel_rfl) (by kernel_rfl) (by kernel_rfl) (fun _ _ _ h => h) (Or.inl ⟨by rfl, ?_⟩) (by assumption) ?_
  rotate_left
  · intro w hSw; (try dsimp only at hSw); go_simp; try with_reducible rfl
  try simp only [Act.put, List.setIfInBounds_toArray, List.set_cons_zero, List.set_cons_succ]
  refine wpAnyH_take (i := 1) (v := ?_) (by simp only [List.getElem?_toArray, List.getElem?_cons_succ, List.getElem?_cons_zero]; rfl) (by kernel_rfl) (by kernel_rfl) (by kernel_rfl) (fun _ _ _ h => h) (Or.inl ⟨by rfl, ?_⟩) (by assumption) ?_
  rotate_left
  · intro w hSw; (try dsimp only at hSw); go_simp; try with_reducible rfl
  try simp only [Act.put, List.setIfInBounds_toArray, List.set_cons_zero, List.set_cons_succ]
  refine wpAnyH_take (i := 2) (v := ?_) (by simp only [List.getElem?_toArray, List.getElem?_cons_succ, List.getElem?_cons_zero]; rfl) (by kernel_rfl) (by kernel_rfl) (by kernel_rfl) (fun _ _ _ h => h) (Or.inl ⟨by rfl, ?_⟩) (by assumption) ?_
  rotate_left
  · intro w hSw; (try dsimp only at hSw); go_simp; try with_reducible rfl
  try simp only [Act.put, List.setIfInBounds_toArray, List.set_cons_zero, List.set_cons_succ]
  refine wpAnyH_take (i := 3) (v := ?_) (by simp only [List.getElem?_toArray, List.getElem?_cons_succ, List.getElem?_cons_zero]; rfl) (by kernel_rfl) (by kernel_rfl) (by kernel_rfl) (fun _ _ _ h => h) (Or.inl ⟨by rfl, ?_⟩) (by assumption) ?_
  rotate_left
  · intro w hSw; (try dsimp only at hSw); go_simp; try with_reducible rfl
  try simp only [Act.put, List.setIfInBounds_toArray, List.set_cons_zero, List.set_cons_succ]
  refine wpAnyH_take (i := 4) (v := ?_) (by simp only [List.getElem?_toArray, List.getElem?_cons_succ, List.getElem?_cons_zero]; rfl) (by kernel_rfl) (by kernel_rfl) (by kernel_rfl) (fun _ _ _ h => h) (Or.inl ⟨by rfl, ?_⟩) (by assumption) ?_
  rotate_left
  · intro w hSw; (try dsimp only at hSw); go_simp; try with_reducible rfl
  try simp only [Act.put, List.setIfInBounds_toArray, List.set_cons_zero, List.set_cons_succ]
  refine wpAnyH_take (i := 6) (v := ?_) (by simp only [List.getElem?_toArray, List.getElem?_cons_succ, List.getElem?_cons_zero]; rfl) (by kernel_rfl) (by kernel_rfl) (by kernel_rfl) (fun _ _ _ h => h) (Or.inl ⟨by rfl, ?_⟩) (by assumption) ?_
  rotate_left
  · intro w hSw; (try dsimp only at hSw); go_simp; try with_reducible rfl
  try simp only [Act.put, List.setIfInBounds_toArray, List.set_cons_zero, List.set_cons_succ]
  refine wpAnyH_take (i := 7) (v := ?_) (by simp only [List.getElem?_toArray, List.getElem?_cons_succ, List.getElem?_cons_zero]; rfl) (by kernel_rfl) (by kernel_rfl) (by kernel_rfl) (fun _ _ _ h => h) (Or.inl ⟨by rfl, ?_⟩) (by assumption) ?_
  rotate_left
  · intro w hSw; (try dsimp only at hSw); go_simp; try with_reducible rfl
  try simp only [Act.put, List.setIfInBounds_toArray, List.set_cons_zero, List.set_cons_succ]
  refine wpAnyH_take (i := 10) (v := ?_) (by simp only [List.getElem?_toArray, List.getElem?_cons_succ, List.getElem?_cons_zero]; rfl) (by kernel_rfl) (by kernel_rfl) (by kernel_rfl) (fun _ _ _ h => h) (Or.inl ⟨by rfl, ?_⟩) (by assumption) ?_
  rotate_left
  · intro w hSw; (try dsimp only at hSw); go_simp; try with_reducible rfl
  try simp only [Act.put, List.setIfInBounds_toArray, List.set_cons_zero, List.set_cons_succ]
  refine wpAnyH_take (i := 13) (v := ?_) (by simp only [List.getElem?_toArray, List.getElem?_cons_succ, List.getElem?_cons_zero]; rfl) (by kernel_rfl) (by kernel_rfl) (by kernel_rfl) (fun _ _ _ h => h) (Or.inl ⟨by rfl, ?_⟩) (by assumption) ?_
  rotate_left
  · intro w hSw; (try dsimp only at hSw); go_simp; try with_reducible rfl
  try simp only [Act.put, List.setIfInBounds_toArray, List.set_cons_zero, List.set_cons_succ]
  refine wpAnyH_take (i := 14) (v := ?_) (by simp only [List.getElem?_toArray, List.getElem?_cons_succ, List.getElem?_cons_zero]; rfl) (by kernel_rfl) (by kernel_rfl) (by kernel_rfl) (fun _ _ _ h => h) (Or.inl ⟨by rfl, ?_⟩) (by assumption) ?_
  rotate_left
  · intro w hSw; (try dsimp only at hSw); go_simp; try with_reducible rfl
  try simp only [Act.put, List.setIfInBounds_toArray, List.set_cons_zero, List.set_cons_succ]
  refine wpAnyH_take (i := 15) (v := ?_) (by simp only [List.getElem?_toArray, List.getElem?_cons_succ, List.getElem?_cons_zero]; rfl) (by kernel_rfl) (by kernel_rfl) (by kernel_rfl) (fun _ _ _ h => h) (Or.inl ⟨by rfl, ?_⟩) (by assumption) ?_
  rotate_left
  · intro w hSw; (try dsimp only at hSw); go_simp; try with_reducible rfl
  try simp only [Act.put, List.setIfInBounds_toArray, List.set_cons_zero, List.set_cons_succ]
  refine wpAnyH_take (i := 16) (v := ?_) (by simp only [List.getElem?_toArray, List.getElem?_cons_succ, List.getElem?_cons_zero]; rfl) (by kernel_rfl) (by kernel_rfl) (by kernel_rfl) (fun _ _ _ h => h) (Or.inl ⟨by rfl, ?_⟩) (by assumption) ?_
  rotate_left
  · intro w hSw; (try dsimp only at hSw); go_simp; try with_reducible rfl
  try simp only [Act.put, List.setIfInBounds_toArray, List.set_cons_zero, List.set_cons_succ]
  refine wpAnyH_take (i := 18) (v := ?_) (by simp only [List.getElem?_toArray, List.getElem?_cons_succ, List.getElem?_cons_zero]; rfl) (by kernel_rfl) (by kernel_rfl) (by kernel_rfl) (fun _ _ _ h => h) (Or.inl ⟨by rfl, ?_⟩) (by assumption) ?_
  rotate_left
  · intro w hSw; (try dsimp only at hSw); go_simp; try with_reducible rfl
  try simp only [Act.put, List.setIfInBounds_toArray, List.set_cons_zero, List.set_cons_succ]
  refine wpAnyH_take (i := 19) (v := ?_) (by simp only [List.getElem?_toArray, List.getElem?_cons_succ, List.getElem?_cons_zero]; rfl) (by kernel_rfl) (by kernel_rfl) (by kernel_rfl) (fun _ _ _ h => h) (Or.inl ⟨by rfl, ?_⟩) (by assumption) ?_
  rotate_left
  · intro w hSw; (try dsimp only at hSw); go_simp; try with_reducible rfl
  try simp only [Act.put, List.setIfInBounds_toArray, List.set_cons_zero, List.set_cons_succ]
  refine wpAnyH_take (i := 22) (v := ?_) (by simp only [List.getElem?_toArray, List.getElem?_cons_succ, List.getElem?_cons_zero]; rfl) (by kernel_rfl) (by kernel_rfl) (by kernel_rfl) (fun _ _ _ h => h) (Or.inl ⟨by rfl, ?_⟩) (by assumption) ?_
  rotate_left
  · intro w hSw; (try dsimp only at hSw); go_simp; try with_reducible rfl
  try simp only [Act.put, List.setIfInBounds_toArray, List.set_cons_zero, List.set_cons_succ]
  refine wpAnyH_take (i := 5) (v := ?_) (by simp only [List.getElem?_toArray, List.getElem?_cons_succ, List.getElem?_cons_zero]; rfl) (by kernel_rfl) (by kernel_rfl) (by kernel_rfl) (fun _ _ _ h => h) (Or.inl ⟨by rfl, ?_⟩) (by assumption) ?_
  rotate_left
  · intro w hSw; (try dsimp only at hSw); go_simp; try with_reducible rfl
  try simp only [Act.put, List.setIfInBounds_toArray, List.set_cons_zero, List.set_cons_succ]
  refine wpAnyH_take (i := 8) (v := ?_) (by simp only [List.getElem?_toArray, List.getElem?_cons_succ, List.getElem?_cons_zero]; rfl) (by kernel_rfl) (by kernel_rfl) (by kernel_rfl) (fun _ _ _ h => h) (Or.inl ⟨by rfl, ?_⟩) (by assumption) ?_
  rotate_left
  · intro w hSw; (try dsimp only at hSw); go_simp; try with_reducible rfl
  try simp only [Act.put, List.setIfInBounds_toArray, List.set_cons_zero, List.set_cons_succ]
  refine wpAnyH_take (i := 11) (v := ?_) (by simp only [List.getElem?_toArray, List.getElem?_cons_succ, List.getElem?_cons_zero]; rfl) (by kernel_rfl) (by kernel_rfl) (by kernel_rfl) (fun _ _ _ h => h) (Or.inl ⟨by rfl, ?_⟩) (by assumption) ?_
  rotate_left
  · intro w hSw; (try dsimp only at hSw); go_simp; try with_reducible rfl
  try simp only [Act.put, List.setIfInBounds_toArray, List.set_cons_zero, List.set_cons_succ]
  refine wpAnyH_take (i := 17) (v := ?_) (by simp only [List.getElem?_toArray, List.getElem?_cons_succ, List.getElem?_cons_zero]; rfl) (by kernel_rfl) (by kernel_rfl) (by kernel_rfl) (fun _ _ _ h => h) (Or.inl ⟨by rfl, ?_⟩) (by assumption) ?_
  rotate_left
  · intro w hSw; (try dsimp only at hSw); go_simp; try with_reducible rfl
  try simp only [Act.put, List.setIfInBounds_toArray, List.set_cons_zero, List.set_cons_succ]
  refine wpAnyH_take (i := 20) (v := ?_) (by simp only [List.getElem?_toArray, List.getElem?_cons_succ, List.getElem?_cons_zero]; rfl) (by kernel_rfl) (by kernel_rfl) (by kernel_rfl) (fun _ _ _ h => h) (Or.inl ⟨by rfl, ?_⟩) (by assumption) ?_
  rotate_left
  · intro w hSw; (try dsimp only at hSw); go_simp; try with_reducible rfl
  try simp only [Act.put, List.setIfInBounds_toArray, List.set_cons_zero, List.set_cons_succ]
  refine wpAnyH_take (i := 23) (v := ?_) (by simp only [List.getElem?_toArray, List.getElem?_cons_succ, List.getElem?_cons_zero]; rfl) (by kernel_rfl) (by kernel_rfl) (by kernel_rfl) (fun _ _ _ h => h) (Or.inl ⟨by rfl, ?_⟩) (by assumption) ?_
  rotate_left
  · intro w hSw; (try dsimp only at hSw); go_simp; try with_reducible rfl
  try simp only [Act.put, List.setIfInBounds_toArray, List.set_cons_zero, List.set_cons_succ]
  refine wpAnyH_ready (rs := [9]) (by kernel_rfl) (by simp) ?_
  refine AllReadyH.cons rfl (fun K hK => ?_) AllReadyH.nil
  have hOld := hHeld; clear hHeld
  go_simp
  (go_at_call 24; (with_reducible refine (mvCall (b := b) (w0 := w) (by (repeat (first | with_reducible assumption | with_reducible exact Mv.refl (by assumption) (by assumption) | with_reducible apply Mv.alloc | with_reducible apply Mv.drew | with_reducible apply Mv.drewN | ((with_reducible apply Mv.setCell); rotate_left; (first | (dsimp only; omega) | omega | (simp; omega)); (first | (dsimp only; omega) | omega | (simp; omega))) | ((with_reducible apply Mv.below); rotate_left; (with_reducible assumption)) | ((with_reducible apply Mv.trans); rotate_left; (with_reducible assumption))))) (kL1 _ _)).mono ?_); rintro e w1 ⟨rfl, hM, HM⟩)
  (try go_wp2_with (fail))
  refine hK.out _ _ ⟨(by first | exact mv_cell hM (by first | (dsimp only; omega) | (simp; omega)) hOld.1 | exact cell_later hM hOld.1 | exact HT.cb | exact HT.cc | (simp (maxDischargeDepth := 6) [go_sem, *]; done)), (by first | exact mv_cell hM (by first | (dsimp only; omega) | (simp; omega)) hOld.2.1 | exact cell_later hM hOld.2.1 | exact HT.cb | exact HT.cc | (simp (maxDischargeDepth := 6) [go_sem, *]; done)), (by first | exact mv_cell hM (by first | (dsimp only; omega) | (simp; omega)) hOld.2.2.1 | exact cell_later hM hOld.2.2.1 | exact HT.cb | exact HT.cc | (simp (maxDischargeDepth := 6) [go_sem, *]; done)), (by first | exact mv_cell hM (by first | (dsimp only; omega) | (simp; omega)) hOld.2.2.2.1 | exact cell_later hM hOld.2.2.2.1 | exact HT.cb | exact HT.cc | (simp (maxDischargeDepth := 6) [go_sem, *]; done)), (by first | exact mv_cell hM (by first | (dsimp only; omega) | (simp; omega)) hOld.2.2.2.2.1 | exact cell_later hM hOld.2.2.2.2.1 | exact HT.cb | exact HT.cc | (simp (maxDischargeDepth := 6) [go_sem, *]; done)), (by first | exact mv_cell hM (by first | (dsimp only; omega) | (simp; omega)) hOld.2.2.2.2.2 | exact cell_later hM hOld.2.2.2.2.2 | exact HT.cb | exact HT.cc | (simp (maxDischargeDepth := 6) [go_sem, *]; done))⟩ (fun hHeld => ?_)
  clear hK K hOld
  try simp only [Act.put, List.setIfInBounds_toArray, List.set_cons_zero, List.set_cons_succ]
  (first | have A := Bk.mv hM (by omega) A | have A := Bk.mv hM (by omega) (Bk.drew A) | have A := Bk.mv hM (by omega) (Bk.drew (Bk.alloc A _))); (first | have B := Bk.mv hM (by omega) B | have B := Bk.mv hM (by omega) (Bk.drew B) | have B := Bk.mv hM (by omega) (Bk.drew (Bk.alloc B _))); (first | have R := Bk.mv hM (by omega) R | have R := Bk.mv hM (by omega) (Bk.drew R) | have R := Bk.mv hM (by omega) (Bk.drew (Bk.alloc R _))); (first | have T := Bk.mv hM (by omega) T | have T := Bk.mv hM (by omega) (Bk.drew T) | have T := Bk.mv hM (by omega) (Bk.drew (Bk.alloc T _))); (first | have U := Bk.mv hM (by omega) U | have U := Bk.mv hM (by omega) (Bk.drew U) | have U := Bk.mv hM (by omega) (Bk.drew (Bk.alloc U _)))
  refine wpAnyH_ready (rs := [12]) (by kernel_rfl) (by simp) ?_
  refine AllReadyH.cons rfl (fun K hK => ?_) AllReadyH.nil
  have hOld := hHeld; clear hHeld
  go_simp
  (go_at_call 34; (with_reducible refine (mvCall (b := b) (w0 := w) (by (repeat (first | with_reducible assumption | with_reducible exact Mv.refl (by assumption) (by assumption) | with_reducible apply Mv.alloc | with_reducible apply Mv.drew | with_reducible apply Mv.drewN | ((with_reducible apply Mv.setCell); rotate_left; (first | (dsimp only; omega) | omega | (simp; omega)); (first | (dsimp only; omega) | omega | (simp; omega))) | ((with_reducible apply Mv.below); rotate_left; (with_reducible assumption)) | ((with_reducible apply Mv.trans); rotate_left; (with_reducible assumption))))) (kM1 _ _)).mono ?_); rintro e w1 ⟨rfl, hM, HM⟩)
  (try go_wp2_with (fail))
  refine hK.out _ _ ⟨(by first | exact mv_cell hM (by first | (dsimp only; omega) | (simp; omega)) hOld.1 | exact cell_later hM hOld.1 | exact HT.cb | exact HT.cc | (simp (maxDischargeDepth := 6) [go_sem, *]; done)), (by first | exact mv_cell hM (by first | (dsimp only; omega) | (simp; omega)) hOld.2.1 | exact cell_later hM hOld.2.1 | exact HT.cb | exact HT.cc | (simp (maxDischargeDepth := 6) [go_sem, *]; done)), (by first | exact mv_cell hM (by first | (dsimp only; omega) | (simp; omega)) hOld.2.2.1 | exact cell_later hM hOld.2.2.1 | exact HT.cb | exact HT.cc | (simp (maxDischargeDepth := 6) [go_sem, *]; done)), (by first | exact mv_cell hM (by first | (dsimp only; omega) | (simp; omega)) hOld.2.2.2.1 | exact cell_later hM hOld.2.2.2.1 | exact HT.cb | exact HT.cc | (simp (maxDischargeDepth := 6) [go_sem, *]; done)), (by first | exact mv_cell hM (by first | (dsimp only; omega) | (simp; omega)) hOld.2.2.2.2.1 | exact cell_later hM hOld.2.2.2.2.1 | exact HT.cb | exact HT.cc | (simp (maxDischargeDepth := 6) [go_sem, *]; done)), (by first | exact mv_cell hM (by first | (dsimp only; omega) | (simp; omega)) hOld.2.2.2.2.2 | exact cell_later hM hOld.2.2.2.2.2 | exact HT.cb | exact HT.cc | (simp (maxDischargeDepth := 6) [go_sem, *]; done))⟩ (fun hHeld => ?_)
  clear hK K hOld
  try simp only [Act.put, List.setIfInBounds_toArray, List.set_cons_zero, List.set_cons_succ]
  (first | have A := Bk.mv hM (by omega) A | have A := Bk.mv hM (by omega) (Bk.drew A) | have A := Bk.mv hM (by omega) (Bk.drew (Bk.alloc A _))); (first | have B := Bk.mv hM (by omega) B | have B := Bk.mv hM (by omega) (Bk.drew B) | have B := Bk.mv hM (by omega) (Bk.drew (Bk.alloc B _))); (first | have R := Bk.mv hM (by omega) R | have R := Bk.mv hM (by omega) (Bk.drew R) | have R := Bk.mv hM (by omega) (Bk.drew (Bk.alloc R _))); (first | have T := Bk.mv hM (by omega) T | have T := Bk.mv hM (by omega) (Bk.drew T) | have T := Bk.mv hM (by omega) (Bk.drew (Bk.alloc T _))); (first | have U := Bk.mv hM (by omega) U | have U := Bk.mv hM (by omega) (Bk.drew U) | have U := Bk.mv hM (by omega) (Bk.drew (Bk.alloc U _)))
  refine wpAnyH_ready (rs := [21]) (by kernel_rfl) (by simp) ?_
  refine AllReadyH.cons rfl (fun K hK => ?_) AllReadyH.nil
  have hOld := hHeld; clear hHeld
  go_simp
  (go_at_call 24; (with_reducible refine (mvCall (b := b) (w0 := w) (by (repeat (first | with_reducible assumption | with_reducible exact Mv.refl (by assumption) (by assumption) | with_reducible apply Mv.alloc | with_reducible apply Mv.drew | with_reducible apply Mv.drewN | ((with_reducible apply Mv.setCell); rotate_left; (first | (dsimp only; omega) | omega | (simp; omega)); (first | (dsimp only; omega) | omega | (simp; omega))) | ((with_reducible apply Mv.below); rotate_left; (with_reducible assumption)) | ((with_reducible apply Mv.trans); rotate_left; (with_reducible assumption))))) (kL2 _ _)).mono ?_); rintro e w1 ⟨rfl, hM, HM⟩)
  (try go_wp2_with (fail))
  refine hK.out _ _ ⟨(by first | exact mv_cell hM (by first | (dsimp only; omega) | (simp; omega)) hOld.1 | exact cell_later hM hOld.1 | exact HT.cb | exact HT.cc | (simp (maxDischargeDepth := 6) [go_sem, *]; done)), (by first | exact mv_cell hM (by first | (dsimp only; omega) | (simp; omega)) hOld.2.1 | exact cell_later hM hOld.2.1 | exact HT.cb | exact HT.cc | (simp (maxDischargeDepth := 6) [go_sem, *]; done)), (by first | exact mv_cell hM (by first | (dsimp only; omega) | (simp; omega)) hOld.2.2.1 | exact cell_later hM hOld.2.2.1 | exact HT.cb | exact HT.cc | (simp (maxDischargeDepth := 6) [go_sem, *]; done)), (by first | exact mv_cell hM (by first | (dsimp only; omega) | (simp; omega)) hOld.2.2.2.1 | exact cell_later hM hOld.2.2.2.1 | exact HT.cb | exact HT.cc | (simp (maxDischargeDepth := 6) [go_sem, *]; done)), (by first | exact mv_cell hM (by first | (dsimp only; omega) | (simp; omega)) hOld.2.2.2.2.1 | exact cell_later hM hOld.2.2.2.2.1 | exact HT.cb | exact HT.cc | (simp (maxDischargeDepth := 6) [go_sem, *]; done)), (by first | exact mv_cell hM (by first | (dsimp only; omega) | (simp; omega)) hOld.2.2.2.2.2 | exact cell_later hM hOld.2.2.2.2.2 | exact HT.cb | exact HT.cc | (simp (maxDischargeDepth := 6) [go_sem, *]; done))⟩ (fun hHeld => ?_)
  clear hK K hOld
  try simp only [Act.put, List.setIfInBounds_toArray, List.set_cons_zero, List.set_cons_succ]
  (first | have A := Bk.mv hM (by omega) A | have A := Bk.mv hM (by omega) (Bk.drew A) | have A := Bk.mv hM (by omega) (Bk.drew (Bk.alloc A _))); (first | have B := Bk.mv hM (by omega) B | have B := Bk.mv hM (by omega) (Bk.drew B) | have B := Bk.mv hM (by omega) (Bk.drew (Bk.alloc B _))); (first | have R := Bk.mv hM (by omega) R | have R := Bk.mv hM (by omega) (Bk.drew R) | have R := Bk.mv hM (by omega) (Bk.drew (Bk.alloc R _))); (first | have T := Bk.mv hM (by omega) T | have T := Bk.mv hM (by omega) (Bk.drew T) | have T := Bk.mv hM (by omega) (Bk.drew (Bk.alloc T _))); (first | have U := Bk.mv hM (by omega) U | have U := Bk.mv hM (by omega) (Bk.drew U) | have U := Bk.mv hM (by omega) (Bk.drew (Bk.alloc U _)))
  refine wpAnyH_ready (rs := [24]) (by kernel_rfl) (by simp) ?_
  refine AllReadyH.cons rfl (fun K hK => ?_) AllReadyH.nil
  have hOld := hHeld; clear hHeld
  go_simp
  (go_at_call 34; (with_reducible refine (mvCall (b := b) (w0 := w) (by (repeat (first | with_reducible assumption | with_reducible exact Mv.refl (by assumption) (by assumption) | with_reducible apply Mv.alloc | with_reducible apply Mv.drew | with_reducible apply Mv.drewN | ((with_reducible apply Mv.setCell); rotate_left; (first | (dsimp only; omega) | omega | (simp; omega)); (first | (dsimp only; omega) | omega | (simp; omega))) | ((with_reducible apply Mv.below); rotate_left; (with_reducible assumption)) | ((with_reducible apply Mv.trans); rotate_left; (with_reducible assumption))))) (kM2 _ _)).mono ?_); rintro e w1 ⟨rfl, hM, HM⟩)
  (try go_wp2_with (fail))
  refine hK.out _ _ ⟨(by first | exact mv_cell hM (by first | (dsimp only; omega) | (simp; omega)) hOld.1 | exact cell_later hM hOld.1 | exact HT.cb | exact HT.cc | (simp (maxDischargeDepth := 6) [go_sem, *]; done)), (by first | exact mv_cell hM (by first | (dsimp only; omega) | (simp; omega)) hOld.2.1 | exact cell_later hM hOld.2.1 | exact HT.cb | exact HT.cc | (simp (maxDischargeDepth := 6) [go_sem, *]; done)), (by first | exact mv_cell hM (by first | (dsimp only; omega) | (simp; omega)) hOld.2.2.1 | exact cell_later hM hOld.2.2.1 | exact HT.cb | exact HT.cc | (simp (maxDischargeDepth := 6) [go_sem, *]; done)), (by first | exact mv_cell hM (by first | (dsimp only; omega) | (simp; omega)) hOld.2.2.2.1 | exact cell_later hM hOld.2.2.2.1 | exact HT.cb | exact HT.cc | (simp (maxDischargeDepth := 6) [go_sem, *]; done)), (by first | exact mv_cell hM (by first | (dsimp only; omega) | (simp; omega)) hOld.2.2.2.2.1 | exact cell_later hM hOld.2.2.2.2.1 | exact HT.cb | exact HT.cc | (simp (maxDischargeDepth := 6) [go_sem, *]; done)), (by first | exact mv_cell hM (by first | (dsimp only; omega) | (simp; omega)) hOld.2.2.2.2.2 | exact cell_later hM hOld.2.2.2.2.2 | exact HT.cb | exact HT.cc | (simp (maxDischargeDepth := 6) [go_sem, *]; done))⟩ (fun hHeld => ?_)
  clear hK K hOld
  try simp only [Act.put, List.setIfInBounds_toArray, List.set_cons_zero, List.set_cons_succ]
  (first | have A := Bk.mv hM (by omega) A | have A := Bk.mv hM (by omega) (Bk.drew A) | have A := Bk.mv hM (by omega) (Bk.drew (Bk.alloc A _))); (first | have B := Bk.mv hM (by omega) B | have B := Bk.mv hM (by omega) (Bk.drew B) | have B := Bk.mv hM (by omega) (Bk.drew (Bk.alloc B _))); (first | have R := Bk.mv hM (by omega) R | have R := Bk.mv hM (by omega) (Bk.drew R) | have R := Bk.mv hM (by omega) (Bk.drew (Bk.alloc R _))); (first | have T := Bk.mv hM (by omega) T | have T := Bk.mv hM (by omega) (Bk.drew T) | have T := Bk.mv hM (by omega) (Bk.drew (Bk.alloc T _))); (first | have U := Bk.mv hM (by omega) U | have U := Bk.mv hM (by omega) (Bk.drew U) | have U := Bk.mv hM (by omega) (Bk.drew (Bk.alloc U _)))
  refine wpAnyH_ready (rs := [25]) (by kernel_rfl) (by simp) ?_
  refine AllReadyH.cons rfl (fun K hK => ?_) AllReadyH.nil
  have hOld := hHeld; clear hHeld
  go_simp
  (go_at_call 27; (with_reducible refine (mvCall (b := b) (w0 := w) (by (repeat (first | with_reducible assumption | with_reducible exact Mv.refl (by assumption) (by assumption) | with_reducible apply Mv.alloc | with_reducible apply Mv.drew | with_reducible apply Mv.drewN | ((with_reducible apply Mv.setCell); rotate_left; (first | (dsimp only; omega) | omega | (simp; omega)); (first | (dsimp only; omega) | omega | (simp; omega))) | ((with_reducible apply Mv.below); rotate_left; (with_reducible assumption)) | ((with_reducible apply Mv.trans); rotate_left; (with_reducible assumption))))) (kC _ _)).mono ?_); rintro e w1 ⟨rfl, hM, HM⟩)
  (try go_wp2_with (fail))
  refine hK.out _ _ ⟨(by first | exact mv_cell hM (by first | (dsimp only; omega) | (simp; omega)) hOld.1 | exact cell_later hM hOld.1 | exact HT.cb | exact HT.cc | (simp (maxDischargeDepth := 6) [go_sem, *]; done)), (by first | exact mv_cell hM (by first | (dsimp only; omega) | (simp; omega)) hOld.2.1 | exact cell_later hM hOld.2.1 | exact HT.cb | exact HT.cc | (simp (maxDischargeDepth := 6) [go_sem, *]; done)), (by first | exact mv_cell hM (by first | (dsimp only; omega) | (simp; omega)) hOld.2.2.1 | exact cell_later hM hOld.2.2.1 | exact HT.cb | exact HT.cc | (simp (maxDischargeDepth := 6) [go_sem, *]; done)), (by first | exact mv_cell hM (by first | (dsimp only; omega) | (simp; omega)) hOld.2.2.2.1 | exact cell_later hM hOld.2.2.2.1 | exact HT.cb | exact HT.cc | (simp (maxDischargeDepth := 6) [go_sem, *]; done)), (by first | exact mv_cell hM (by first | (dsimp only; omega) | (simp; omega)) hOld.2.2.2.2.1 | exact cell_later hM hOld.2.2.2.2.1 | exact HT.cb | exact HT.cc | (simp (maxDischargeDepth := 6) [go_sem, *]; done)), (by first | exact mv_cell hM (by first | (dsimp only; omega) | (simp; omega)) hOld.2.2.2.2.2 | exact cell_later hM hOld.2.2.2.2.2 | exact HT.cb | exact HT.cc | (simp (maxDischargeDepth := 6) [go_sem, *]; done))⟩ (fun hHeld => ?_)
  clear hK K hOld
  try simp only [Act.put, List.setIfInBounds_toArray, List.set_cons_zero, List.set_cons_succ]
  (first | have A := Bk.mv hM (by omega) A | have A := Bk.mv hM (by omega) (Bk.drew A) | have A := Bk.mv hM (by omega) (Bk.drew (Bk.alloc A _))); (first | have B := Bk.mv hM (by omega) B | have B := Bk.mv hM (by omega) (Bk.drew B) | have B := Bk.mv hM (by omega) (Bk.drew (Bk.alloc B _))); (first | have R := Bk.mv hM (by omega) R | have R := Bk.mv hM (by omega) (Bk.drew R) | have R := Bk.mv hM (by omega) (Bk.drew (Bk.alloc R _))); (first | have T := Bk.mv hM (by omega) T | have T := Bk.mv hM (by omega) (Bk.drew T) | have T := Bk.mv hM (by omega) (Bk.drew (Bk.alloc T _))); (first | have U := Bk.mv hM (by omega) U | have U := Bk.mv hM (by omega) (Bk.drew U) | have U := Bk.mv hM (by omega) (Bk.drew (Bk.alloc U _)))
  refine wpAnyH_take (i := 26) (v := ?_) (by simp only [List.getElem?_toArray, List.getElem?_cons_succ, List.getElem?_cons_zero]; rfl) (by kernel_rfl) (by kernel_rfl) (by kernel_rfl) (fun _ _ _ h => h) (Or.inl ⟨by rfl, ?_⟩) (by assumption) ?_
  rotate_left
  · intro w hSw; (try dsimp only at hSw); go_simp; try with_reducible rfl
  try simp only [Act.put, List.setIfInBounds_toArray, List.set_cons_zero, List.set_cons_succ]
  refine wpAnyH_done (by kernel_rfl) ?_ _
  (try refine NoPanic.normal ?_)
  (try clear q0); (try clear q1); (try clear q2); (try clear q3); (try clear q4); (try clear q5); obtain ⟨q0, q1, q2, q3, q4, q5⟩ := hHeld
  rename World => wc
  have hwc := World.block_lt_of_cell? wc _ U.1
  dsimp only at hwc
  clear C_A C_B C_U kM1 kM2 kC kL1 kL2 hM
  have C_A := A; simp only [Bk] at C_A
  have C_B := B; simp only [Bk] at C_B
  have C_R := R; simp only [Bk] at C_R
  have C_T := T; simp only [Bk] at C_T
  obtain ⟨ov, hov⟩ : ∃ v, (o || !f0 || !f1 || !f3 || !f2 || !f4 || !f5) = v := ⟨_, rfl⟩
  rw [hov] at HM
  have HOV := Lib.hid hov
  clear hov
  by_cases hgo : (t && decide (0 < c)) = true
  · have E1 : Hid (_ ∧ _) := Lib.hid (by have h := HRV.out; rw [if_pos hgo, hgo, Bool.true_and] at h; exact h)
    rw [Bool.and_eq_true, decide_eq_true_eq] at hgo
    obtain ⟨rfl, hc0⟩ := hgo
    clear HRV
    go_upto_region 7 with (fail)
    have kD1 := fun O W => rFAdd 4294967296 bo b O W (by decide) (by decide) (by omega) (by omega)
    have t0 := sat_lo (4294967296 + bo); have t1 := sat_hi (4294967296 + bo)
    have kD2 := fun O W => rMl c (sat (4294967296 + bo)) b O W c0 c1 t0 t1
    have kD3 := fun O W => rFAdd m1 m2 b O W (by omega) (by omega) (by omega) (by omega)
    have e0 := ml_lo c (sat (4294967296 + bo)); have e1 := ml_hi c (sat (4294967296 + bo))
    have e2 := sat_lo (m1 + m2); have e3 := sat_hi (m1 + m2)
    have kD4 := fun O W => rDiv (ml c (sat (4294967296 + bo))) (sat (m1 + m2)) b O W e0 e1 e2 e3
    have s0 := fq_lo (ml c (sat (4294967296 + bo))) (sat (m1 + m2))
    have E2 : bshok c bo m1 m2 = (fx (4294967296 + bo) && mlok c (sat (4294967296 + bo)) && fx (m1 + m2) && fqok (ml c (sat (4294967296 + bo))) (sat (m1 + m2))) := rfl
    have E3 : bsh c bo m1 m2 = fq (ml c (sat (4294967296 + bo))) (sat (m1 + m2)) := rfl
    generalize bshok c bo m1 m2 = hs at *
    generalize bsh c bo m1 m2 = sh at *
    rw [← E3] at s0 kD4
    clear E3
    generalize fqok (ml c (sat (4294967296 + bo))) (sat (m1 + m2)) = i4 at *
    generalize ml c (sat (4294967296 + bo)) = pm at *
    generalize mlok c (sat (4294967296 + bo)) = i2 at *
    generalize sat (4294967296 + bo) = pb at *
    generalize fx (4294967296 + bo) = i1 at *
    generalize sat (m1 + m2) = pms at *
    generalize fx (m1 + m2) = i3 at *
    have HE2 := Lib.hid E2
    clear E2 e0 e1 e2 e3 t0 t1
    (try refine wp_region_noPanic ?_)
    refine wp_region_held_drew (S := (fun (w' : World) => w'.cell? ⟨w.heap.size, 5, none⟩ = some (.int .i64 m1) ∧ w'.cell? ⟨w.heap.size + 1, 5, none⟩ = some (.int .i64 m2))) (by kernel_rfl) ⟨(by first | (simp (maxDischargeDepth := 6) [go_sem, *]; done)), (by first | (simp (maxDischargeDepth := 6) [go_sem, *]; done))⟩ (fun hHeld => ?_)
    refine wpAnyH_take (i := 0) (v := ?_) (by simp only [List.getElem?_toArray, List.getElem?_cons_succ, List.getElem?_cons_zero]; rfl) (by kernel_rfl) (by kernel_rfl) (by kernel_rfl) (fun _ _ _ h => h) (Or.inl ⟨by rfl, ?_⟩) (by assumption) ?_
    rotate_left
    · intro w hSw; (try dsimp only at hSw); go_simp; try with_reducible rfl
    try simp only [Act.put, List.setIfInBounds_toArray, List.set_cons_zero, List.set_cons_succ]
    refine wpAnyH_take (i := 1) (v := ?_) (by simp only [List.getElem?_toArray, List.getElem?_cons_succ, List.getElem?_cons_zero]; rfl) (by kernel_rfl) (by kernel_rfl) (by kernel_rfl) (fun _ _ _ h => h) (Or.inl ⟨by rfl, ?_⟩) (by assumption) ?_
    rotate_left
    · intro w hSw; (try dsimp only at hSw); go_simp; try with_reducible rfl
    try simp only [Act.put, List.setIfInBounds_toArray, List.set_cons_zero, List.set_cons_succ]
    refine wpAnyH_take (i := 2) (v := ?_) (by simp only [List.getElem?_toArray, List.getElem?_cons_succ, List.getElem?_cons_zero]; rfl) (by kernel_rfl) (by kernel_rfl) (by kernel_rfl) (fun _ _ _ h => h) (Or.inl ⟨by rfl, ?_⟩) (by assumption) ?_
    rotate_left
    · intro w hSw; (try dsimp only at hSw); go_simp; try with_reducible rfl
    try simp only [Act.put, List.setIfInBounds_toArray, List.set_cons_zero, List.set_cons_succ]
    refine wpAnyH_take (i := 3) (v := ?_) (by simp only [List.getElem?_toArray, List.getElem?_cons_succ, List.getElem?_cons_zero]; rfl) (by kernel_rfl) (by kernel_rfl) (by kernel_rfl) (fun _ _ _ h => h) (Or.inl ⟨by rfl, ?_⟩) (by assumption) ?_
    rotate_left
    · intro w hSw; (try dsimp only at hSw); go_simp; try with_reducible rfl
    try simp only [Act.put, List.setIfInBounds_toArray, List.set_cons_zero, List.set_cons_succ]
    refine wpAnyH_take (i := 4) (v := ?_) (by simp only [List.getElem?_toArray, List.getElem?_cons_succ, List.getElem?_cons_zero]; rfl) (by kernel_rfl) (by kernel_rfl) (by kernel_rfl) (fun _ _ _ h => h) (Or.inl ⟨by rfl, ?_⟩) (by assumption) ?_
    rotate_left
    · intro w hSw; (try dsimp only at hSw); go_simp; try with_reducible rfl
    try simp only [Act.put, List.setIfInBounds_toArray, List.set_cons_zero, List.set_cons_succ]
    refine wpAnyH_take (i := 7) (v := ?_) (by simp only [List.getElem?_toArray, List.getElem?_cons_succ, List.getElem?_cons_zero]; rfl) (by kernel_rfl) (by kernel_rfl) (by kernel_rfl) (fun _ _ _ h => h) (Or.inl ⟨by rfl, ?_⟩) (by assumption) ?_
    rotate_left
    · intro w hSw; (try dsimp only at hSw); go_simp; try with_reducible rfl
    try simp only [Act.put, List.setIfInBounds_toArray, List.set_cons_zero, List.set_cons_succ]
    refine wpAnyH_take (i := 8) (v := ?_) (by simp only [List.getElem?_toArray, List.getElem?_cons_succ, List.getElem?_cons_zero]; rfl) (by kernel_rfl) (by kernel_rfl) (by kernel_rfl) (fun _ _ _ h => h) (Or.inl ⟨by rfl, ?_⟩) (by assumption) ?_
    rotate_left
    · intro w hSw; (try dsimp only at hSw); go_simp; try with_reducible rfl
    try simp only [Act.put, List.setIfInBounds_toArray, List.set_cons_zero, List.set_cons_succ]
    refine wpAnyH_take (i := 10) (v := ?_) (by simp only [List.getElem?_toArray, List.getElem?_cons_succ, List.getElem?_cons_zero]; rfl) (by kernel_rfl) (by kernel_rfl) (by kernel_rfl) (fun _ _ _ h => h) (Or.inl ⟨by rfl, ?_⟩) (by assumption) ?_
    rotate_left
    · intro w hSw; (try dsimp only at hSw); go_simp; try with_reducible rfl
    try simp only [Act.put, List.setIfInBounds_toArray, List.set_cons_zero, List.set_cons_succ]
    refine wpAnyH_take (i := 9) (v := ?_) (by simp only [List.getElem?_toArray, List.getElem?_cons_succ, List.getElem?_cons_zero]; rfl) (by kernel_rfl) (by kernel_rfl) (by kernel_rfl) (fun _ _ _ h => h) (Or.inl ⟨by rfl, ?_⟩) (by assumption) ?_
    rotate_left
    · intro w hSw; (try dsimp only at hSw); go_simp; try with_reducible rfl
    try simp only [Act.put, List.setIfInBounds_toArray, List.set_cons_zero, List.set_cons_succ]
    refine wpAnyH_take (i := 11) (v := ?_) (by simp only [List.getElem?_toArray, List.getElem?_cons_succ, List.getElem?_cons_zero]; rfl) (by kernel_rfl) (by kernel_rfl) (by kernel_rfl) (fun _ _ _ h => h) (Or.inl ⟨by rfl, ?_⟩) (by assumption) ?_
    rotate_left
    · intro w hSw; (try dsimp only at hSw); go_simp; try with_reducible rfl
    try simp only [Act.put, List.setIfInBounds_toArray, List.set_cons_zero, List.set_cons_succ]
    refine wpAnyH_ready (rs := [5]) (by kernel_rfl) (by simp) ?_
    refine AllReadyH.cons rfl (fun K hK => ?_) AllReadyH.nil
    have hOld := hHeld; clear hHeld
    go_simp
    (go_at_call 27; (with_reducible refine (mvCall (b := b) (w0 := w) (by (repeat (first | with_reducible assumption | with_reducible exact Mv.refl (by assumption) (by assumption) | with_reducible apply Mv.alloc | with_reducible apply Mv.drew | with_reducible apply Mv.drewN | ((with_reducible apply Mv.setCell); rotate_left; (first | (dsimp only; omega) | omega | (simp; omega)); (first | (dsimp only; omega) | omega | (simp; omega))) | ((with_reducible apply Mv.below); rotate_left; (with_reducible assumption)) | ((with_reducible apply Mv.trans); rotate_left; (with_reducible assumption))))) (kD1 _ _)).mono ?_); rintro e w1 ⟨rfl, hM, HM⟩)
    (try go_wp2_with (fail))
    refine hK.out _ _ ⟨(by first | exact mv_cell hM (by first | (dsimp only; omega) | (simp; omega)) hOld.1 | exact cell_later hM hOld.1 | exact HT.cb | exact HT.cc | (simp (maxDischargeDepth := 6) [go_sem, *]; done)), (by first | exact mv_cell hM (by first | (dsimp only; omega) | (simp; omega)) hOld.2 | exact cell_later hM hOld.2 | exact HT.cb | exact HT.cc | (simp (maxDischargeDepth := 6) [go_sem, *]; done))⟩ (fun hHeld => ?_)
    clear hK K hOld
    try simp only [Act.put, List.setIfInBounds_toArray, List.set_cons_zero, List.set_cons_succ]
    (first | have A := Bk.mv hM (by omega) A | have A := Bk.mv hM (by omega) (Bk.drew A) | have A := Bk.mv hM (by omega) (Bk.drew (Bk.alloc A _))); (first | have B := Bk.mv hM (by omega) B | have B := Bk.mv hM (by omega) (Bk.drew B) | have B := Bk.mv hM (by omega) (Bk.drew (Bk.alloc B _))); (first | have R := Bk.mv hM (by omega) R | have R := Bk.mv hM (by omega) (Bk.drew R) | have R := Bk.mv hM (by omega) (Bk.drew (Bk.alloc R _))); (first | have T := Bk.mv hM (by omega) T | have T := Bk.mv hM (by omega) (Bk.drew T) | have T := Bk.mv hM (by omega) (Bk.drew (Bk.alloc T _))); (first | have U := Bk.mv hM (by omega) U | have U := Bk.mv hM (by omega) (Bk.drew U) | have U := Bk.mv hM (by omega) (Bk.drew (Bk.alloc U _)))
    refine wpAnyH_ready (rs := [6]) (by kernel_rfl) (by simp) ?_
    refine AllReadyH.cons rfl (fun K hK => ?_) AllReadyH.nil
    have hOld := hHeld; clear hHeld
    go_simp
    (go_at_call 34; (with_reducible refine (mvCall (b := b) (w0 := w) (by (repeat (first | with_reducible assumption | with_reducible exact Mv.refl (by assumption) (by assumption) | with_reducible apply Mv.alloc | with_reducible apply Mv.drew | with_reducible apply Mv.drewN | ((with_reducible apply Mv.setCell); rotate_left; (first | (dsimp only; omega) | omega | (simp; omega)); (first | (dsimp only; omega) | omega | (simp; omega))) | ((with_reducible apply Mv.below); rotate_left; (with_reducible assumption)) | ((with_reducible apply Mv.trans); rotate_left; (with_reducible assumption))))) (kD2 _ _)).mono ?_); rintro e w1 ⟨rfl, hM, HM⟩)
    (try go_wp2_with (fail))
    refine hK.out _ _ ⟨(by first | exact mv_cell hM (by first | (dsimp only; omega) | (simp; omega)) hOld.1 | exact cell_later hM hOld.1 | exact HT.cb | exact HT.cc | (simp (maxDischargeDepth := 6) [go_sem, *]; done)), (by first | exact mv_cell hM (by first | (dsimp only; omega) | (simp; omega)) hOld.2 | exact cell_later hM hOld.2 | exact HT.cb | exact HT.cc | (simp (maxDischargeDepth := 6) [go_sem, *]; done))⟩ (fun hHeld => ?_)
    clear hK K hOld
    try simp only [Act.put, List.setIfInBounds_toArray, List.set_cons_zero, List.set_cons_succ]
    (first | have A := Bk.mv hM (by omega) A | have A := Bk.mv hM (by omega) (Bk.drew A) | have A := Bk.mv hM (by omega) (Bk.drew (Bk.alloc A _))); (first | have B := Bk.mv hM (by omega) B | have B := Bk.mv hM (by omega) (Bk.drew B) | have B := Bk.mv hM (by omega) (Bk.drew (Bk.alloc B _))); (first | have R := Bk.mv hM (by omega) R | have R := Bk.mv hM (by omega) (Bk.drew R) | have R := Bk.mv hM (by omega) (Bk.drew (Bk.alloc R _))); (first | have T := Bk.mv hM (by omega) T | have T := Bk.mv hM (by omega) (Bk.drew T) | have T := Bk.mv hM (by omega) (Bk.drew (Bk.alloc T _))); (first | have U := Bk.mv hM (by omega) U | have U := Bk.mv hM (by omega) (Bk.drew U) | have U := Bk.mv hM (by omega) (Bk.drew (Bk.alloc U _)))
    refine wpAnyH_ready (rs := [12]) (by kernel_rfl) (by simp) ?_
    refine AllReadyH.cons rfl (fun K hK => ?_) AllReadyH.nil
    have hOld := hHeld; clear hHeld
    go_simp
    (go_at_call 27; (with_reducible refine (mvCall (b := b) (w0 := w) (by (repeat (first | with_reducible assumption | with_reducible exact Mv.refl (by assumption) (by assumption) | with_reducible apply Mv.alloc | with_reducible apply Mv.drew | with_reducible apply Mv.drewN | ((with_reducible apply Mv.setCell); rotate_left; (first | (dsimp only; omega) | omega | (simp; omega)); (first | (dsimp only; omega) | omega | (simp; omega))) | ((with_reducible apply Mv.below); rotate_left; (with_reducible assumption)) | ((with_reducible apply Mv.trans); rotate_left; (with_reducible assumption))))) (kD3 _ _)).mono ?_); rintro e w1 ⟨rfl, hM, HM⟩)
    (try go_wp2_with (fail))
    refine hK.out _ _ ⟨(by first | exact mv_cell hM (by first | (dsimp only; omega) | (simp; omega)) hOld.1 | exact cell_later hM hOld.1 | exact HT.cb | exact HT.cc | (simp (maxDischargeDepth := 6) [go_sem, *]; done)), (by first | exact mv_cell hM (by first | (dsimp only; omega) | (simp; omega)) hOld.2 | exact cell_later hM hOld.2 | exact HT.cb | exact HT.cc | (simp (maxDischargeDepth := 6) [go_sem, *]; done))⟩ (fun hHeld => ?_)
    clear hK K hOld
    try simp only [Act.put, List.setIfInBounds_toArray, List.set_cons_zero, List.set_cons_succ]
    (first | have A := Bk.mv hM (by omega) A | have A := Bk.mv hM (by omega) (Bk.drew A) | have A := Bk.mv hM (by omega) (Bk.drew (Bk.alloc A _))); (first | have B := Bk.mv hM (by omega) B | have B := Bk.mv hM (by omega) (Bk.drew B) | have B := Bk.mv hM (by omega) (Bk.drew (Bk.alloc B _))); (first | have R := Bk.mv hM (by omega) R | have R := Bk.mv hM (by omega) (Bk.drew R) | have R := Bk.mv hM (by omega) (Bk.drew (Bk.alloc R _))); (first | have T := Bk.mv hM (by omega) T | have T := Bk.mv hM (by omega) (Bk.drew T) | have T := Bk.mv hM (by omega) (Bk.drew (Bk.alloc T _))); (first | have U := Bk.mv hM (by omega) U | have U := Bk.mv hM (by omega) (Bk.drew U) | have U := Bk.mv hM (by omega) (Bk.drew (Bk.alloc U _)))
    refine wpAnyH_ready (rs := [13]) (by kernel_rfl) (by simp) ?_
    refine AllReadyH.cons rfl (fun K hK => ?_) AllReadyH.nil
    have hOld := hHeld; clear hHeld
    go_simp
    (go_at_call 35; (with_reducible refine (mvCall (b := b) (w0 := w) (by (repeat (first | with_reducible assumption | with_reducible exact Mv.refl (by assumption) (by assumption) | with_reducible apply Mv.alloc | with_reducible apply Mv.drew | with_reducible apply Mv.drewN | ((with_reducible apply Mv.setCell); rotate_left; (first | (dsimp only; omega) | omega | (simp; omega)); (first | (dsimp only; omega) | omega | (simp; omega))) | ((with_reducible apply Mv.below); rotate_left; (with_reducible assumption)) | ((with_reducible apply Mv.trans); rotate_left; (with_reducible assumption))))) (kD4 _ _)).mono ?_); rintro e w1 ⟨rfl, hM, HM⟩)
    (try go_wp2_with (fail))
    refine hK.out _ _ ⟨(by first | exact mv_cell hM (by first | (dsimp only; omega) | (simp; omega)) hOld.1 | exact cell_later hM hOld.1 | exact HT.cb | exact HT.cc | (simp (maxDischargeDepth := 6) [go_sem, *]; done)), (by first | exact mv_cell hM (by first | (dsimp only; omega) | (simp; omega)) hOld.2 | exact cell_later hM hOld.2 | exact HT.cb | exact HT.cc | (simp (maxDischargeDepth := 6) [go_sem, *]; done))⟩ (fun hHeld => ?_)
    clear hK K hOld
    try simp only [Act.put, List.setIfInBounds_toArray, List.set_cons_zero, List.set_cons_succ]
    (first | have A := Bk.mv hM (by omega) A | have A := Bk.mv hM (by omega) (Bk.drew A) | have A := Bk.mv hM (by omega) (Bk.drew (Bk.alloc A _))); (first | have B := Bk.mv hM (by omega) B | have B := Bk.mv hM (by omega) (Bk.drew B) | have B := Bk.mv hM (by omega) (Bk.drew (Bk.alloc B _))); (first | have R := Bk.mv hM (by omega) R | have R := Bk.mv hM (by omega) (Bk.drew R) | have R := Bk.mv hM (by omega) (Bk.drew (Bk.alloc R _))); (first | have T := Bk.mv hM (by omega) T | have T := Bk.mv hM (by omega) (Bk.drew T) | have T := Bk.mv hM (by omega) (Bk.drew (Bk.alloc T _))); (first | have U := Bk.mv hM (by omega) U | have U := Bk.mv hM (by omega) (Bk.drew U) | have U := Bk.mv hM (by omega) (Bk.drew (Bk.alloc U _)))
    refine wpAnyH_take (i := 14) (v := ?_) (by simp only [List.getElem?_toArray, List.getElem?_cons_succ, List.getElem?_cons_zero]; rfl) (by kernel_rfl) (by kernel_rfl) (by kernel_rfl) (fun _ _ _ h => h) (Or.inl ⟨by rfl, ?_⟩) (by assumption) ?_
    rotate_left
    · intro w hSw; (try dsimp only at hSw); go_simp; try with_reducible rfl
    try simp only [Act.put, List.setIfInBounds_toArray, List.set_cons_zero, List.set_cons_succ]
    refine wpAnyH_done (by kernel_rfl) ?_ _
    (try refine NoPanic.normal ?_)
    (try clear q0); (try clear q1); obtain ⟨q0, q1⟩ := hHeld
    clear C_A C_B C_R C_T kD1 kD2 kD3 kD4 hM
    have C_A := A; simp only [Bk] at C_A
    have C_B := B; simp only [Bk] at C_B
    have kP := fun O W => rMl sh m2 b O W s0.1 s0.2 (by omega) (by omega)
    have kQ := fun O W => rMl sh m1 b O W s0.1 s0.2 (by omega) (by omega)
    have P0 := ml_lo sh m2; have P1 := ml_hi sh m2; have Q0 := ml_lo sh m1; have Q1 := ml_hi sh m1
    have E4 : turnok sh m1 m2 vx vy wx wy ux uy = ((mlok sh m2 && (mlok ux (ml sh m2) && fx (vx - ml ux (ml sh m2))) && (mlok uy (ml sh m2) && fx (vy - ml uy (ml sh m2)))) && (mlok sh m1 && (mlok ux (ml sh m1) && fx (wx + ml ux (ml sh m1))) && (mlok uy (ml sh m1) && fx (wy + ml uy (ml sh m1))))) := rfl
    rw [E4] at E1
    clear E4
    simp only [tn, ad, Bool.false_eq_true, if_false, if_true] at E1
    generalize mlok sh m2 = j1 at *
    generalize mlok sh m1 = j2 at *
    generalize ml sh m2 = P at *
    generalize ml sh m1 = Q at *
    go_wp2_with (fail)
    (go_at_call 34; (with_reducible refine (mvCall (b := b) (w0 := w) (by (repeat (first | with_reducible assumption | with_reducible exact Mv.refl (by assumption) (by assumption) | with_reducible apply Mv.alloc | with_reducible apply Mv.drew | with_reducible apply Mv.drewN | ((with_reducible apply Mv.setCell); rotate_left; (first | (dsimp only; omega) | omega | (simp; omega)); (first | (dsimp only; omega) | omega | (simp; omega))) | ((with_reducible apply Mv.below); rotate_left; (with_reducible assumption)) | ((with_reducible apply Mv.trans); rotate_left; (with_reducible assumption))))) (kP _ _)).mono ?_); rintro e9 w1 ⟨rfl, hM, HM⟩; (first | have A := Bk.mv hM (by omega) A | have A := Bk.mv hM (by omega) (Bk.drew A) | have A := Bk.mv hM (by omega) (Bk.alloc A _) | have A := Bk.mv hM (by omega) (Bk.alloc (Bk.alloc A _) _)); have C_A := A; simp only [Bk] at C_A; (first | have B := Bk.mv hM (by omega) B | have B := Bk.mv hM (by omega) (Bk.drew B) | have B := Bk.mv hM (by omega) (Bk.alloc B _) | have B := Bk.mv hM (by omega) (Bk.alloc (Bk.alloc B _) _)); have C_B := B; simp only [Bk] at C_B; (first | have R := Bk.mv hM (by omega) R | have R := Bk.mv hM (by omega) (Bk.drew R) | have R := Bk.mv hM (by omega) (Bk.alloc R _) | have R := Bk.mv hM (by omega) (Bk.alloc (Bk.alloc R _) _)); have C_R := R; simp only [Bk] at C_R; (first | have T := Bk.mv hM (by omega) T | have T := Bk.mv hM (by omega) (Bk.drew T) | have T := Bk.mv hM (by omega) (Bk.alloc T _) | have T := Bk.mv hM (by omega) (Bk.alloc (Bk.alloc T _) _)); have C_T := T; simp only [Bk] at C_T; (first | have U := Bk.mv hM (by omega) U | have U := Bk.mv hM (by omega) (Bk.drew U) | have U := Bk.mv hM (by omega) (Bk.alloc U _) | have U := Bk.mv hM (by omega) (Bk.alloc (Bk.alloc U _) _)); have C_U := U; simp only [Bk] at C_U)
    clear hM kP
    go_wp2_with (fail)
    (go_at_call 34; (with_reducible refine (mvCall (b := b) (w0 := w) (by (repeat (first | with_reducible assumption | with_reducible exact Mv.refl (by assumption) (by assumption) | with_reducible apply Mv.alloc | with_reducible apply Mv.drew | with_reducible apply Mv.drewN | ((with_reducible apply Mv.setCell); rotate_left; (first | (dsimp only; omega) | omega | (simp; omega)); (first | (dsimp only; omega) | omega | (simp; omega))) | ((with_reducible apply Mv.below); rotate_left; (with_reducible assumption)) | ((with_reducible apply Mv.trans); rotate_left; (with_reducible assumption))))) (kQ _ _)).mono ?_); rintro e9 w1 ⟨rfl, hM, HM⟩; (first | have A := Bk.mv hM (by omega) A | have A := Bk.mv hM (by omega) (Bk.drew A) | have A := Bk.mv hM (by omega) (Bk.alloc A _) | have A := Bk.mv hM (by omega) (Bk.alloc (Bk.alloc A _) _)); have C_A := A; simp only [Bk] at C_A; (first | have B := Bk.mv hM (by omega) B | have B := Bk.mv hM (by omega) (Bk.drew B) | have B := Bk.mv hM (by omega) (Bk.alloc B _) | have B := Bk.mv hM (by omega) (Bk.alloc (Bk.alloc B _) _)); have C_B := B; simp only [Bk] at C_B; (first | have R := Bk.mv hM (by omega) R | have R := Bk.mv hM (by omega) (Bk.drew R) | have R := Bk.mv hM (by omega) (Bk.alloc R _) | have R := Bk.mv hM (by omega) (Bk.alloc (Bk.alloc R _) _)); have C_R := R; simp only [Bk] at C_R; (first | have T := Bk.mv hM (by omega) T | have T := Bk.mv hM (by omega) (Bk.drew T) | have T := Bk.mv hM (by omega) (Bk.alloc T _) | have T := Bk.mv hM (by omega) (Bk.alloc (Bk.alloc T _) _)); have C_T := T; simp only [Bk] at C_T; (first | have U := Bk.mv hM (by omega) U | have U := Bk.mv hM (by omega) (Bk.drew U) | have U := Bk.mv hM (by omega) (Bk.alloc U _) | have U := Bk.mv hM (by omega) (Bk.alloc (Bk.alloc U _) _)); have C_U := U; simp only [Bk] at C_U)
    clear hM kQ
    go_upto_region 10 with (fail)
    rename World => wd
    have hwd := World.block_lt_of_cell? wd _ U.1
    dsimp only at hwd
    clear C_A C_B C_U C_R C_T
    obtain ⟨ov2, hov2⟩ : ∃ v, (ov || !i1 || !i2 || !i3 || !i4 || !j1 || !j2) = v := ⟨_, rfl⟩
    rw [hov2] at HM
    have HOV2 := Lib.hid hov2
    clear hov2
    have kX1 := fun O W => rMl ux P b O W u0 u1 P0 P1
    have kX3 := fun O W => rMl uy P b O W u2 u3 P0 P1
    have n0 := ml_lo ux P; have n1 := ml_hi ux P; have o0 := ml_lo uy P; have o1 := ml_hi uy P
    generalize mlok ux P = h1X at *
    generalize mlok uy P = h3X at *
    generalize ml ux P = q1X at *
    generalize ml uy P = q3X at *
    have kX2 := fun O W => rFSub vx q1X b O W (by omega) (by omega) n0 n1
    have kX4 := fun O W => rFSub vy q3X b O W (by omega) (by omega) o0 o1
    generalize fx (vx - q1X) = h2X at *
    generalize fx (vy - q3X) = h4X at *
    generalize sat (vx - q1X) = q2X at *
    generalize sat (vy - q3X) = q4X at *
    have kX5 := fun O W => r9LimitM q2X q4X b O W
    generalize clm q2X (-549755813888) 549755813888 = r1X at *
    generalize clm q4X (-549755813888) 549755813888 = r2X at *
    clear n0 n1 o0 o1
    (try simp only [List.cons_append, List.nil_append])
    (try refine wp_region_noPanic ?_)
    refine wp_region_held_drew (S := (fun (w' : World) => Bk w.heap.size 0 [.int .i64 ax, .int .i64 ay, .int .i64 vx, .int .i64 vy, .int .i64 s1, .int .i64 m1] w' ∧ Bk wa.heap.size 0 [.int .i64 ux, .int .i64 uy] w')) (by kernel_rfl) ⟨by (repeat (first | with_reducible assumption | with_reducible apply Bk.drew | with_reducible apply Bk.alloc | with_reducible apply Bk.later (hB := hR) | with_reducible apply Bk.later (hB := hM) | ((with_reducible apply Bk.mv hM); (focus omega)) | ((with_reducible apply Bk.later); rotate_left; (with_reducible assumption)) | ((with_reducible apply Bk.put); rotate_left; (first | (dsimp only; omega))))), by (repeat (first | with_reducible assumption | with_reducible apply Bk.drew | with_reducible apply Bk.alloc | with_reducible apply Bk.later (hB := hR) | with_reducible apply Bk.later (hB := hM) | ((with_reducible apply Bk.mv hM); (focus omega)) | ((with_reducible apply Bk.later); rotate_left; (with_reducible assumption)) | ((with_reducible apply Bk.put); rotate_left; (first | (dsimp only; omega)))))⟩ (fun hHeld => ?_)
    refine wpAnyH_take (i := 0) (v := ?_) (by simp only [List.getElem?_toArray, List.getElem?_cons_succ, List.getElem?_cons_zero]; rfl) (by kernel_rfl) (by kernel_rfl) (by kernel_rfl) (fun _ _ _ h => h) (Or.inl ⟨by rfl, ?_⟩) (by assumption) ?_
    rotate_left
    · intro w hSw; (try dsimp only at hSw); simp only [Bk] at hSw; go_simp; try with_reducible rfl
    (try simp only [Act.put, List.setIfInBounds_toArray]); (try dsimp only [List.set_cons_zero, List.set_cons_succ])
    refine wpAnyH_take (i := 1) (v := ?_) (by simp only [List.getElem?_toArray, List.getElem?_cons_succ, List.getElem?_cons_zero]; rfl) (by kernel_rfl) (by kernel_rfl) (by kernel_rfl) (fun _ _ _ h => h) (Or.inl ⟨by rfl, ?_⟩) (by assumption) ?_
    rotate_left
    · intro w hSw; (try dsimp only at hSw); simp only [Bk] at hSw; go_simp; try with_reducible rfl
    (try simp only [Act.put, List.setIfInBounds_toArray]); (try dsimp only [List.set_cons_zero, List.set_cons_succ])
    refine wpAnyH_take (i := 2) (v := ?_) (by simp only [List.getElem?_toArray, List.getElem?_cons_succ, List.getElem?_cons_zero]; rfl) (by kernel_rfl) (by kernel_rfl) (by kernel_rfl) (fun _ _ _ h => h) (Or.inl ⟨by rfl, ?_⟩) (by assumption) ?_
    rotate_left
    · intro w hSw; (try dsimp only at hSw); simp only [Bk] at hSw; go_simp; try with_reducible rfl
    (try simp only [Act.put, List.setIfInBounds_toArray]); (try dsimp only [List.set_cons_zero, List.set_cons_succ])
    refine wpAnyH_take (i := 3) (v := ?_) (by simp only [List.getElem?_toArray, List.getElem?_cons_succ, List.getElem?_cons_zero]; rfl) (by kernel_rfl) (by kernel_rfl) (by kernel_rfl) (fun _ _ _ h => h) (Or.inl ⟨by rfl, ?_⟩) (by assumption) ?_
    rotate_left
    · intro w hSw; (try dsimp only at hSw); simp only [Bk] at hSw; go_simp; try with_reducible rfl
    (try simp only [Act.put, List.setIfInBounds_toArray]); (try dsimp only [List.set_cons_zero, List.set_cons_succ])
    refine wpAnyH_take (i := 4) (v := ?_) (by simp only [List.getElem?_toArray, List.getElem?_cons_succ, List.getElem?_cons_zero]; rfl) (by kernel_rfl) (by kernel_rfl) (by kernel_rfl) (fun _ _ _ h => h) (Or.inl ⟨by rfl, ?_⟩) (by assumption) ?_
    rotate_left
    · intro w hSw; (try dsimp only at hSw); simp only [Bk] at hSw; go_simp; try with_reducible rfl
    (try simp only [Act.put, List.setIfInBounds_toArray]); (try dsimp only [List.set_cons_zero, List.set_cons_succ])
    refine wpAnyH_take (i := 5) (v := ?_) (by simp only [List.getElem?_toArray, List.getElem?_cons_succ, List.getElem?_cons_zero]; rfl) (by kernel_rfl) (by kernel_rfl) (by kernel_rfl) (fun _ _ _ h => h) (Or.inl ⟨by rfl, ?_⟩) (by assumption) ?_
    rotate_left
    · intro w hSw; (try dsimp only at hSw); simp only [Bk] at hSw; go_simp; try with_reducible rfl
    (try simp only [Act.put, List.setIfInBounds_toArray]); (try dsimp only [List.set_cons_zero, List.set_cons_succ])
    refine wpAnyH_take (i := 6) (v := ?_) (by simp only [List.getElem?_toArray, List.getElem?_cons_succ, List.getElem?_cons_zero]; rfl) (by kernel_rfl) (by kernel_rfl) (by kernel_rfl) (fun _ _ _ h => h) (Or.inl ⟨by rfl, ?_⟩) (by assumption) ?_
    rotate_left
    · intro w hSw; (try dsimp only at hSw); simp only [Bk] at hSw; go_simp; try with_reducible rfl
    (try simp only [Act.put, List.setIfInBounds_toArray]); (try dsimp only [List.set_cons_zero, List.set_cons_succ])
    refine wpAnyH_take (i := 7) (v := ?_) (by simp only [List.getElem?_toArray, List.getElem?_cons_succ, List.getElem?_cons_zero]; rfl) (by kernel_rfl) (by kernel_rfl) (by kernel_rfl) (fun _ _ _ h => h) (Or.inl ⟨by rfl, ?_⟩) (by assumption) ?_
    rotate_left
    · intro w hSw; (try dsimp only at hSw); simp only [Bk] at hSw; go_simp; try with_reducible rfl
    (try simp only [Act.put, List.setIfInBounds_toArray]); (try dsimp only [List.set_cons_zero, List.set_cons_succ])
    refine wpAnyH_take (i := 10) (v := ?_) (by simp only [List.getElem?_toArray, List.getElem?_cons_succ, List.getElem?_cons_zero]; rfl) (by kernel_rfl) (by kernel_rfl) (by kernel_rfl) (fun _ _ _ h => h) (Or.inl ⟨by rfl, ?_⟩) (by assumption) ?_
    rotate_left
    · intro w hSw; (try dsimp only at hSw); simp only [Bk] at hSw; go_simp; try with_reducible rfl
    (try simp only [Act.put, List.setIfInBounds_toArray]); (try dsimp only [List.set_cons_zero, List.set_cons_succ])
    refine wpAnyH_take (i := 11) (v := ?_) (by simp only [List.getElem?_toArray, List.getElem?_cons_succ, List.getElem?_cons_zero]; rfl) (by kernel_rfl) (by kernel_rfl) (by kernel_rfl) (fun _ _ _ h => h) (Or.inl ⟨by rfl, ?_⟩) (by assumption) ?_
    rotate_left
    · intro w hSw; (try dsimp only at hSw); simp only [Bk] at hSw; go_simp; try with_reducible rfl
    (try simp only [Act.put, List.setIfInBounds_toArray]); (try dsimp only [List.set_cons_zero, List.set_cons_succ])
    refine wpAnyH_take (i := 12) (v := ?_) (by simp only [List.getElem?_toArray, List.getElem?_cons_succ, List.getElem?_cons_zero]; rfl) (by kernel_rfl) (by kernel_rfl) (by kernel_rfl) (fun _ _ _ h => h) (Or.inl ⟨by rfl, ?_⟩) (by assumption) ?_
    rotate_left
    · intro w hSw; (try dsimp only at hSw); simp only [Bk] at hSw; go_simp; try with_reducible rfl
    (try simp only [Act.put, List.setIfInBounds_toArray]); (try dsimp only [List.set_cons_zero, List.set_cons_succ])
    refine wpAnyH_take (i := 13) (v := ?_) (by simp only [List.getElem?_toArray, List.getElem?_cons_succ, List.getElem?_cons_zero]; rfl) (by kernel_rfl) (by kernel_rfl) (by kernel_rfl) (fun _ _ _ h => h) (Or.inl ⟨by rfl, ?_⟩) (by assumption) ?_
    rotate_left
    · intro w hSw; (try dsimp only at hSw); simp only [Bk] at hSw; go_simp; try with_reducible rfl
    (try simp only [Act.put, List.setIfInBounds_toArray]); (try dsimp only [List.set_cons_zero, List.set_cons_succ])
    refine wpAnyH_take (i := 14) (v := ?_) (by simp only [List.getElem?_toArray, List.getElem?_cons_succ, List.getElem?_cons_zero]; rfl) (by kernel_rfl) (by kernel_rfl) (by kernel_rfl) (fun _ _ _ h => h) (Or.inl ⟨by rfl, ?_⟩) (by assumption) ?_
    rotate_left
    · intro w hSw; (try dsimp only at hSw); simp only [Bk] at hSw; go_simp; try with_reducible rfl
    (try simp only [Act.put, List.setIfInBounds_toArray]); (try dsimp only [List.set_cons_zero, List.set_cons_succ])
    refine wpAnyH_take (i := 15) (v := ?_) (by simp only [List.getElem?_toArray, List.getElem?_cons_succ, List.getElem?_cons_zero]; rfl) (by kernel_rfl) (by kernel_rfl) (by kernel_rfl) (fun _ _ _ h => h) (Or.inl ⟨by rfl, ?_⟩) (by assumption) ?_
    rotate_left
    · intro w hSw; (try dsimp only at hSw); simp only [Bk] at hSw; go_simp; try with_reducible rfl
    (try simp only [Act.put, List.setIfInBounds_toArray]); (try dsimp only [List.set_cons_zero, List.set_cons_succ])
    refine wpAnyH_take (i := 16) (v := ?_) (by simp only [List.getElem?_toArray, List.getElem?_cons_succ, List.getElem?_cons_zero]; rfl) (by kernel_rfl) (by kernel_rfl) (by kernel_rfl) (fun _ _ _ h => h) (Or.inl ⟨by rfl, ?_⟩) (by assumption) ?_
    rotate_left
    · intro w hSw; (try dsimp only at hSw); simp only [Bk] at hSw; go_simp; try with_reducible rfl
    (try simp only [Act.put, List.setIfInBounds_toArray]); (try dsimp only [List.set_cons_zero, List.set_cons_succ])
    refine wpAnyH_take (i := 17) (v := ?_) (by simp only [List.getElem?_toArray, List.getElem?_cons_succ, List.getElem?_cons_zero]; rfl) (by kernel_rfl) (by kernel_rfl) (by kernel_rfl) (fun _ _ _ h => h) (Or.inl ⟨by rfl, ?_⟩) (by assumption) ?_
    rotate_left
    · intro w hSw; (try dsimp only at hSw); simp only [Bk] at hSw; go_simp; try with_reducible rfl
    (try simp only [Act.put, List.setIfInBounds_toArray]); (try dsimp only [List.set_cons_zero, List.set_cons_succ])
    refine wpAnyH_listed (l' := #[true, true, true, true, true, true, true, true, false, false, true, true, true, true, true, true, true, true, false, false, false, false, false]) (by kernel_rfl) ?_
    refine wpAnyH_from [20, 21] (fun l0 a0 l a w' => ∃ (c0 c1 c2 c3 c4 b0 : Bool) (x0 x1 x2 x3 x4 y0 : Value), l = sets l0 [(8, c0), (9, c1), (18, c2), (19, c3), (20, c4), (21, b0)] ∧ a = puts a0 [(116, x0), (117, x1), (126, x2), (127, x3), (128, x4), (18, y0)] ∧ (c1 = true → c0 = true) ∧ (c2 = true → c1 = true) ∧ (c3 = true → c2 = true) ∧ (c4 = true → c3 = true) ∧ (c0 = true → x0 = .int .i64 q1X) ∧ (c1 = true → x1 = .int .i64 q2X) ∧ (c2 = true → x2 = .int .i64 q3X) ∧ (c3 = true → x3 = .int .i64 q4X) ∧ (c4 = true → x4 = .agg #[.int .i64 r1X, .int .i64 r2X]) ∧ (b0 = true → ∃ g : Nat, y0 = .pointer (some ⟨g, 0, none⟩) ∧ Bk g 0 [.int .i64 0, .int .i64 0] w' ∧ (wd).heap.size ≤ g) ∧ Bk w.heap.size 0 [.int .i64 ax, .int .i64 ay, .int .i64 vx, .int .i64 vy, .int .i64 s1, .int .i64 m1] w' ∧ Bk wa.heap.size 0 [.int .i64 ux, .int .i64 uy] w' ∧ Bk (w.heap.size + 1) 0 [.int .i64 bx, .int .i64 bY, .int .i64 wx, .int .i64 wy, .int .i64 s2, .int .i64 m2] w' ∧ Bk (w.heap.size + 1 + 1) 0 [.int .i64 0, .int .i64 0] w' ∧ Bk (w.heap.size + 1 + 1 + 1) 0 [.int .i64 0, .int .i64 0] w' ∧ (wd).heap.size ≤ w'.heap.size ∧ Mv b ((ov2) || (c0 && !(h1X)) || (c1 && !(h2X)) || (c2 && !(h3X)) || (c3 && !(h4X)) || (c4 && !(true))) w w') (by kernel_rfl) ?_ ?_ ?_ ?_ ?_ ?_
    rotate_left 4
    · exact of_decide_eq_true (by kernel_rfl)
    · exact ⟨false, false, false, false, false, false, undef, undef, undef, undef, undef, undef, by first | (simp only [sets, List.setIfInBounds_toArray, List.set_cons_zero, List.set_cons_succ]; done) | rfl, by first | (simp only [puts, Act.put, List.setIfInBounds_toArray, List.set_cons_zero, List.set_cons_succ]; done) | rfl, (fun h => by cases h), (fun h => by cases h), (fun h => by cases h), (fun h => by cases h), (fun h => by cases h), (fun h => by cases h), (fun h => by cases h), (fun h => by cases h), (fun h => by cases h), (fun h => by cases h), by (repeat (first | with_reducible assumption | with_reducible apply Bk.drew | with_reducible apply Bk.alloc | with_reducible apply Bk.later (hB := hR) | with_reducible apply Bk.later (hB := hM) | ((with_reducible apply Bk.mv hM); (focus omega)) | ((with_reducible apply Bk.later); rotate_left; (with_reducible assumption)) | ((with_reducible apply Bk.put); rotate_left; (first | (dsimp only; omega))))), by (repeat (first | with_reducible assumption | with_reducible apply Bk.drew | with_reducible apply Bk.alloc | with_reducible apply Bk.later (hB := hR) | with_reducible apply Bk.later (hB := hM) | ((with_reducible apply Bk.mv hM); (focus omega)) | ((with_reducible apply Bk.later); rotate_left; (with_reducible assumption)) | ((with_reducible apply Bk.put); rotate_left; (first | (dsimp only; omega))))), by (repeat (first | with_reducible assumption | with_reducible apply Bk.drew | with_reducible apply Bk.alloc | with_reducible apply Bk.later (hB := hR) | with_reducible apply Bk.later (hB := hM) | ((with_reducible apply Bk.mv hM); (focus omega)) | ((with_reducible apply Bk.later); rotate_left; (with_reducible assumption)) | ((with_reducible apply Bk.put); rotate_left; (first | (dsimp only; omega))))), by (repeat (first | with_reducible assumption | with_reducible apply Bk.drew | with_reducible apply Bk.alloc | with_reducible apply Bk.later (hB := hR) | with_reducible apply Bk.later (hB := hM) | ((with_reducible apply Bk.mv hM); (focus omega)) | ((with_reducible apply Bk.later); rotate_left; (with_reducible assumption)) | ((with_reducible apply Bk.put); rotate_left; (first | (dsimp only; omega))))), by (repeat (first | with_reducible assumption | with_reducible apply Bk.drew | with_reducible apply Bk.alloc | with_reducible apply Bk.later (hB := hR) | with_reducible apply Bk.later (hB := hM) | ((with_reducible apply Bk.mv hM); (focus omega)) | ((with_reducible apply Bk.later); rotate_left; (with_reducible assumption)) | ((with_reducible apply Bk.put); rotate_left; (first | (dsimp only; omega))))), by first | exact Nat.le_refl _ | (simp; done), Mv.cast (by (repeat (first | with_reducible assumption | with_reducible exact Mv.refl (by assumption) (by assumption) | with_reducible apply Mv.alloc | with_reducible apply Mv.drew | with_reducible apply Mv.drewN | ((with_reducible apply Mv.setCell); rotate_left; (first | (dsimp only; omega) | omega | (simp; omega)); (first | (dsimp only; omega) | omega | (simp; omega))) | ((with_reducible apply Mv.below); rotate_left; (with_reducible assumption)) | ((with_reducible apply Mv.trans); rotate_left; (with_reducible assumption))))) (by simp only [Bool.false_and, Bool.or_false])⟩
    · rintro l a w' ⟨c0, c1, c2, c3, c4, b0, x0, x1, x2, x3, x4, y0, rfl, rfl, k0, k1, k2, k3, v0, v1, v2, v3, v4, a0, B0, B1, D0, D1, D2, hz9, HM⟩; rw [sets_size]; kernel_rfl
    · rintro l a w' ⟨c0, c1, c2, c3, c4, b0, x0, x1, x2, x3, x4, y0, rfl, rfl, k0, k1, k2, k3, v0, v1, v2, v3, v4, a0, B0, B1, D0, D1, D2, hz9, HM⟩; exact ⟨B0, B1⟩
    · rintro l a w' ⟨c0, c1, c2, c3, c4, b0, x0, x1, x2, x3, x4, y0, rfl, rfl, k0, k1, k2, k3, v0, v1, v2, v3, v4, a0, B0, B1, D0, D1, D2, hz9, HM⟩ hf i hi hd
      have hcd := cand_of [(8, c0), (9, c1), (18, c2), (19, c3), (20, c4), (21, b0)] (cand := [8, 9, 18, 19, 20, 21, 22]) (by kernel_rfl) (by kernel_rfl) hi
      simp only [List.mem_cons, List.not_mem_nil, or_false] at hcd
      rcases hcd with rfl | rfl | rfl | rfl | rfl | rfl | rfl
      · have hi0 := hi
        simp only [sets, List.setIfInBounds_toArray, List.set_cons_zero, List.set_cons_succ, Array.getD_eq_getD_getElem?, List.getElem?_toArray, List.getElem?_cons_zero, List.getElem?_cons_succ, Option.getD_some] at hi
        subst hi
        clear hf hd hi0
        refine wpOp_shut rfl (fun K hK => ?_)
        simp only [puts, Act.put, List.setIfInBounds_toArray, List.set_cons_zero, List.set_cons_succ]
        have hbL := lt_of_cell HM.cell
        go_simp
        (go_at_call 34; (with_reducible refine (mvCall (b := b) (w0 := w) HM (kX1 _ _)).mono ?_); rintro e wr ⟨rfl, hR, HM⟩)
        have hzr := hR.size
        (try go_wp2_with (fail))
        exact hK.out _ _ ⟨true, c1, c2, c3, c4, b0, .int .i64 q1X, x1, x2, x3, x4, y0, by first | (simp only [sets, List.setIfInBounds_toArray, List.set_cons_zero, List.set_cons_succ]; done) | rfl, by first | (simp only [puts, Act.put, List.setIfInBounds_toArray, List.set_cons_zero, List.set_cons_succ]; done) | rfl, (fun _ => rfl), k1, k2, k3, (fun _ => rfl), v1, v2, v3, v4, (fun h => by obtain ⟨g, h1, h2, h3⟩ := a0 h; exact ⟨g, h1, Bk.mv hR (by omega) h2, h3⟩), Bk.mv hR (by omega) B0, Bk.mv hR (by omega) B1, Bk.mv hR (by omega) D0, Bk.mv hR (by omega) D1, Bk.mv hR (by omega) D2, (by omega), Mv.cast HM (by simp only [Bool.true_and, Bool.false_and, Bool.or_false, Bool.false_or, Bool.or_assoc, Bool.or_left_comm, Bool.or_comm])⟩
      · have hi0 := hi
        simp only [sets, List.setIfInBounds_toArray, List.set_cons_zero, List.set_cons_succ, Array.getD_eq_getD_getElem?, List.getElem?_toArray, List.getElem?_cons_zero, List.getElem?_cons_succ, Option.getD_some] at hi
        subst hi
        have hx := dep_of hd 8 (by kernel_rfl); simp only [sets, List.setIfInBounds_toArray, List.set_cons_zero, List.set_cons_succ, Array.getD_eq_getD_getElem?, List.getElem?_toArray, List.getElem?_cons_zero, List.getElem?_cons_succ, Option.getD_some] at hx; subst hx
        clear hf hd hi0
        refine wpOp_shut rfl (fun K hK => ?_)
        simp only [puts, Act.put, List.setIfInBounds_toArray, List.set_cons_zero, List.set_cons_succ]
        have hv0 := v0 rfl; subst hv0
        have hbL := lt_of_cell HM.cell
        go_simp
        (go_at_call 24; (with_reducible refine (mvCall (b := b) (w0 := w) HM (kX2 _ _)).mono ?_); rintro e wr ⟨rfl, hR, HM⟩)
        have hzr := hR.size
        (try go_wp2_with (fail))
        exact hK.out _ _ ⟨true, true, c2, c3, c4, b0, .int .i64 q1X, .int .i64 q2X, x2, x3, x4, y0, by first | (simp only [sets, List.setIfInBounds_toArray, List.set_cons_zero, List.set_cons_succ]; done) | rfl, by first | (simp only [puts, Act.put, List.setIfInBounds_toArray, List.set_cons_zero, List.set_cons_succ]; done) | rfl, (fun _ => rfl), (fun _ => rfl), k2, k3, (fun _ => rfl), (fun _ => rfl), v2, v3, v4, (fun h => by obtain ⟨g, h1, h2, h3⟩ := a0 h; exact ⟨g, h1, Bk.mv hR (by omega) h2, h3⟩), Bk.mv hR (by omega) B0, Bk.mv hR (by omega) B1, Bk.mv hR (by omega) D0, Bk.mv hR (by omega) D1, Bk.mv hR (by omega) D2, (by omega), Mv.cast HM (by simp only [Bool.true_and, Bool.false_and, Bool.or_false, Bool.false_or, Bool.or_assoc, Bool.or_left_comm, Bool.or_comm])⟩
      · have hi0 := hi
        simp only [sets, List.setIfInBounds_toArray, List.set_cons_zero, List.set_cons_succ, Array.getD_eq_getD_getElem?, List.getElem?_toArray, List.getElem?_cons_zero, List.getElem?_cons_succ, Option.getD_some] at hi
        subst hi
        have hx := dep_of hd 9 (by kernel_rfl); simp only [sets, List.setIfInBounds_toArray, List.set_cons_zero, List.set_cons_succ, Array.getD_eq_getD_getElem?, List.getElem?_toArray, List.getElem?_cons_zero, List.getElem?_cons_succ, Option.getD_some] at hx; subst hx
        clear hf hd hi0
        refine wpOp_shut rfl (fun K hK => ?_)
        have hk0 := k0 rfl; subst hk0
        simp only [puts, Act.put, List.setIfInBounds_toArray, List.set_cons_zero, List.set_cons_succ]
        have hv0 := v0 rfl; subst hv0
        have hv1 := v1 rfl; subst hv1
        have hbL := lt_of_cell HM.cell
        go_simp
        (go_at_call 34; (with_reducible refine (mvCall (b := b) (w0 := w) HM (kX3 _ _)).mono ?_); rintro e wr ⟨rfl, hR, HM⟩)
        have hzr := hR.size
        (try go_wp2_with (fail))
        exact hK.out _ _ ⟨true, true, true, c3, c4, b0, .int .i64 q1X, .int .i64 q2X, .int .i64 q3X, x3, x4, y0, by first | (simp only [sets, List.setIfInBounds_toArray, List.set_cons_zero, List.set_cons_succ]; done) | rfl, by first | (simp only [puts, Act.put, List.setIfInBounds_toArray, List.set_cons_zero, List.set_cons_succ]; done) | rfl, (fun _ => rfl), (fun _ => rfl), (fun _ => rfl), k3, (fun _ => rfl), (fun _ => rfl), (fun _ => rfl), v3, v4, (fun h => by obtain ⟨g, h1, h2, h3⟩ := a0 h; exact ⟨g, h1, Bk.mv hR (by omega) h2, h3⟩), Bk.mv hR (by omega) B0, Bk.mv hR (by omega) B1, Bk.mv hR (by omega) D0, Bk.mv hR (by omega) D1, Bk.mv hR (by omega) D2, (by omega), Mv.cast HM (by simp only [Bool.true_and, Bool.false_and, Bool.or_false, Bool.false_or, Bool.or_assoc, Bool.or_left_comm, Bool.or_comm])⟩
      · have hi0 := hi
        simp only [sets, List.setIfInBounds_toArray, List.set_cons_zero, List.set_cons_succ, Array.getD_eq_getD_getElem?, List.getElem?_toArray, List.getElem?_cons_zero, List.getElem?_cons_succ, Option.getD_some] at hi
        subst hi
        have hx := dep_of hd 18 (by kernel_rfl); simp only [sets, List.setIfInBounds_toArray, List.set_cons_zero, List.set_cons_succ, Array.getD_eq_getD_getElem?, List.getElem?_toArray, List.getElem?_cons_zero, List.getElem?_cons_succ, Option.getD_some] at hx; subst hx
        clear hf hd hi0
        refine wpOp_shut rfl (fun K hK => ?_)
        have hk1 := k1 rfl; subst hk1
        have hk0 := k0 rfl; subst hk0
        simp only [puts, Act.put, List.setIfInBounds_toArray, List.set_cons_zero, List.set_cons_succ]
        have hv0 := v0 rfl; subst hv0
        have hv1 := v1 rfl; subst hv1
        have hv2 := v2 rfl; subst hv2
        have hbL := lt_of_cell HM.cell
        go_simp
        (go_at_call 24; (with_reducible refine (mvCall (b := b) (w0 := w) HM (kX4 _ _)).mono ?_); rintro e wr ⟨rfl, hR, HM⟩)
        have hzr := hR.size
        (try go_wp2_with (fail))
        exact hK.out _ _ ⟨true, true, true, true, c4, b0, .int .i64 q1X, .int .i64 q2X, .int .i64 q3X, .int .i64 q4X, x4, y0, by first | (simp only [sets, List.setIfInBounds_toArray, List.set_cons_zero, List.set_cons_succ]; done) | rfl, by first | (simp only [puts, Act.put, List.setIfInBounds_toArray, List.set_cons_zero, List.set_cons_succ]; done) | rfl, (fun _ => rfl), (fun _ => rfl), (fun _ => rfl), (fun _ => rfl), (fun _ => rfl), (fun _ => rfl), (fun _ => rfl), (fun _ => rfl), v4, (fun h => by obtain ⟨g, h1, h2, h3⟩ := a0 h; exact ⟨g, h1, Bk.mv hR (by omega) h2, h3⟩), Bk.mv hR (by omega) B0, Bk.mv hR (by omega) B1, Bk.mv hR (by omega) D0, Bk.mv hR (by omega) D1, Bk.mv hR (by omega) D2, (by omega), Mv.cast HM (by simp only [Bool.true_and, Bool.false_and, Bool.or_false, Bool.false_or, Bool.or_assoc, Bool.or_left_comm, Bool.or_comm])⟩
      · have hi0 := hi
        simp only [sets, List.setIfInBounds_toArray, List.set_cons_zero, List.set_cons_succ, Array.getD_eq_getD_getElem?, List.getElem?_toArray, List.getElem?_cons_zero, List.getElem?_cons_succ, Option.getD_some] at hi
        subst hi
        have hx := dep_of hd 19 (by kernel_rfl); simp only [sets, List.setIfInBounds_toArray, List.set_cons_zero, List.set_cons_succ, Array.getD_eq_getD_getElem?, List.getElem?_toArray, List.getElem?_cons_zero, List.getElem?_cons_succ, Option.getD_some] at hx; subst hx
        clear hf hd hi0
        refine wpOp_shut rfl (fun K hK => ?_)
        have hk2 := k2 rfl; subst hk2
        have hk1 := k1 rfl; subst hk1
        have hk0 := k0 rfl; subst hk0
        simp only [puts, Act.put, List.setIfInBounds_toArray, List.set_cons_zero, List.set_cons_succ]
        have hv0 := v0 rfl; subst hv0
        have hv1 := v1 rfl; subst hv1
        have hv2 := v2 rfl; subst hv2
        have hv3 := v3 rfl; subst hv3
        have hbL := lt_of_cell HM.cell
        go_simp
        (go_at_call 36; (with_reducible refine (mvCall (b := b) (w0 := w) HM (kX5 _ _)).mono ?_); rintro e wr ⟨rfl, hR, HM⟩)
        have hzr := hR.size
        (try go_wp2_with (fail))
        exact hK.out _ _ ⟨true, true, true, true, true, b0, .int .i64 q1X, .int .i64 q2X, .int .i64 q3X, .int .i64 q4X, .agg #[.int .i64 r1X, .int .i64 r2X], y0, by first | (simp only [sets, List.setIfInBounds_toArray, List.set_cons_zero, List.set_cons_succ]; done) | rfl, by first | (simp only [puts, Act.put, List.setIfInBounds_toArray, List.set_cons_zero, List.set_cons_succ]; done) | rfl, (fun _ => rfl), (fun _ => rfl), (fun _ => rfl), (fun _ => rfl), (fun _ => rfl), (fun _ => rfl), (fun _ => rfl), (fun _ => rfl), (fun _ => rfl), (fun h => by obtain ⟨g, h1, h2, h3⟩ := a0 h; exact ⟨g, h1, Bk.mv hR (by omega) h2, h3⟩), Bk.mv hR (by omega) B0, Bk.mv hR (by omega) B1, Bk.mv hR (by omega) D0, Bk.mv hR (by omega) D1, Bk.mv hR (by omega) D2, (by omega), Mv.cast HM (by simp only [Bool.true_and, Bool.false_and, Bool.or_false, Bool.false_or, Bool.or_assoc, Bool.or_left_comm, Bool.or_comm])⟩
      · have hi0 := hi
        simp only [sets, List.setIfInBounds_toArray, List.set_cons_zero, List.set_cons_succ, Array.getD_eq_getD_getElem?, List.getElem?_toArray, List.getElem?_cons_zero, List.getElem?_cons_succ, Option.getD_some] at hi
        subst hi
        clear hf hd hi0
        refine wpOp_shut rfl (fun K hK => ?_)
        simp only [puts, Act.put, List.setIfInBounds_toArray, List.set_cons_zero, List.set_cons_succ]
        have hzn := hz9
        go_simp
        exact hK.out _ _ ⟨c0, c1, c2, c3, c4, true, x0, x1, x2, x3, x4, .pointer (some ⟨w'.heap.size, 0, none⟩), by first | (simp only [sets, List.setIfInBounds_toArray, List.set_cons_zero, List.set_cons_succ]; done) | rfl, by first | (simp only [puts, Act.put, List.setIfInBounds_toArray, List.set_cons_zero, List.set_cons_succ]; done) | rfl, k0, k1, k2, k3, v0, v1, v2, v3, v4, (fun _ => ⟨w'.heap.size, rfl, by simp [Bk, go_sem], hz9⟩), Bk.alloc B0 _, Bk.alloc B1 _, Bk.alloc D0 _, Bk.alloc D1 _, Bk.alloc D2 _, (by simp only [World.size_alloc]; omega), HM.alloc _⟩
      · have hi0 := hi
        have hx0 := dep_of hd 20 (by kernel_rfl); simp only [sets, List.setIfInBounds_toArray, List.set_cons_zero, List.set_cons_succ, Array.getD_eq_getD_getElem?, List.getElem?_toArray, List.getElem?_cons_zero, List.getElem?_cons_succ, Option.getD_some] at hx0; subst hx0
        have hx1 := dep_of hd 21 (by kernel_rfl); simp only [sets, List.setIfInBounds_toArray, List.set_cons_zero, List.set_cons_succ, Array.getD_eq_getD_getElem?, List.getElem?_toArray, List.getElem?_cons_zero, List.getElem?_cons_succ, Option.getD_some] at hx1; subst hx1
        obtain ⟨q, hq, hf⟩ := hf; simp only [List.mem_cons, List.not_mem_nil, or_false] at hq
        rcases hq with rfl | rfl <;> simp only [sets, List.setIfInBounds_toArray, List.set_cons_zero, List.set_cons_succ, Array.getD_eq_getD_getElem?, List.getElem?_toArray, List.getElem?_cons_zero, List.getElem?_cons_succ, Option.getD_some] at hf <;> cases hf
    rintro l a w' n ⟨c0, c1, c2, c3, c4, b0, x0, x1, x2, x3, x4, y0, rfl, rfl, k0, k1, k2, k3, v0, v1, v2, v3, v4, a0, B0, B1, D0, D1, D2, hz9, HM⟩ hf hu
    have hf0 := hf 20 (by simp); simp only [sets, List.setIfInBounds_toArray, List.set_cons_zero, List.set_cons_succ, Array.getD_eq_getD_getElem?, List.getElem?_toArray, List.getElem?_cons_zero, List.getElem?_cons_succ, Option.getD_some] at hf0; subst hf0
    have hf1 := hf 21 (by simp); simp only [sets, List.setIfInBounds_toArray, List.set_cons_zero, List.set_cons_succ, Array.getD_eq_getD_getElem?, List.getElem?_toArray, List.getElem?_cons_zero, List.getElem?_cons_succ, Option.getD_some] at hf1; subst hf1
    have hk3 := k3 rfl; subst hk3
    have hk2 := k2 rfl; subst hk2
    have hk1 := k1 rfl; subst hk1
    have hk0 := k0 rfl; subst hk0
    have hv0 := v0 rfl; subst hv0
    have hv1 := v1 rfl; subst hv1
    have hv2 := v2 rfl; subst hv2
    have hv3 := v3 rfl; subst hv3
    have hv4 := v4 rfl; subst hv4
    obtain ⟨g0, rfl, G0, L0⟩ := a0 rfl
    have hbL := lt_of_cell HM.cell
    have N0 : g0 ≠ b := by omega
    obtain ⟨n, rfl⟩ : ∃ q, n = q + 1 := ⟨n - 1, by have hu2 := Nat.le_trans (by (simp only [sets, List.setIfInBounds_toArray, List.set_cons_zero, List.set_cons_succ]); exact of_decide_eq_true (by kernel_rfl) : 1 ≤ _) hu; omega⟩
    simp only [sets, puts, Act.put, List.setIfInBounds_toArray, List.set_cons_zero, List.set_cons_succ]
    clear hu k0 k1 k2 k3 v0 v1 v2 v3 v4
    have hHeld : (fun (w' : World) => Bk w.heap.size 0 [.int .i64 ax, .int .i64 ay, .int .i64 vx, .int .i64 vy, .int .i64 s1, .int .i64 m1] w' ∧ Bk wa.heap.size 0 [.int .i64 ux, .int .i64 uy] w') w' := ⟨B0, B1⟩
    have C_B0 := B0; simp only [Bk] at C_B0
    have C_B1 := B1; simp only [Bk] at C_B1
    have C_D0 := D0; simp only [Bk] at C_D0
    have C_D1 := D1; simp only [Bk] at C_D1
    have C_D2 := D2; simp only [Bk] at C_D2
    have C_G0 := G0; simp only [Bk] at C_G0
    have hOld := hHeld; clear hHeld
    refine wpAnyH_ready (rs := [22]) (by kernel_rfl) (by simp) (AllReadyH.cons rfl (fun K hK => ?_) AllReadyH.nil)
    go_simp
    refine hK.out _ _ ⟨by (repeat (first | with_reducible assumption | with_reducible apply Bk.drew | with_reducible apply Bk.alloc | with_reducible apply Bk.later (hB := hR) | with_reducible apply Bk.later (hB := hM) | ((with_reducible apply Bk.mv hM); (focus omega)) | ((with_reducible apply Bk.later); rotate_left; (with_reducible assumption)) | ((with_reducible apply Bk.put); rotate_left; (first | (dsimp only; omega))))), by (repeat (first | with_reducible assumption | with_reducible apply Bk.drew | with_reducible apply Bk.alloc | with_reducible apply Bk.later (hB := hR) | with_reducible apply Bk.later (hB := hM) | ((with_reducible apply Bk.mv hM); (focus omega)) | ((with_reducible apply Bk.later); rotate_left; (with_reducible assumption)) | ((with_reducible apply Bk.put); rotate_left; (first | (dsimp only; omega)))))⟩ (fun hHeld => ?_)
    clear hK K hOld
    (try simp only [Act.put, List.setIfInBounds_toArray]); (try dsimp only [List.set_cons_zero, List.set_cons_succ])
    refine wpAnyH_done (by kernel_rfl) ?_ _
    (try refine NoPanic.normal ?_)
    obtain ⟨ov3, hov3⟩ : ∃ v, (ov2 || (true && !h1X) || (true && !h2X) || (true && !h3X) || (true && !h4X) || (true && !true)) = v := ⟨_, rfl⟩
    rw [hov3] at HM
    have HOV3 := Lib.hid hov3
    clear hov3 kX1 kX2 kX3 kX4 kX5
    clear a0
    generalize g0 = gx at *
    go_upto_region 11 with (fail)
    generalize hW2 : World.setCell _ _ _ = W2
    have A : Bk (w.heap.size) 0 [.int .i64 ax, .int .i64 ay, .int .i64 vx, .int .i64 vy, .int .i64 s1, .int .i64 m1] W2 := by rw [← hW2]; (repeat (first | with_reducible assumption | with_reducible apply Bk.drew | with_reducible apply Bk.alloc | with_reducible apply Bk.later (hB := hR) | with_reducible apply Bk.later (hB := hM) | ((with_reducible apply Bk.mv hM); (focus omega)) | ((with_reducible apply Bk.later); rotate_left; (with_reducible assumption)) | ((with_reducible apply Bk.put); rotate_left; (first | (dsimp only; omega)))))
    have B : Bk (w.heap.size + 1) 0 [.int .i64 bx, .int .i64 bY, .int .i64 wx, .int .i64 wy, .int .i64 s2, .int .i64 m2] W2 := by rw [← hW2]; (repeat (first | with_reducible assumption | with_reducible apply Bk.drew | with_reducible apply Bk.alloc | with_reducible apply Bk.later (hB := hR) | with_reducible apply Bk.later (hB := hM) | ((with_reducible apply Bk.mv hM); (focus omega)) | ((with_reducible apply Bk.later); rotate_left; (with_reducible assumption)) | ((with_reducible apply Bk.put); rotate_left; (first | (dsimp only; omega)))))
    have R : Bk (w.heap.size + 1 + 1) 0 [.int .i64 0, .int .i64 0] W2 := by rw [← hW2]; (repeat (first | with_reducible assumption | with_reducible apply Bk.drew | with_reducible apply Bk.alloc | with_reducible apply Bk.later (hB := hR) | with_reducible apply Bk.later (hB := hM) | ((with_reducible apply Bk.mv hM); (focus omega)) | ((with_reducible apply Bk.later); rotate_left; (with_reducible assumption)) | ((with_reducible apply Bk.put); rotate_left; (first | (dsimp only; omega)))))
    have T : Bk (w.heap.size + 1 + 1 + 1) 0 [.int .i64 0, .int .i64 0] W2 := by rw [← hW2]; (repeat (first | with_reducible assumption | with_reducible apply Bk.drew | with_reducible apply Bk.alloc | with_reducible apply Bk.later (hB := hR) | with_reducible apply Bk.later (hB := hM) | ((with_reducible apply Bk.mv hM); (focus omega)) | ((with_reducible apply Bk.later); rotate_left; (with_reducible assumption)) | ((with_reducible apply Bk.put); rotate_left; (first | (dsimp only; omega)))))
    have U : Bk wa.heap.size 0 [.int .i64 ux, .int .i64 uy] W2 := by rw [← hW2]; (repeat (first | with_reducible assumption | with_reducible apply Bk.drew | with_reducible apply Bk.alloc | with_reducible apply Bk.later (hB := hR) | with_reducible apply Bk.later (hB := hM) | ((with_reducible apply Bk.mv hM); (focus omega)) | ((with_reducible apply Bk.later); rotate_left; (with_reducible assumption)) | ((with_reducible apply Bk.put); rotate_left; (first | (dsimp only; omega)))))
    have SX : Bk gx 0 [.int .i64 r1X, .int .i64 r2X] W2 := by rw [← hW2]; clear hW2; simp [Bk, go_sem, *]
    have HM : Mv b ov3 w W2 := by rw [← hW2]; (repeat (first | with_reducible assumption | with_reducible exact Mv.refl (by assumption) (by assumption) | with_reducible apply Mv.alloc | with_reducible apply Mv.drew | with_reducible apply Mv.drewN | ((with_reducible apply Mv.setCell); rotate_left; (first | (dsimp only; omega) | omega | (simp; omega)); (first | (dsimp only; omega) | omega | (simp; omega))) | ((with_reducible apply Mv.below); rotate_left; (with_reducible assumption)) | ((with_reducible apply Mv.trans); rotate_left; (with_reducible assumption))))
    have hgx : wd.heap.size ≤ gx := by assumption
    have hW9 := World.block_lt_of_cell? W2 _ SX.1
    dsimp only at hW9
    clear hW2
    clear hHeld
    have kX1 := fun O W => rMl ux Q b O W u0 u1 Q0 Q1
    have kX3 := fun O W => rMl uy Q b O W u2 u3 Q0 Q1
    have n0 := ml_lo ux Q; have n1 := ml_hi ux Q; have o0 := ml_lo uy Q; have o1 := ml_hi uy Q
    generalize mlok ux Q = h1Y at *
    generalize mlok uy Q = h3Y at *
    generalize ml ux Q = q1Y at *
    generalize ml uy Q = q3Y at *
    have kX2 := fun O W => rFAdd wx q1Y b O W (by omega) (by omega) n0 n1
    have kX4 := fun O W => rFAdd wy q3Y b O W (by omega) (by omega) o0 o1
    generalize fx (wx + q1Y) = h2Y at *
    generalize fx (wy + q3Y) = h4Y at *
    generalize sat (wx + q1Y) = q2Y at *
    generalize sat (wy + q3Y) = q4Y at *
    have kX5 := fun O W => r9LimitM q2Y q4Y b O W
    generalize clm q2Y (-549755813888) 549755813888 = r1Y at *
    generalize clm q4Y (-549755813888) 549755813888 = r2Y at *
    clear n0 n1 o0 o1
    (try simp only [List.cons_append, List.nil_append])
    (try refine wp_region_noPanic ?_)
    refine wp_region_held_drew (S := (fun (w' : World) => Bk (w.heap.size + 1) 0 [.int .i64 bx, .int .i64 bY, .int .i64 wx, .int .i64 wy, .int .i64 s2, .int .i64 m2] w' ∧ Bk wa.heap.size 0 [.int .i64 ux, .int .i64 uy] w')) (by kernel_rfl) ⟨by (repeat (first | with_reducible assumption | with_reducible apply Bk.drew | with_reducible apply Bk.alloc | with_reducible apply Bk.later (hB := hR) | with_reducible apply Bk.later (hB := hM) | ((with_reducible apply Bk.mv hM); (focus omega)) | ((with_reducible apply Bk.later); rotate_left; (with_reducible assumption)) | ((with_reducible apply Bk.put); rotate_left; (first | (dsimp only; omega))))), by (repeat (first | with_reducible assumption | with_reducible apply Bk.drew | with_reducible apply Bk.alloc | with_reducible apply Bk.later (hB := hR) | with_reducible apply Bk.later (hB := hM) | ((with_reducible apply Bk.mv hM); (focus omega)) | ((with_reducible apply Bk.later); rotate_left; (with_reducible assumption)) | ((with_reducible apply Bk.put); rotate_left; (first | (dsimp only; omega)))))⟩ (fun hHeld => ?_)
    refine wpAnyH_take (i := 0) (v := ?_) (by simp only [List.getElem?_toArray, List.getElem?_cons_succ, List.getElem?_cons_zero]; rfl) (by kernel_rfl) (by kernel_rfl) (by kernel_rfl) (fun _ _ _ h => h) (Or.inl ⟨by rfl, ?_⟩) (by assumption) ?_
    rotate_left
    · intro w hSw; (try dsimp only at hSw); simp only [Bk] at hSw; go_simp; try with_reducible rfl
    (try simp only [Act.put, List.setIfInBounds_toArray]); (try dsimp only [List.set_cons_zero, List.set_cons_succ])
    refine wpAnyH_take (i := 1) (v := ?_) (by simp only [List.getElem?_toArray, List.getElem?_cons_succ, List.getElem?_cons_zero]; rfl) (by kernel_rfl) (by kernel_rfl) (by kernel_rfl) (fun _ _ _ h => h) (Or.inl ⟨by rfl, ?_⟩) (by assumption) ?_
    rotate_left
    · intro w hSw; (try dsimp only at hSw); simp only [Bk] at hSw; go_simp; try with_reducible rfl
    (try simp only [Act.put, List.setIfInBounds_toArray]); (try dsimp only [List.set_cons_zero, List.set_cons_succ])
    refine wpAnyH_take (i := 2) (v := ?_) (by simp only [List.getElem?_toArray, List.getElem?_cons_succ, List.getElem?_cons_zero]; rfl) (by kernel_rfl) (by kernel_rfl) (by kernel_rfl) (fun _ _ _ h => h) (Or.inl ⟨by rfl, ?_⟩) (by assumption) ?_
    rotate_left
    · intro w hSw; (try dsimp only at hSw); simp only [Bk] at hSw; go_simp; try with_reducible rfl
    (try simp only [Act.put, List.setIfInBounds_toArray]); (try dsimp only [List.set_cons_zero, List.set_cons_succ])
    refine wpAnyH_take (i := 3) (v := ?_) (by simp only [List.getElem?_toArray, List.getElem?_cons_succ, List.getElem?_cons_zero]; rfl) (by kernel_rfl) (by kernel_rfl) (by kernel_rfl) (fun _ _ _ h => h) (Or.inl ⟨by rfl, ?_⟩) (by assumption) ?_
    rotate_left
    · intro w hSw; (try dsimp only at hSw); simp only [Bk] at hSw; go_simp; try with_reducible rfl
    (try simp only [Act.put, List.setIfInBounds_toArray]); (try dsimp only [List.set_cons_zero, List.set_cons_succ])
    refine wpAnyH_take (i := 4) (v := ?_) (by simp only [List.getElem?_toArray, List.getElem?_cons_succ, List.getElem?_cons_zero]; rfl) (by kernel_rfl) (by kernel_rfl) (by kernel_rfl) (fun _ _ _ h => h) (Or.inl ⟨by rfl, ?_⟩) (by assumption) ?_
    rotate_left
    · intro w hSw; (try dsimp only at hSw); simp only [Bk] at hSw; go_simp; try with_reducible rfl
    (try simp only [Act.put, List.setIfInBounds_toArray]); (try dsimp only [List.set_cons_zero, List.set_cons_succ])
    refine wpAnyH_take (i := 5) (v := ?_) (by simp only [List.getElem?_toArray, List.getElem?_cons_succ, List.getElem?_cons_zero]; rfl) (by kernel_rfl) (by kernel_rfl) (by kernel_rfl) (fun _ _ _ h => h) (Or.inl ⟨by rfl, ?_⟩) (by assumption) ?_
    rotate_left
    · intro w hSw; (try dsimp only at hSw); simp only [Bk] at hSw; go_simp; try with_reducible rfl
    (try simp only [Act.put, List.setIfInBounds_toArray]); (try dsimp only [List.set_cons_zero, List.set_cons_succ])
    refine wpAnyH_take (i := 6) (v := ?_) (by simp only [List.getElem?_toArray, List.getElem?_cons_succ, List.getElem?_cons_zero]; rfl) (by kernel_rfl) (by kernel_rfl) (by kernel_rfl) (fun _ _ _ h => h) (Or.inl ⟨by rfl, ?_⟩) (by assumption) ?_
    rotate_left
    · intro w hSw; (try dsimp only at hSw); simp only [Bk] at hSw; go_simp; try with_reducible rfl
    (try simp only [Act.put, List.setIfInBounds_toArray]); (try dsimp only [List.set_cons_zero, List.set_cons_succ])
    refine wpAnyH_take (i := 7) (v := ?_) (by simp only [List.getElem?_toArray, List.getElem?_cons_succ, List.getElem?_cons_zero]; rfl) (by kernel_rfl) (by kernel_rfl) (by kernel_rfl) (fun _ _ _ h => h) (Or.inl ⟨by rfl, ?_⟩) (by assumption) ?_
    rotate_left
    · intro w hSw; (try dsimp only at hSw); simp only [Bk] at hSw; go_simp; try with_reducible rfl
    (try simp only [Act.put, List.setIfInBounds_toArray]); (try dsimp only [List.set_cons_zero, List.set_cons_succ])
    refine wpAnyH_take (i := 10) (v := ?_) (by simp only [List.getElem?_toArray, List.getElem?_cons_succ, List.getElem?_cons_zero]; rfl) (by kernel_rfl) (by kernel_rfl) (by kernel_rfl) (fun _ _ _ h => h) (Or.inl ⟨by rfl, ?_⟩) (by assumption) ?_
    rotate_left
    · intro w hSw; (try dsimp only at hSw); simp only [Bk] at hSw; go_simp; try with_reducible rfl
    (try simp only [Act.put, List.setIfInBounds_toArray]); (try dsimp only [List.set_cons_zero, List.set_cons_succ])
    refine wpAnyH_take (i := 11) (v := ?_) (by simp only [List.getElem?_toArray, List.getElem?_cons_succ, List.getElem?_cons_zero]; rfl) (by kernel_rfl) (by kernel_rfl) (by kernel_rfl) (fun _ _ _ h => h) (Or.inl ⟨by rfl, ?_⟩) (by assumption) ?_
    rotate_left
    · intro w hSw; (try dsimp only at hSw); simp only [Bk] at hSw; go_simp; try with_reducible rfl
    (try simp only [Act.put, List.setIfInBounds_toArray]); (try dsimp only [List.set_cons_zero, List.set_cons_succ])
    refine wpAnyH_take (i := 12) (v := ?_) (by simp only [List.getElem?_toArray, List.getElem?_cons_succ, List.getElem?_cons_zero]; rfl) (by kernel_rfl) (by kernel_rfl) (by kernel_rfl) (fun _ _ _ h => h) (Or.inl ⟨by rfl, ?_⟩) (by assumption) ?_
    rotate_left
    · intro w hSw; (try dsimp only at hSw); simp only [Bk] at hSw; go_simp; try with_reducible rfl
    (try simp only [Act.put, List.setIfInBounds_toArray]); (try dsimp only [List.set_cons_zero, List.set_cons_succ])
    refine wpAnyH_take (i := 13) (v := ?_) (by simp only [List.getElem?_toArray, List.getElem?_cons_succ, List.getElem?_cons_zero]; rfl) (by kernel_rfl) (by kernel_rfl) (by kernel_rfl) (fun _ _ _ h => h) (Or.inl ⟨by rfl, ?_⟩) (by assumption) ?_
    rotate_left
    · intro w hSw; (try dsimp only at hSw); simp only [Bk] at hSw; go_simp; try with_reducible rfl
    (try simp only [Act.put, List.setIfInBounds_toArray]); (try dsimp only [List.set_cons_zero, List.set_cons_succ])
    refine wpAnyH_take (i := 14) (v := ?_) (by simp only [List.getElem?_toArray, List.getElem?_cons_succ, List.getElem?_cons_zero]; rfl) (by kernel_rfl) (by kernel_rfl) (by kernel_rfl) (fun _ _ _ h => h) (Or.inl ⟨by rfl, ?_⟩) (by assumption) ?_
    rotate_left
    · intro w hSw; (try dsimp only at hSw); simp only [Bk] at hSw; go_simp; try with_reducible rfl
    (try simp only [Act.put, List.setIfInBounds_toArray]); (try dsimp only [List.set_cons_zero, List.set_cons_succ])
    refine wpAnyH_take (i := 15) (v := ?_) (by simp only [List.getElem?_toArray, List.getElem?_cons_succ, List.getElem?_cons_zero]; rfl) (by kernel_rfl) (by kernel_rfl) (by kernel_rfl) (fun _ _ _ h => h) (Or.inl ⟨by rfl, ?_⟩) (by assumption) ?_
    rotate_left
    · intro w hSw; (try dsimp only at hSw); simp only [Bk] at hSw; go_simp; try with_reducible rfl
    (try simp only [Act.put, List.setIfInBounds_toArray]); (try dsimp only [List.set_cons_zero, List.set_cons_succ])
    refine wpAnyH_take (i := 16) (v := ?_) (by simp only [List.getElem?_toArray, List.getElem?_cons_succ, List.getElem?_cons_zero]; rfl) (by kernel_rfl) (by kernel_rfl) (by kernel_rfl) (fun _ _ _ h => h) (Or.inl ⟨by rfl, ?_⟩) (by assumption) ?_
    rotate_left
    · intro w hSw; (try dsimp only at hSw); simp only [Bk] at hSw; go_simp; try with_reducible rfl
    (try simp only [Act.put, List.setIfInBounds_toArray]); (try dsimp only [List.set_cons_zero, List.set_cons_succ])
    refine wpAnyH_take (i := 17) (v := ?_) (by simp only [List.getElem?_toArray, List.getElem?_cons_succ, List.getElem?_cons_zero]; rfl) (by kernel_rfl) (by kernel_rfl) (by kernel_rfl) (fun _ _ _ h => h) (Or.inl ⟨by rfl, ?_⟩) (by assumption) ?_
    rotate_left
    · intro w hSw; (try dsimp only at hSw); simp only [Bk] at hSw; go_simp; try with_reducible rfl
    (try simp only [Act.put, List.setIfInBounds_toArray]); (try dsimp only [List.set_cons_zero, List.set_cons_succ])
    refine wpAnyH_listed (l' := #[true, true, true, true, true, true, true, true, false, false, true, true, true, true, true, true, true, true, false, false, false, false, false]) (by kernel_rfl) ?_
    refine wpAnyH_from [20, 21] (fun l0 a0 l a w' => ∃ (c0 c1 c2 c3 c4 b0 : Bool) (x0 x1 x2 x3 x4 y0 : Value), l = sets l0 [(8, c0), (9, c1), (18, c2), (19, c3), (20, c4), (21, b0)] ∧ a = puts a0 [(137, x0), (138, x1), (147, x2), (148, x3), (149, x4), (19, y0)] ∧ (c1 = true → c0 = true) ∧ (c2 = true → c1 = true) ∧ (c3 = true → c2 = true) ∧ (c4 = true → c3 = true) ∧ (c0 = true → x0 = .int .i64 q1Y) ∧ (c1 = true → x1 = .int .i64 q2Y) ∧ (c2 = true → x2 = .int .i64 q3Y) ∧ (c3 = true → x3 = .int .i64 q4Y) ∧ (c4 = true → x4 = .agg #[.int .i64 r1Y, .int .i64 r2Y]) ∧ (b0 = true → ∃ g : Nat, y0 = .pointer (some ⟨g, 0, none⟩) ∧ Bk g 0 [.int .i64 0, .int .i64 0] w' ∧ (W2).heap.size ≤ g) ∧ Bk (w.heap.size + 1) 0 [.int .i64 bx, .int .i64 bY, .int .i64 wx, .int .i64 wy, .int .i64 s2, .int .i64 m2] w' ∧ Bk wa.heap.size 0 [.int .i64 ux, .int .i64 uy] w' ∧ Bk gx 0 [.int .i64 r1X, .int .i64 r2X] w' ∧ Bk (w.heap.size + 1 + 1) 0 [.int .i64 0, .int .i64 0] w' ∧ Bk (w.heap.size + 1 + 1 + 1) 0 [.int .i64 0, .int .i64 0] w' ∧ (W2).heap.size ≤ w'.heap.size ∧ Mv b ((ov3) || (c0 && !(h1Y)) || (c1 && !(h2Y)) || (c2 && !(h3Y)) || (c3 && !(h4Y)) || (c4 && !(true))) w w') (by kernel_rfl) ?_ ?_ ?_ ?_ ?_ ?_
    rotate_left 4
    · exact of_decide_eq_true (by kernel_rfl)
    · exact ⟨false, false, false, false, false, false, undef, undef, undef, undef, undef, undef, by first | (simp only [sets, List.setIfInBounds_toArray, List.set_cons_zero, List.set_cons_succ]; done) | rfl, by first | (simp only [puts, Act.put, List.setIfInBounds_toArray, List.set_cons_zero, List.set_cons_succ]; done) | rfl, (fun h => by cases h), (fun h => by cases h), (fun h => by cases h), (fun h => by cases h), (fun h => by cases h), (fun h => by cases h), (fun h => by cases h), (fun h => by cases h), (fun h => by cases h), (fun h => by cases h), by (repeat (first | with_reducible assumption | with_reducible apply Bk.drew | with_reducible apply Bk.alloc | with_reducible apply Bk.later (hB := hR) | with_reducible apply Bk.later (hB := hM) | ((with_reducible apply Bk.mv hM); (focus omega)) | ((with_reducible apply Bk.later); rotate_left; (with_reducible assumption)) | ((with_reducible apply Bk.put); rotate_left; (first | (dsimp only; omega))))), by (repeat (first | with_reducible assumption | with_reducible apply Bk.drew | with_reducible apply Bk.alloc | with_reducible apply Bk.later (hB := hR) | with_reducible apply Bk.later (hB := hM) | ((with_reducible apply Bk.mv hM); (focus omega)) | ((with_reducible apply Bk.later); rotate_left; (with_reducible assumption)) | ((with_reducible apply Bk.put); rotate_left; (first | (dsimp only; omega))))), by (repeat (first | with_reducible assumption | with_reducible apply Bk.drew | with_reducible apply Bk.alloc | with_reducible apply Bk.later (hB := hR) | with_reducible apply Bk.later (hB := hM) | ((with_reducible apply Bk.mv hM); (focus omega)) | ((with_reducible apply Bk.later); rotate_left; (with_reducible assumption)) | ((with_reducible apply Bk.put); rotate_left; (first | (dsimp only; omega))))), by (repeat (first | with_reducible assumption | with_reducible apply Bk.drew | with_reducible apply Bk.alloc | with_reducible apply Bk.later (hB := hR) | with_reducible apply Bk.later (hB := hM) | ((with_reducible apply Bk.mv hM); (focus omega)) | ((with_reducible apply Bk.later); rotate_left; (with_reducible assumption)) | ((with_reducible apply Bk.put); rotate_left; (first | (dsimp only; omega))))), by (repeat (first | with_reducible assumption | with_reducible apply Bk.drew | with_reducible apply Bk.alloc | with_reducible apply Bk.later (hB := hR) | with_reducible apply Bk.later (hB := hM) | ((with_reducible apply Bk.mv hM); (focus omega)) | ((with_reducible apply Bk.later); rotate_left; (with_reducible assumption)) | ((with_reducible apply Bk.put); rotate_left; (first | (dsimp only; omega))))), by first | exact Nat.le_refl _ | (simp; done), Mv.cast (by (repeat (first | with_reducible assumption | with_reducible exact Mv.refl (by assumption) (by assumption) | with_reducible apply Mv.alloc | with_reducible apply Mv.drew | with_reducible apply Mv.drewN | ((with_reducible apply Mv.setCell); rotate_left; (first | (dsimp only; omega) | omega | (simp; omega)); (first | (dsimp only; omega) | omega | (simp; omega))) | ((with_reducible apply Mv.below); rotate_left; (with_reducible assumption)) | ((with_reducible apply Mv.trans); rotate_left; (with_reducible assumption))))) (by simp only [Bool.false_and, Bool.or_false])⟩
    · rintro l a w' ⟨c0, c1, c2, c3, c4, b0, x0, x1, x2, x3, x4, y0, rfl, rfl, k0, k1, k2, k3, v0, v1, v2, v3, v4, a0, B0, B1, D0, D1, D2, hz9, HM⟩; rw [sets_size]; kernel_rfl
    · rintro l a w' ⟨c0, c1, c2, c3, c4, b0, x0, x1, x2, x3, x4, y0, rfl, rfl, k0, k1, k2, k3, v0, v1, v2, v3, v4, a0, B0, B1, D0, D1, D2, hz9, HM⟩; exact ⟨B0, B1⟩
    · rintro l a w' ⟨c0, c1, c2, c3, c4, b0, x0, x1, x2, x3, x4, y0, rfl, rfl, k0, k1, k2, k3, v0, v1, v2, v3, v4, a0, B0, B1, D0, D1, D2, hz9, HM⟩ hf i hi hd
      have hcd := cand_of [(8, c0), (9, c1), (18, c2), (19, c3), (20, c4), (21, b0)] (cand := [8, 9, 18, 19, 20, 21, 22]) (by kernel_rfl) (by kernel_rfl) hi
      simp only [List.mem_cons, List.not_mem_nil, or_false] at hcd
      rcases hcd with rfl | rfl | rfl | rfl | rfl | rfl | rfl
      · have hi0 := hi
        simp only [sets, List.setIfInBounds_toArray, List.set_cons_zero, List.set_cons_succ, Array.getD_eq_getD_getElem?, List.getElem?_toArray, List.getElem?_cons_zero, List.getElem?_cons_succ, Option.getD_some] at hi
        subst hi
        clear hf hd hi0
        refine wpOp_shut rfl (fun K hK => ?_)
        simp only [puts, Act.put, List.setIfInBounds_toArray, List.set_cons_zero, List.set_cons_succ]
        have hbL := lt_of_cell HM.cell
        go_simp
        (go_at_call 34; (with_reducible refine (mvCall (b := b) (w0 := w) HM (kX1 _ _)).mono ?_); rintro e wr ⟨rfl, hR, HM⟩)
        have hzr := hR.size
        (try go_wp2_with (fail))
        exact hK.out _ _ ⟨true, c1, c2, c3, c4, b0, .int .i64 q1Y, x1, x2, x3, x4, y0, by first | (simp only [sets, List.setIfInBounds_toArray, List.set_cons_zero, List.set_cons_succ]; done) | rfl, by first | (simp only [puts, Act.put, List.setIfInBounds_toArray, List.set_cons_zero, List.set_cons_succ]; done) | rfl, (fun _ => rfl), k1, k2, k3, (fun _ => rfl), v1, v2, v3, v4, (fun h => by obtain ⟨g, h1, h2, h3⟩ := a0 h; exact ⟨g, h1, Bk.mv hR (by omega) h2, h3⟩), Bk.mv hR (by omega) B0, Bk.mv hR (by omega) B1, Bk.mv hR (by omega) D0, Bk.mv hR (by omega) D1, Bk.mv hR (by omega) D2, (by omega), Mv.cast HM (by simp only [Bool.true_and, Bool.false_and, Bool.or_false, Bool.false_or, Bool.or_assoc, Bool.or_left_comm, Bool.or_comm])⟩
      · have hi0 := hi
        simp only [sets, List.setIfInBounds_toArray, List.set_cons_zero, List.set_cons_succ, Array.getD_eq_getD_getElem?, List.getElem?_toArray, List.getElem?_cons_zero, List.getElem?_cons_succ, Option.getD_some] at hi
        subst hi
        have hx := dep_of hd 8 (by kernel_rfl); simp only [sets, List.setIfInBounds_toArray, List.set_cons_zero, List.set_cons_succ, Array.getD_eq_getD_getElem?, List.getElem?_toArray, List.getElem?_cons_zero, List.getElem?_cons_succ, Option.getD_some] at hx; subst hx
        clear hf hd hi0
        refine wpOp_shut rfl (fun K hK => ?_)
        simp only [puts, Act.put, List.setIfInBounds_toArray, List.set_cons_zero, List.set_cons_succ]
        have hv0 := v0 rfl; subst hv0
        have hbL := lt_of_cell HM.cell
        go_simp
        (go_at_call 27; (with_reducible refine (mvCall (b := b) (w0 := w) HM (kX2 _ _)).mono ?_); rintro e wr ⟨rfl, hR, HM⟩)
        have hzr := hR.size
        (try go_wp2_with (fail))
        exact hK.out _ _ ⟨true, true, c2, c3, c4, b0, .int .i64 q1Y, .int .i64 q2Y, x2, x3, x4, y0, by first | (simp only [sets, List.setIfInBounds_toArray, List.set_cons_zero, List.set_cons_succ]; done) | rfl, by first | (simp only [puts, Act.put, List.setIfInBounds_toArray, List.set_cons_zero, List.set_cons_succ]; done) | rfl, (fun _ => rfl), (fun _ => rfl), k2, k3, (fun _ => rfl), (fun _ => rfl), v2, v3, v4, (fun h => by obtain ⟨g, h1, h2, h3⟩ := a0 h; exact ⟨g, h1, Bk.mv hR (by omega) h2, h3⟩), Bk.mv hR (by omega) B0, Bk.mv hR (by omega) B1, Bk.mv hR (by omega) D0, Bk.mv hR (by omega) D1, Bk.mv hR (by omega) D2, (by omega), Mv.cast HM (by simp only [Bool.true_and, Bool.false_and, Bool.or_false, Bool.false_or, Bool.or_assoc, Bool.or_left_comm, Bool.or_comm])⟩
      · have hi0 := hi
        simp only [sets, List.setIfInBounds_toArray, List.set_cons_zero, List.set_cons_succ, Array.getD_eq_getD_getElem?, List.getElem?_toArray, List.getElem?_cons_zero, List.getElem?_cons_succ, Option.getD_some] at hi
        subst hi
        have hx := dep_of hd 9 (by kernel_rfl); simp only [sets, List.setIfInBounds_toArray, List.set_cons_zero, List.set_cons_succ, Array.getD_eq_getD_getElem?, List.getElem?_toArray, List.getElem?_cons_zero, List.getElem?_cons_succ, Option.getD_some] at hx; subst hx
        clear hf hd hi0
        refine wpOp_shut rfl (fun K hK => ?_)
        have hk0 := k0 rfl; subst hk0
        simp only [puts, Act.put, List.setIfInBounds_toArray, List.set_cons_zero, List.set_cons_succ]
        have hv0 := v0 rfl; subst hv0
        have hv1 := v1 rfl; subst hv1
        have hbL := lt_of_cell HM.cell
        go_simp
        (go_at_call 34; (with_reducible refine (mvCall (b := b) (w0 := w) HM (kX3 _ _)).mono ?_); rintro e wr ⟨rfl, hR, HM⟩)
        have hzr := hR.size
        (try go_wp2_with (fail))
        exact hK.out _ _ ⟨true, true, true, c3, c4, b0, .int .i64 q1Y, .int .i64 q2Y, .int .i64 q3Y, x3, x4, y0, by first | (simp only [sets, List.setIfInBounds_toArray, List.set_cons_zero, List.set_cons_succ]; done) | rfl, by first | (simp only [puts, Act.put, List.setIfInBounds_toArray, List.set_cons_zero, List.set_cons_succ]; done) | rfl, (fun _ => rfl), (fun _ => rfl), (fun _ => rfl), k3, (fun _ => rfl), (fun _ => rfl), (fun _ => rfl), v3, v4, (fun h => by obtain ⟨g, h1, h2, h3⟩ := a0 h; exact ⟨g, h1, Bk.mv hR (by omega) h2, h3⟩), Bk.mv hR (by omega) B0, Bk.mv hR (by omega) B1, Bk.mv hR (by omega) D0, Bk.mv hR (by omega) D1, Bk.mv hR (by omega) D2, (by omega), Mv.cast HM (by simp only [Bool.true_and, Bool.false_and, Bool.or_false, Bool.false_or, Bool.or_assoc, Bool.or_left_comm, Bool.or_comm])⟩
      · have hi0 := hi
        simp only [sets, List.setIfInBounds_toArray, List.set_cons_zero, List.set_cons_succ, Array.getD_eq_getD_getElem?, List.getElem?_toArray, List.getElem?_cons_zero, List.getElem?_cons_succ, Option.getD_some] at hi
        subst hi
        have hx := dep_of hd 18 (by kernel_rfl); simp only [sets, List.setIfInBounds_toArray, List.set_cons_zero, List.set_cons_succ, Array.getD_eq_getD_getElem?, List.getElem?_toArray, List.getElem?_cons_zero, List.getElem?_cons_succ, Option.getD_some] at hx; subst hx
        clear hf hd hi0
        refine wpOp_shut rfl (fun K hK => ?_)
        have hk1 := k1 rfl; subst hk1
        have hk0 := k0 rfl; subst hk0
        simp only [puts, Act.put, List.setIfInBounds_toArray, List.set_cons_zero, List.set_cons_succ]
        have hv0 := v0 rfl; subst hv0
        have hv1 := v1 rfl; subst hv1
        have hv2 := v2 rfl; subst hv2
        have hbL := lt_of_cell HM.cell
        go_simp
        (go_at_call 27; (with_reducible refine (mvCall (b := b) (w0 := w) HM (kX4 _ _)).mono ?_); rintro e wr ⟨rfl, hR, HM⟩)
        have hzr := hR.size
        (try go_wp2_with (fail))
        exact hK.out _ _ ⟨true, true, true, true, c4, b0, .int .i64 q1Y, .int .i64 q2Y, .int .i64 q3Y, .int .i64 q4Y, x4, y0, by first | (simp only [sets, List.setIfInBounds_toArray, List.set_cons_zero, List.set_cons_succ]; done) | rfl, by first | (simp only [puts, Act.put, List.setIfInBounds_toArray, List.set_cons_zero, List.set_cons_succ]; done) | rfl, (fun _ => rfl), (fun _ => rfl), (fun _ => rfl), (fun _ => rfl), (fun _ => rfl), (fun _ => rfl), (fun _ => rfl), (fun _ => rfl), v4, (fun h => by obtain ⟨g, h1, h2, h3⟩ := a0 h; exact ⟨g, h1, Bk.mv hR (by omega) h2, h3⟩), Bk.mv hR (by omega) B0, Bk.mv hR (by omega) B1, Bk.mv hR (by omega) D0, Bk.mv hR (by omega) D1, Bk.mv hR (by omega) D2, (by omega), Mv.cast HM (by simp only [Bool.true_and, Bool.false_and, Bool.or_false, Bool.false_or, Bool.or_assoc, Bool.or_left_comm, Bool.or_comm])⟩
      · have hi0 := hi
        simp only [sets, List.setIfInBounds_toArray, List.set_cons_zero, List.set_cons_succ, Array.getD_eq_getD_getElem?, List.getElem?_toArray, List.getElem?_cons_zero, List.getElem?_cons_succ, Option.getD_some] at hi
        subst hi
        have hx := dep_of hd 19 (by kernel_rfl); simp only [sets, List.setIfInBounds_toArray, List.set_cons_zero, List.set_cons_succ, Array.getD_eq_getD_getElem?, List.getElem?_toArray, List.getElem?_cons_zero, List.getElem?_cons_succ, Option.getD_some] at hx; subst hx
        clear hf hd hi0
        refine wpOp_shut rfl (fun K hK => ?_)
        have hk2 := k2 rfl; subst hk2
        have hk1 := k1 rfl; subst hk1
        have hk0 := k0 rfl; subst hk0
        simp only [puts, Act.put, List.setIfInBounds_toArray, List.set_cons_zero, List.set_cons_succ]
        have hv0 := v0 rfl; subst hv0
        have hv1 := v1 rfl; subst hv1
        have hv2 := v2 rfl; subst hv2
        have hv3 := v3 rfl; subst hv3
        have hbL := lt_of_cell HM.cell
        go_simp
        (go_at_call 36; (with_reducible refine (mvCall (b := b) (w0 := w) HM (kX5 _ _)).mono ?_); rintro e wr ⟨rfl, hR, HM⟩)
        have hzr := hR.size
        (try go_wp2_with (fail))
        exact hK.out _ _ ⟨true, true, true, true, true, b0, .int .i64 q1Y, .int .i64 q2Y, .int .i64 q3Y, .int .i64 q4Y, .agg #[.int .i64 r1Y, .int .i64 r2Y], y0, by first | (simp only [sets, List.setIfInBounds_toArray, List.set_cons_zero, List.set_cons_succ]; done) | rfl, by first | (simp only [puts, Act.put, List.setIfInBounds_toArray, List.set_cons_zero, List.set_cons_succ]; done) | rfl, (fun _ => rfl), (fun _ => rfl), (fun _ => rfl), (fun _ => rfl), (fun _ => rfl), (fun _ => rfl), (fun _ => rfl), (fun _ => rfl), (fun _ => rfl), (fun h => by obtain ⟨g, h1, h2, h3⟩ := a0 h; exact ⟨g, h1, Bk.mv hR (by omega) h2, h3⟩), Bk.mv hR (by omega) B0, Bk.mv hR (by omega) B1, Bk.mv hR (by omega) D0, Bk.mv hR (by omega) D1, Bk.mv hR (by omega) D2, (by omega), Mv.cast HM (by simp only [Bool.true_and, Bool.false_and, Bool.or_false, Bool.false_or, Bool.or_assoc, Bool.or_left_comm, Bool.or_comm])⟩
      · have hi0 := hi
        simp only [sets, List.setIfInBounds_toArray, List.set_cons_zero, List.set_cons_succ, Array.getD_eq_getD_getElem?, List.getElem?_toArray, List.getElem?_cons_zero, List.getElem?_cons_succ, Option.getD_some] at hi
        subst hi
        clear hf hd hi0
        refine wpOp_shut rfl (fun K hK => ?_)
        simp only [puts, Act.put, List.setIfInBounds_toArray, List.set_cons_zero, List.set_cons_succ]
        have hzn := hz9
        go_simp
        exact hK.out _ _ ⟨c0, c1, c2, c3, c4, true, x0, x1, x2, x3, x4, .pointer (some ⟨w'.heap.size, 0, none⟩), by first | (simp only [sets, List.setIfInBounds_toArray, List.set_cons_zero, List.set_cons_succ]; done) | rfl, by first | (simp only [puts, Act.put, List.setIfInBounds_toArray, List.set_cons_zero, List.set_cons_succ]; done) | rfl, k0, k1, k2, k3, v0, v1, v2, v3, v4, (fun _ => ⟨w'.heap.size, rfl, by simp [Bk, go_sem], hz9⟩), Bk.alloc B0 _, Bk.alloc B1 _, Bk.alloc D0 _, Bk.alloc D1 _, Bk.alloc D2 _, (by simp only [World.size_alloc]; omega), HM.alloc _⟩
      · have hi0 := hi
        have hx0 := dep_of hd 20 (by kernel_rfl); simp only [sets, List.setIfInBounds_toArray, List.set_cons_zero, List.set_cons_succ, Array.getD_eq_getD_getElem?, List.getElem?_toArray, List.getElem?_cons_zero, List.getElem?_cons_succ, Option.getD_some] at hx0; subst hx0
        have hx1 := dep_of hd 21 (by kernel_rfl); simp only [sets, List.setIfInBounds_toArray, List.set_cons_zero, List.set_cons_succ, Array.getD_eq_getD_getElem?, List.getElem?_toArray, List.getElem?_cons_zero, List.getElem?_cons_succ, Option.getD_some] at hx1; subst hx1
        obtain ⟨q, hq, hf⟩ := hf; simp only [List.mem_cons, List.not_mem_nil, or_false] at hq
        rcases hq with rfl | rfl <;> simp only [sets, List.setIfInBounds_toArray, List.set_cons_zero, List.set_cons_succ, Array.getD_eq_getD_getElem?, List.getElem?_toArray, List.getElem?_cons_zero, List.getElem?_cons_succ, Option.getD_some] at hf <;> cases hf
    rintro l a w' n ⟨c0, c1, c2, c3, c4, b0, x0, x1, x2, x3, x4, y0, rfl, rfl, k0, k1, k2, k3, v0, v1, v2, v3, v4, a0, B0, B1, D0, D1, D2, hz9, HM⟩ hf hu
    have hf0 := hf 20 (by simp); simp only [sets, List.setIfInBounds_toArray, List.set_cons_zero, List.set_cons_succ, Array.getD_eq_getD_getElem?, List.getElem?_toArray, List.getElem?_cons_zero, List.getElem?_cons_succ, Option.getD_some] at hf0; subst hf0
    have hf1 := hf 21 (by simp); simp only [sets, List.setIfInBounds_toArray, List.set_cons_zero, List.set_cons_succ, Array.getD_eq_getD_getElem?, List.getElem?_toArray, List.getElem?_cons_zero, List.getElem?_cons_succ, Option.getD_some] at hf1; subst hf1
    have hk3 := k3 rfl; subst hk3
    have hk2 := k2 rfl; subst hk2
    have hk1 := k1 rfl; subst hk1
    have hk0 := k0 rfl; subst hk0
    have hv0 := v0 rfl; subst hv0
    have hv1 := v1 rfl; subst hv1
    have hv2 := v2 rfl; subst hv2
    have hv3 := v3 rfl; subst hv3
    have hv4 := v4 rfl; subst hv4
    obtain ⟨g0, rfl, G0, L0⟩ := a0 rfl
    have hbL := lt_of_cell HM.cell
    have N0 : g0 ≠ b := by omega
    obtain ⟨n, rfl⟩ : ∃ q, n = q + 1 := ⟨n - 1, by have hu2 := Nat.le_trans (by (simp only [sets, List.setIfInBounds_toArray, List.set_cons_zero, List.set_cons_succ]); exact of_decide_eq_true (by kernel_rfl) : 1 ≤ _) hu; omega⟩
    simp only [sets, puts, Act.put, List.setIfInBounds_toArray, List.set_cons_zero, List.set_cons_succ]
    clear hu k0 k1 k2 k3 v0 v1 v2 v3 v4
    have hHeld : (fun (w' : World) => Bk (w.heap.size + 1) 0 [.int .i64 bx, .int .i64 bY, .int .i64 wx, .int .i64 wy, .int .i64 s2, .int .i64 m2] w' ∧ Bk wa.heap.size 0 [.int .i64 ux, .int .i64 uy] w') w' := ⟨B0, B1⟩
    have C_B0 := B0; simp only [Bk] at C_B0
    have C_B1 := B1; simp only [Bk] at C_B1
    have C_D0 := D0; simp only [Bk] at C_D0
    have C_D1 := D1; simp only [Bk] at C_D1
    have C_D2 := D2; simp only [Bk] at C_D2
    have C_G0 := G0; simp only [Bk] at C_G0
    have hOld := hHeld; clear hHeld
    refine wpAnyH_ready (rs := [22]) (by kernel_rfl) (by simp) (AllReadyH.cons rfl (fun K hK => ?_) AllReadyH.nil)
    go_simp
    refine hK.out _ _ ⟨by (repeat (first | with_reducible assumption | with_reducible apply Bk.drew | with_reducible apply Bk.alloc | with_reducible apply Bk.later (hB := hR) | with_reducible apply Bk.later (hB := hM) | ((with_reducible apply Bk.mv hM); (focus omega)) | ((with_reducible apply Bk.later); rotate_left; (with_reducible assumption)) | ((with_reducible apply Bk.put); rotate_left; (first | (dsimp only; omega))))), by (repeat (first | with_reducible assumption | with_reducible apply Bk.drew | with_reducible apply Bk.alloc | with_reducible apply Bk.later (hB := hR) | with_reducible apply Bk.later (hB := hM) | ((with_reducible apply Bk.mv hM); (focus omega)) | ((with_reducible apply Bk.later); rotate_left; (with_reducible assumption)) | ((with_reducible apply Bk.put); rotate_left; (first | (dsimp only; omega)))))⟩ (fun hHeld => ?_)
    clear hK K hOld
    (try simp only [Act.put, List.setIfInBounds_toArray]); (try dsimp only [List.set_cons_zero, List.set_cons_succ])
    refine wpAnyH_done (by kernel_rfl) ?_ _
    (try refine NoPanic.normal ?_)
    obtain ⟨ov4, hov4⟩ : ∃ v, (ov3 || (true && !h1Y) || (true && !h2Y) || (true && !h3Y) || (true && !h4Y) || (true && !true)) = v := ⟨_, rfl⟩
    rw [hov4] at HM
    have HOV4 := Lib.hid hov4
    clear hov4 kX1 kX2 kX3 kX4 kX5 a0
    generalize g0 = gy at *
    go_upto_region 12 with (fail)
    generalize hW3 : World.setCell _ _ _ = W3
    have R : Bk (w.heap.size + 1 + 1) 0 [.int .i64 0, .int .i64 0] W3 := by rw [← hW3]; (repeat (first | with_reducible assumption | with_reducible apply Bk.drew | with_reducible apply Bk.alloc | with_reducible apply Bk.later (hB := hR) | with_reducible apply Bk.later (hB := hM) | ((with_reducible apply Bk.mv hM); (focus omega)) | ((with_reducible apply Bk.later); rotate_left; (with_reducible assumption)) | ((with_reducible apply Bk.put); rotate_left; (first | (dsimp only; omega)))))
    have T : Bk (w.heap.size + 1 + 1 + 1) 0 [.int .i64 0, .int .i64 0] W3 := by rw [← hW3]; (repeat (first | with_reducible assumption | with_reducible apply Bk.drew | with_reducible apply Bk.alloc | with_reducible apply Bk.later (hB := hR) | with_reducible apply Bk.later (hB := hM) | ((with_reducible apply Bk.mv hM); (focus omega)) | ((with_reducible apply Bk.later); rotate_left; (with_reducible assumption)) | ((with_reducible apply Bk.put); rotate_left; (first | (dsimp only; omega)))))
    have SX : Bk gx 0 [.int .i64 r1X, .int .i64 r2X] W3 := by rw [← hW3]; (repeat (first | with_reducible assumption | with_reducible apply Bk.drew | with_reducible apply Bk.alloc | with_reducible apply Bk.later (hB := hR) | with_reducible apply Bk.later (hB := hM) | ((with_reducible apply Bk.mv hM); (focus omega)) | ((with_reducible apply Bk.later); rotate_left; (with_reducible assumption)) | ((with_reducible apply Bk.put); rotate_left; (first | (dsimp only; omega)))))
    have SY : Bk gy 0 [.int .i64 r1Y, .int .i64 r2Y] W3 := by rw [← hW3]; clear hW3; simp [Bk, go_sem, *]
    have HM : Mv b ov4 w W3 := by rw [← hW3]; (repeat (first | with_reducible assumption | with_reducible exact Mv.refl (by assumption) (by assumption) | with_reducible apply Mv.alloc | with_reducible apply Mv.drew | with_reducible apply Mv.drewN | ((with_reducible apply Mv.setCell); rotate_left; (first | (dsimp only; omega) | omega | (simp; omega)); (first | (dsimp only; omega) | omega | (simp; omega))) | ((with_reducible apply Mv.below); rotate_left; (with_reducible assumption)) | ((with_reducible apply Mv.trans); rotate_left; (with_reducible assumption))))
    have hgy : W2.heap.size ≤ gy := by assumption
    clear hW3
    clear hHeld
    have C_R := R; simp only [Bk] at C_R
    have C_T := T; simp only [Bk] at C_T
    have C_SX := SX; simp only [Bk] at C_SX
    have C_SY := SY; simp only [Bk] at C_SY
    (try refine wp_region_noPanic ?_)
    refine wp_region_held_drew (S := (fun (w' : World) => w'.cell? ⟨gx, 0, none⟩ = some (.int .i64 r1X) ∧ w'.cell? ⟨gx, 1, none⟩ = some (.int .i64 r2X) ∧ w'.cell? ⟨gy, 0, none⟩ = some (.int .i64 r1Y) ∧ w'.cell? ⟨gy, 1, none⟩ = some (.int .i64 r2Y))) (by kernel_rfl) ⟨(by first | (simp (maxDischargeDepth := 6) [go_sem, *]; done)), (by first | (simp (maxDischargeDepth := 6) [go_sem, *]; done)), (by first | (simp (maxDischargeDepth := 6) [go_sem, *]; done)), (by first | (simp (maxDischargeDepth := 6) [go_sem, *]; done))⟩ (fun hHeld => ?_)
    refine wpAnyH_take (i := 0) (v := ?_) (by simp only [List.getElem?_toArray, List.getElem?_cons_succ, List.getElem?_cons_zero]; rfl) (by kernel_rfl) (by kernel_rfl) (by kernel_rfl) (fun _ _ _ h => h) (Or.inl ⟨by rfl, ?_⟩) (by assumption) ?_
    rotate_left
    · intro w hSw; (try dsimp only at hSw); go_simp; try with_reducible rfl
    try simp only [Act.put, List.setIfInBounds_toArray, List.set_cons_zero, List.set_cons_succ]
    refine wpAnyH_take (i := 1) (v := ?_) (by simp only [List.getElem?_toArray, List.getElem?_cons_succ, List.getElem?_cons_zero]; rfl) (by kernel_rfl) (by kernel_rfl) (by kernel_rfl) (fun _ _ _ h => h) (Or.inl ⟨by rfl, ?_⟩) (by assumption) ?_
    rotate_left
    · intro w hSw; (try dsimp only at hSw); go_simp; try with_reducible rfl
    try simp only [Act.put, List.setIfInBounds_toArray, List.set_cons_zero, List.set_cons_succ]
    refine wpAnyH_ready (rs := [2]) (by kernel_rfl) (by simp) ?_
    refine AllReadyH.cons rfl (fun K hK => ?_) AllReadyH.nil
    have hOld := hHeld; clear hHeld
    go_simp
    (try go_wp2_with (fail))
    refine hK.out _ _ ⟨(by first | exact mv_cell hM (by first | (dsimp only; omega) | (simp; omega)) hOld.1 | exact cell_later hM hOld.1 | exact HT.cb | exact HT.cc | (simp (maxDischargeDepth := 6) [go_sem, *]; done)), (by first | exact mv_cell hM (by first | (dsimp only; omega) | (simp; omega)) hOld.2.1 | exact cell_later hM hOld.2.1 | exact HT.cb | exact HT.cc | (simp (maxDischargeDepth := 6) [go_sem, *]; done)), (by first | exact mv_cell hM (by first | (dsimp only; omega) | (simp; omega)) hOld.2.2.1 | exact cell_later hM hOld.2.2.1 | exact HT.cb | exact HT.cc | (simp (maxDischargeDepth := 6) [go_sem, *]; done)), (by first | exact mv_cell hM (by first | (dsimp only; omega) | (simp; omega)) hOld.2.2.2 | exact cell_later hM hOld.2.2.2 | exact HT.cb | exact HT.cc | (simp (maxDischargeDepth := 6) [go_sem, *]; done))⟩ (fun hHeld => ?_)
    clear hK K hOld
    try simp only [Act.put, List.setIfInBounds_toArray, List.set_cons_zero, List.set_cons_succ]
    refine wpAnyH_ready (rs := [3]) (by kernel_rfl) (by simp) ?_
    refine AllReadyH.cons rfl (fun K hK => ?_) AllReadyH.nil
    have hOld := hHeld; clear hHeld
    go_simp
    (try go_wp2_with (fail))
    refine hK.out _ _ ⟨(by first | exact mv_cell hM (by first | (dsimp only; omega) | (simp; omega)) hOld.1 | exact cell_later hM hOld.1 | exact HT.cb | exact HT.cc | (simp (maxDischargeDepth := 6) [go_sem, *]; done)), (by first | exact mv_cell hM (by first | (dsimp only; omega) | (simp; omega)) hOld.2.1 | exact cell_later hM hOld.2.1 | exact HT.cb | exact HT.cc | (simp (maxDischargeDepth := 6) [go_sem, *]; done)), (by first | exact mv_cell hM (by first | (dsimp only; omega) | (simp; omega)) hOld.2.2.1 | exact cell_later hM hOld.2.2.1 | exact HT.cb | exact HT.cc | (simp (maxDischargeDepth := 6) [go_sem, *]; done)), (by first | exact mv_cell hM (by first | (dsimp only; omega) | (simp; omega)) hOld.2.2.2 | exact cell_later hM hOld.2.2.2 | exact HT.cb | exact HT.cc | (simp (maxDischargeDepth := 6) [go_sem, *]; done))⟩ (fun hHeld => ?_)
    clear hK K hOld
    try simp only [Act.put, List.setIfInBounds_toArray, List.set_cons_zero, List.set_cons_succ]
    refine wpAnyH_take (i := 4) (v := ?_) (by simp only [List.getElem?_toArray, List.getElem?_cons_succ, List.getElem?_cons_zero]; rfl) (by kernel_rfl) (by kernel_rfl) (by kernel_rfl) (fun _ _ _ h => h) (Or.inl ⟨by rfl, ?_⟩) (by assumption) ?_
    rotate_left
    · intro w hSw; (try dsimp only at hSw); go_simp; try with_reducible rfl
    try simp only [Act.put, List.setIfInBounds_toArray, List.set_cons_zero, List.set_cons_succ]
    refine wpAnyH_done (by kernel_rfl) ?_ _
    (try refine NoPanic.normal ?_)
    (try clear q0); (try clear q1); (try clear q2); (try clear q3); obtain ⟨q0, q1, q2, q3⟩ := hHeld
    all_goals go_wp2
    all_goals simp (maxDischargeDepth := 8) [bodyPost, results, Try.results14, go_sem, *]
    all_goals exact ⟨E1.out.1, Mv.cast (by (repeat (first | with_reducible assumption | with_reducible exact Mv.refl (by assumption) (by assumption) | with_reducible apply Mv.alloc | with_reducible apply Mv.drew | with_reducible apply Mv.drewN | ((with_reducible apply Mv.setCell); rotate_left; (first | (dsimp only; omega) | omega | (simp; omega)); (first | (dsimp only; omega) | omega | (simp; omega))) | ((with_reducible apply Mv.below); rotate_left; (with_reducible assumption)) | ((with_reducible apply Mv.trans); rotate_left; (with_reducible assumption))))) (by rw [← HOV4.out, ← HOV3.out, ← HOV2.out, ← HOV.out, ← E1.out.2, HE2.out]; simp only [Bool.true_and, Bool.not_true, Bool.or_false, Bool.false_or, Bool.not_and, Bool.or_assoc, Bool.or_left_comm, Bool.or_comm])⟩
  · have E1 : Hid (_ ∧ _) := Lib.hid (by have h := HRV.out; rw [if_neg hgo, Bool.eq_false_iff.2 hgo, Bool.false_and, Bool.or_false] at h; exact h)
    clear HRV
    cases t with
    | false =>
      clear hgo
      go_upto_region 6 with (fail)
      (try refine wp_region_noPanic ?_)
      refine wp_region_held_drew (S := (fun (w' : World) => w'.cell? ⟨w.heap.size, 2, none⟩ = some (.int .i64 vx) ∧ w'.cell? ⟨w.heap.size, 3, none⟩ = some (.int .i64 vy) ∧ w'.cell? ⟨w.heap.size + 1, 2, none⟩ = some (.int .i64 wx) ∧ w'.cell? ⟨w.heap.size + 1, 3, none⟩ = some (.int .i64 wy))) (by kernel_rfl) ⟨(by first | (simp (maxDischargeDepth := 6) [go_sem, *]; done)), (by first | (simp (maxDischargeDepth := 6) [go_sem, *]; done)), (by first | (simp (maxDischargeDepth := 6) [go_sem, *]; done)), (by first | (simp (maxDischargeDepth := 6) [go_sem, *]; done))⟩ (fun hHeld => ?_)
      refine wpAnyH_take (i := 0) (v := ?_) (by simp only [List.getElem?_toArray, List.getElem?_cons_succ, List.getElem?_cons_zero]; rfl) (by kernel_rfl) (by kernel_rfl) (by kernel_rfl) (fun _ _ _ h => h) (Or.inl ⟨by rfl, ?_⟩) (by assumption) ?_
      rotate_left
      · intro w hSw; (try dsimp only at hSw); go_simp; try with_reducible rfl
      try simp only [Act.put, List.setIfInBounds_toArray, List.set_cons_zero, List.set_cons_succ]
      refine wpAnyH_take (i := 2) (v := ?_) (by simp only [List.getElem?_toArray, List.getElem?_cons_succ, List.getElem?_cons_zero]; rfl) (by kernel_rfl) (by kernel_rfl) (by kernel_rfl) (fun _ _ _ h => h) (Or.inl ⟨by rfl, ?_⟩) (by assumption) ?_
      rotate_left
      · intro w hSw; (try dsimp only at hSw); go_simp; try with_reducible rfl
      try simp only [Act.put, List.setIfInBounds_toArray, List.set_cons_zero, List.set_cons_succ]
      refine wpAnyH_take (i := 1) (v := ?_) (by simp only [List.getElem?_toArray, List.getElem?_cons_succ, List.getElem?_cons_zero]; rfl) (by kernel_rfl) (by kernel_rfl) (by kernel_rfl) (fun _ _ _ h => h) (Or.inl ⟨by rfl, ?_⟩) (by assumption) ?_
      rotate_left
      · intro w hSw; (try dsimp only at hSw); go_simp; try with_reducible rfl
      try simp only [Act.put, List.setIfInBounds_toArray, List.set_cons_zero, List.set_cons_succ]
      refine wpAnyH_take (i := 3) (v := ?_) (by simp only [List.getElem?_toArray, List.getElem?_cons_succ, List.getElem?_cons_zero]; rfl) (by kernel_rfl) (by kernel_rfl) (by kernel_rfl) (fun _ _ _ h => h) (Or.inl ⟨by rfl, ?_⟩) (by assumption) ?_
      rotate_left
      · intro w hSw; (try dsimp only at hSw); go_simp; try with_reducible rfl
      try simp only [Act.put, List.setIfInBounds_toArray, List.set_cons_zero, List.set_cons_succ]
      refine wpAnyH_ready (rs := [4]) (by kernel_rfl) (by simp) ?_
      refine AllReadyH.cons rfl (fun K hK => ?_) AllReadyH.nil
      have hOld := hHeld; clear hHeld
      go_simp
      (try go_wp2_with (fail))
      refine hK.out _ _ ⟨(by first | exact mv_cell hM (by first | (dsimp only; omega) | (simp; omega)) hOld.1 | exact cell_later hM hOld.1 | exact HT.cb | exact HT.cc | (simp (maxDischargeDepth := 6) [go_sem, *]; done)), (by first | exact mv_cell hM (by first | (dsimp only; omega) | (simp; omega)) hOld.2.1 | exact cell_later hM hOld.2.1 | exact HT.cb | exact HT.cc | (simp (maxDischargeDepth := 6) [go_sem, *]; done)), (by first | exact mv_cell hM (by first | (dsimp only; omega) | (simp; omega)) hOld.2.2.1 | exact cell_later hM hOld.2.2.1 | exact HT.cb | exact HT.cc | (simp (maxDischargeDepth := 6) [go_sem, *]; done)), (by first | exact mv_cell hM (by first | (dsimp only; omega) | (simp; omega)) hOld.2.2.2 | exact cell_later hM hOld.2.2.2 | exact HT.cb | exact HT.cc | (simp (maxDischargeDepth := 6) [go_sem, *]; done))⟩ (fun hHeld => ?_)
      clear hK K hOld
      try simp only [Act.put, List.setIfInBounds_toArray, List.set_cons_zero, List.set_cons_succ]
      refine wpAnyH_ready (rs := [5]) (by kernel_rfl) (by simp) ?_
      refine AllReadyH.cons rfl (fun K hK => ?_) AllReadyH.nil
      have hOld := hHeld; clear hHeld
      go_simp
      (try go_wp2_with (fail))
      refine hK.out _ _ ⟨(by first | exact mv_cell hM (by first | (dsimp only; omega) | (simp; omega)) hOld.1 | exact cell_later hM hOld.1 | exact HT.cb | exact HT.cc | (simp (maxDischargeDepth := 6) [go_sem, *]; done)), (by first | exact mv_cell hM (by first | (dsimp only; omega) | (simp; omega)) hOld.2.1 | exact cell_later hM hOld.2.1 | exact HT.cb | exact HT.cc | (simp (maxDischargeDepth := 6) [go_sem, *]; done)), (by first | exact mv_cell hM (by first | (dsimp only; omega) | (simp; omega)) hOld.2.2.1 | exact cell_later hM hOld.2.2.1 | exact HT.cb | exact HT.cc | (simp (maxDischargeDepth := 6) [go_sem, *]; done)), (by first | exact mv_cell hM (by first | (dsimp only; omega) | (simp; omega)) hOld.2.2.2 | exact cell_later hM hOld.2.2.2 | exact HT.cb | exact HT.cc | (simp (maxDischargeDepth := 6) [go_sem, *]; done))⟩ (fun hHeld => ?_)
      clear hK K hOld
      try simp only [Act.put, List.setIfInBounds_toArray, List.set_cons_zero, List.set_cons_succ]
      refine wpAnyH_take (i := 6) (v := ?_) (by simp only [List.getElem?_toArray, List.getElem?_cons_succ, List.getElem?_cons_zero]; rfl) (by kernel_rfl) (by kernel_rfl) (by kernel_rfl) (fun _ _ _ h => h) (Or.inl ⟨by rfl, ?_⟩) (by assumption) ?_
      rotate_left
      · intro w hSw; (try dsimp only at hSw); go_simp; try with_reducible rfl
      try simp only [Act.put, List.setIfInBounds_toArray, List.set_cons_zero, List.set_cons_succ]
      refine wpAnyH_done (by kernel_rfl) ?_ _
      (try refine NoPanic.normal ?_)
      (try clear q0); (try clear q1); (try clear q2); (try clear q3); obtain ⟨q0, q1, q2, q3⟩ := hHeld
      all_goals go_wp2
      all_goals simp (maxDischargeDepth := 8) [bodyPost, results, Try.results14, go_sem, *]
      all_goals exact ⟨E1.out.1, Mv.cast (by (repeat (first | with_reducible assumption | with_reducible exact Mv.refl (by assumption) (by assumption) | with_reducible apply Mv.alloc | with_reducible apply Mv.drew | with_reducible apply Mv.drewN | ((with_reducible apply Mv.setCell); rotate_left; (first | (dsimp only; omega) | omega | (simp; omega)); (first | (dsimp only; omega) | omega | (simp; omega))) | ((with_reducible apply Mv.below); rotate_left; (with_reducible assumption)) | ((with_reducible apply Mv.trans); rotate_left; (with_reducible assumption))))) (by rw [← HOV.out, ← E1.out.2]; simp only [Bool.not_and, Bool.or_assoc, Bool.or_left_comm, Bool.or_comm])⟩
    | true =>
      have hc0 : ¬ 0 < c := fun h => hgo (by rw [decide_eq_true h]; rfl)
      clear hgo
      go_upto_region 6 with (fail)
      (try refine wp_region_noPanic ?_)
      refine wp_region_held_drew (S := (fun (w' : World) => w'.cell? ⟨w.heap.size, 2, none⟩ = some (.int .i64 vx) ∧ w'.cell? ⟨w.heap.size, 3, none⟩ = some (.int .i64 vy) ∧ w'.cell? ⟨w.heap.size + 1, 2, none⟩ = some (.int .i64 wx) ∧ w'.cell? ⟨w.heap.size + 1, 3, none⟩ = some (.int .i64 wy))) (by kernel_rfl) ⟨(by first | (simp (maxDischargeDepth := 6) [go_sem, *]; done)), (by first | (simp (maxDischargeDepth := 6) [go_sem, *]; done)), (by first | (simp (maxDischargeDepth := 6) [go_sem, *]; done)), (by first | (simp (maxDischargeDepth := 6) [go_sem, *]; done))⟩ (fun hHeld => ?_)
      refine wpAnyH_take (i := 0) (v := ?_) (by simp only [List.getElem?_toArray, List.getElem?_cons_succ, List.getElem?_cons_zero]; rfl) (by kernel_rfl) (by kernel_rfl) (by kernel_rfl) (fun _ _ _ h => h) (Or.inl ⟨by rfl, ?_⟩) (by assumption) ?_
      rotate_left
      · intro w hSw; (try dsimp only at hSw); go_simp; try with_reducible rfl
      try simp only [Act.put, List.setIfInBounds_toArray, List.set_cons_zero, List.set_cons_succ]
      refine wpAnyH_take (i := 2) (v := ?_) (by simp only [List.getElem?_toArray, List.getElem?_cons_succ, List.getElem?_cons_zero]; rfl) (by kernel_rfl) (by kernel_rfl) (by kernel_rfl) (fun _ _ _ h => h) (Or.inl ⟨by rfl, ?_⟩) (by assumption) ?_
      rotate_left
      · intro w hSw; (try dsimp only at hSw); go_simp; try with_reducible rfl
      try simp only [Act.put, List.setIfInBounds_toArray, List.set_cons_zero, List.set_cons_succ]
      refine wpAnyH_take (i := 1) (v := ?_) (by simp only [List.getElem?_toArray, List.getElem?_cons_succ, List.getElem?_cons_zero]; rfl) (by kernel_rfl) (by kernel_rfl) (by kernel_rfl) (fun _ _ _ h => h) (Or.inl ⟨by rfl, ?_⟩) (by assumption) ?_
      rotate_left
      · intro w hSw; (try dsimp only at hSw); go_simp; try with_reducible rfl
      try simp only [Act.put, List.setIfInBounds_toArray, List.set_cons_zero, List.set_cons_succ]
      refine wpAnyH_take (i := 3) (v := ?_) (by simp only [List.getElem?_toArray, List.getElem?_cons_succ, List.getElem?_cons_zero]; rfl) (by kernel_rfl) (by kernel_rfl) (by kernel_rfl) (fun _ _ _ h => h) (Or.inl ⟨by rfl, ?_⟩) (by assumption) ?_
      rotate_left
      · intro w hSw; (try dsimp only at hSw); go_simp; try with_reducible rfl
      try simp only [Act.put, List.setIfInBounds_toArray, List.set_cons_zero, List.set_cons_succ]
      refine wpAnyH_ready (rs := [4]) (by kernel_rfl) (by simp) ?_
      refine AllReadyH.cons rfl (fun K hK => ?_) AllReadyH.nil
      have hOld := hHeld; clear hHeld
      go_simp
      (try go_wp2_with (fail))
      refine hK.out _ _ ⟨(by first | exact mv_cell hM (by first | (dsimp only; omega) | (simp; omega)) hOld.1 | exact cell_later hM hOld.1 | exact HT.cb | exact HT.cc | (simp (maxDischargeDepth := 6) [go_sem, *]; done)), (by first | exact mv_cell hM (by first | (dsimp only; omega) | (simp; omega)) hOld.2.1 | exact cell_later hM hOld.2.1 | exact HT.cb | exact HT.cc | (simp (maxDischargeDepth := 6) [go_sem, *]; done)), (by first | exact mv_cell hM (by first | (dsimp only; omega) | (simp; omega)) hOld.2.2.1 | exact cell_later hM hOld.2.2.1 | exact HT.cb | exact HT.cc | (simp (maxDischargeDepth := 6) [go_sem, *]; done)), (by first | exact mv_cell hM (by first | (dsimp only; omega) | (simp; omega)) hOld.2.2.2 | exact cell_later hM hOld.2.2.2 | exact HT.cb | exact HT.cc | (simp (maxDischargeDepth := 6) [go_sem, *]; done))⟩ (fun hHeld => ?_)
      clear hK K hOld
      try simp only [Act.put, List.setIfInBounds_toArray, List.set_cons_zero, List.set_cons_succ]
      refine wpAnyH_ready (rs := [5]) (by kernel_rfl) (by simp) ?_
      refine AllReadyH.cons rfl (fun K hK => ?_) AllReadyH.nil
      have hOld := hHeld; clear hHeld
      go_simp
      (try go_wp2_with (fail))
      refine hK.out _ _ ⟨(by first | exact mv_cell hM (by first | (dsimp only; omega) | (simp; omega)) hOld.1 | exact cell_later hM hOld.1 | exact HT.cb | exact HT.cc | (simp (maxDischargeDepth := 6) [go_sem, *]; done)), (by first | exact mv_cell hM (by first | (dsimp only; omega) | (simp; omega)) hOld.2.1 | exact cell_later hM hOld.2.1 | exact HT.cb | exact HT.cc | (simp (maxDischargeDepth := 6) [go_sem, *]; done)), (by first | exact mv_cell hM (by first | (dsimp only; omega) | (simp; omega)) hOld.2.2.1 | exact cell_later hM hOld.2.2.1 | exact HT.cb | exact HT.cc | (simp (maxDischargeDepth := 6) [go_sem, *]; done)), (by first | exact mv_cell hM (by first | (dsimp only; omega) | (simp; omega)) hOld.2.2.2 | exact cell_later hM hOld.2.2.2 | exact HT.cb | exact HT.cc | (simp (maxDischargeDepth := 6) [go_sem, *]; done))⟩ (fun hHeld => ?_)
      clear hK K hOld
      try simp only [Act.put, List.setIfInBounds_toArray, List.set_cons_zero, List.set_cons_succ]
      refine wpAnyH_take (i := 6) (v := ?_) (by simp only [List.getElem?_toArray, List.getElem?_cons_succ, List.getElem?_cons_zero]; rfl) (by kernel_rfl) (by kernel_rfl) (by kernel_rfl) (fun _ _ _ h => h) (Or.inl ⟨by rfl, ?_⟩) (by assumption) ?_
      rotate_left
      · intro w hSw; (try dsimp only at hSw); go_simp; try with_reducible rfl
      try simp only [Act.put, List.setIfInBounds_toArray, List.set_cons_zero, List.set_cons_succ]
      refine wpAnyH_done (by kernel_rfl) ?_ _
      (try refine NoPanic.normal ?_)
      (try clear q0); (try clear q1); (try clear q2); (try clear q3); obtain ⟨q0, q1, q2, q3⟩ := hHeld
      all_goals go_wp2
      all_goals simp (maxDischargeDepth := 8) [bodyPost, results, Try.results14, go_sem, *]
      all_goals exact ⟨E1.out.1, Mv.cast (by (repeat (first | with_reducible assumption | with_reducible exact Mv.refl (by assumption) (by assumption) | with_reducible apply Mv.alloc | with_reducible apply Mv.drew | with_reducible apply Mv.drewN | ((with_reducible apply Mv.setCell); rotate_left; (first | (dsimp only; omega) | omega | (simp; omega)); (first | (dsimp only; omega) | omega | (simp; omega))) | ((with_reducible apply Mv.below); rotate_left; (with_reducible assumption)) | ((with_reducible apply Mv.trans); rotate_left; (with_reducible assumption))))) (by rw [← HOV.out, ← E1.out.2]; simp only [Bool.not_and, Bool.or_assoc, Bool.or_left_comm, Bool.or_comm])⟩
end Go.Proofs.Ytgdoaibgcjdklaa
