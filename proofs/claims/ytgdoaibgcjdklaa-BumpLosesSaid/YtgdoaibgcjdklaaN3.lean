/- The contract of bump.Bump. -/
import Derived.Test.YtgdoaibgcjdklaaN2
import Derived.Test.YtgdoaibgcjdklaaW3
set_option linter.unusedSimpArgs false
set_option linter.unusedVariables false
namespace Go.Proofs.Ytgdoaibgcjdklaa
open Go.RowKit
theorem drt_bd {ax ay vx vy s m : Int} (h : drt ax ay vx vy s m = true) : (-281474976710656 ≤ ax ∧ ax ≤ 281474976710656 ∧ -281474976710656 ≤ ay ∧ ay ≤ 281474976710656) ∧ (-549755813888 ≤ vx ∧ vx ≤ 549755813888 ∧ -549755813888 ≤ vy ∧ vy ≤ 549755813888) ∧ 2147483648 ≤ s ∧ s ≤ 17179869184 ∧ 274877906944 ≤ m ∧ m ≤ 35184372088832 := by
  unfold drt inn at h
  simp only [Bool.and_eq_true, decide_eq_true_eq] at h
  omega
/-- How fast both come nearer, and whether that fits. -/
def bcl (ux uy vx vy wx wy : Int) : Int := sat (ml (sat (vx - wx)) ux + ml (sat (vy - wy)) uy)
def bclok (ux uy vx vy wx wy : Int) : Bool := fx (vx - wx) && fx (vy - wy) && mlok (sat (vx - wx)) ux && mlok (sat (vy - wy)) uy && fx (ml (sat (vx - wx)) ux + ml (sat (vy - wy)) uy)
/-- The push by mass and mass. -/
def bsh (c bo m1 m2 : Int) : Int := fq (ml c (sat (4294967296 + bo))) (sat (m1 + m2))
def bshok (c bo m1 m2 : Int) : Bool := fx (4294967296 + bo) && mlok c (sat (4294967296 + bo)) && fx (m1 + m2) && fqok (ml c (sat (4294967296 + bo))) (sat (m1 + m2))
def turnok (sh m1 m2 vx vy wx wy ux uy : Int) : Bool := (mlok sh m2 && tnok true vx ux (ml sh m2) && tnok true vy uy (ml sh m2)) && (mlok sh m1 && tnok false wx ux (ml sh m1) && tnok false wy uy (ml sh m1))
theorem fq_lo (a b : Int) : -9223372036854775808 ≤ fq a b ∧ fq a b ≤ 9223372036854775807 := by
  unfold fq bnd
  generalize decide (a < 0) = t
  split
  · split
    · decide
    · cases t <;> decide
  · exact ⟨sat_lo _, sat_hi _⟩
set_option maxHeartbeats 16000000 in
set_option maxRecDepth 20000 in
/-- A bump of discs that may be: their unit (ux, uy) and whether they touch (t) are known. -/
theorem cBumpY (ax ay vx vy s1 m1 bx bY wx wy s2 m2 bo : Int) (b : Nat) (o : Bool) (w : World) (h1 : drt ax ay vx vy s1 m1 = true) (h2 : drt bx bY wx wy s2 m2 = true) (b0 : 0 ≤ bo) (b1 : bo ≤ 4294967296) (ux uy n : Int) (t : Bool)
    (eux : uq (sat (bx - ax)) (sqs (sat (bx - ax)) (sat (bY - ay))) = ux) (euy : uq (sat (bY - ay)) (sqs (sat (bx - ax)) (sat (bY - ay))) = uy) (en : sqs (sat (bx - ax)) (sat (bY - ay)) = n) (et : tou n s1 s2 = t)
    (u0 : -9223372036854775808 ≤ ux) (u1 : ux ≤ 9223372036854775807) (u2 : -9223372036854775808 ≤ uy) (u3 : uy ≤ 9223372036854775807) (hc : w.cell? ⟨b, 0, none⟩ = some (.bool o)) (hf : w.frozen? ⟨b, 0, none⟩ = false) :
    Calls Try.prog 13 #[.pointer (some ⟨b, 0, none⟩), .agg #[.int .i64 ax, .int .i64 ay, .int .i64 vx, .int .i64 vy, .int .i64 s1, .int .i64 m1], .agg #[.int .i64 bx, .int .i64 bY, .int .i64 wx, .int .i64 wy, .int .i64 s2, .int .i64 m2], .int .i64 bo] w fun e w' =>
      e = .returned (if (t && decide (0 < bcl ux uy vx vy wx wy)) = true then
          .tuple #[.agg #[.int .i64 (tn true vx ux (ml (bsh (bcl ux uy vx vy wx wy) bo m1 m2) m2)), .int .i64 (tn true vy uy (ml (bsh (bcl ux uy vx vy wx wy) bo m1 m2) m2))], .agg #[.int .i64 (tn false wx ux (ml (bsh (bcl ux uy vx vy wx wy) bo m1 m2) m1)), .int .i64 (tn false wy uy (ml (bsh (bcl ux uy vx vy wx wy) bo m1 m2) m1))], .bool true]
        else .tuple #[.agg #[.int .i64 vx, .int .i64 vy], .agg #[.int .i64 wx, .int .i64 wy], .bool true]) ∧
      Mv b (o || !apok ax ay bx bY s1 s2 || !bclok ux uy vx vy wx wy || ((t && decide (0 < bcl ux uy vx vy wx wy)) && !(bshok (bcl ux uy vx vy wx wy) bo m1 m2 && turnok (bsh (bcl ux uy vx vy wx wy) bo m1 m2) m1 m2 vx vy wx wy ux uy))) w w' := by
  have hb := lt_of_cell hc
  have HM := Mv.refl hc hf
  clear hc hf
  obtain ⟨d1, d2, d3, d4, d5, d6⟩ := drt_bd h1
  obtain ⟨g1, g2, g3, g4, g5, g6⟩ := drt_bd h2
  have kR1 := fun W => cBRight ax ay vx vy s1 m1 W (by omega) (by omega) (by omega) (by omega)
  have kR2 := fun W => cBRight bx bY wx wy s2 m2 W (by omega) (by omega) (by omega) (by omega)
  rw [show drn ax ay vx vy s1 m1 = 0 by unfold drn; rw [if_pos h1]] at kR1
  rw [show drn bx bY wx wy s2 m2 = 0 by unfold drn; rw [if_pos h2]] at kR2
  have kA := fun O W => cApart ax ay vx vy s1 m1 bx bY wx wy s2 m2 b O W (by omega) (by omega) (by omega) (by omega) (by omega) (by omega) (by omega) (by omega) (by omega) (by omega) (by omega) (by omega)
  rw [eux, euy, en, et] at kA
  have kL := fun O W => cBLess vx vy wx wy b O W (by omega) (by omega) (by omega) (by omega) (by omega) (by omega) (by omega) (by omega)
  have x0 := sat_lo (vx - wx); have x1 := sat_hi (vx - wx); have y0 := sat_lo (vy - wy); have y1 := sat_hi (vy - wy)
  have kM1 := fun O W => cMl (sat (vx - wx)) ux b O W x0 x1 u0 u1
  have kM2 := fun O W => cMl (sat (vy - wy)) uy b O W y0 y1 u2 u3
  have z0 := ml_lo (sat (vx - wx)) ux; have z1 := ml_hi (sat (vx - wx)) ux; have z2 := ml_lo (sat (vy - wy)) uy; have z3 := ml_hi (sat (vy - wy)) uy
  have kC := fun O W => cFAdd (ml (sat (vx - wx)) ux) (ml (sat (vy - wy)) uy) b O W z0 z1 z2 z3
  have c0 : -9223372036854775808 ≤ bcl ux uy vx vy wx wy := sat_lo _
  have c1 : bcl ux uy vx vy wx wy ≤ 9223372036854775807 := sat_hi _
  rw [show sat (ml (sat (vx - wx)) ux + ml (sat (vy - wy)) uy) = bcl ux uy vx vy wx wy from rfl] at kC
  have EQ : bclok ux uy vx vy wx wy = (fx (vx - wx) && fx (vy - wy) && mlok (sat (vx - wx)) ux && mlok (sat (vy - wy)) uy && fx (ml (sat (vx - wx)) ux + ml (sat (vy - wy)) uy)) := rfl
  rw [EQ]
  clear EQ
  generalize bcl ux uy vx vy wx wy = c at *
  generalize fx (ml (sat (vx - wx)) ux + ml (sat (vy - wy)) uy) = f5 at *
  generalize mlok (sat (vx - wx)) ux = f3 at *
  generalize mlok (sat (vy - wy)) uy = f4 at *
  generalize ml (sat (vx - wx)) ux = p at *
  generalize ml (sat (vy - wy)) uy = q at *
  generalize sat (vx - wx) = nx at *
  generalize sat (vy - wy) = ny at *
  generalize fx (vx - wx) = f1 at *
  generalize fx (vy - wy) = f2 at *
  generalize apok ax ay bx bY s1 s2 = f0 at *
  clear eux euy en et x0 x1 y0 y1 z0 z1 z2 z3 h1 h2
  generalize hRV : (if (t && decide (0 < c)) = true then _ else _ : Value) = RV
  generalize hFV : (o || !f0 || !(f1 && f2 && f3 && f4 && f5) || ((t && decide (0 < c)) && !(bshok c bo m1 m2 && turnok (bsh c bo m1 m2) m1 m2 vx vy wx wy ux uy))) = FV
  have HRV := Lib.hid (And.intro hRV hFV)
  clear hRV hFV
  go_enter Try.func13, Try.ntmps13
  go_wp2_with (fail)
  (go_at_call 10; (with_reducible refine (kR1 _).mono ?_); rintro e w1 ⟨rfl, hM⟩)
  have M : Bk (w.heap.size) 0 [.pointer (some ⟨b, 0, none⟩)] w1 := Bk.later (by simp [Bk, go_sem]; done) hM
  have A : Bk (w.heap.size + 1) 0 [.int .i64 ax, .int .i64 ay, .int .i64 vx, .int .i64 vy, .int .i64 s1, .int .i64 m1] w1 := Bk.later (by simp [Bk, go_sem]; done) hM
  have B : Bk (w.heap.size + 1 + 1) 0 [.int .i64 bx, .int .i64 bY, .int .i64 wx, .int .i64 wy, .int .i64 s2, .int .i64 m2] w1 := Bk.later (by simp [Bk, go_sem]; done) hM
  have R : Bk (w.heap.size + 1 + 1 + 1) 0 [.int .i64 0, .int .i64 0] w1 := Bk.later (by simp [Bk, go_sem]; done) hM
  have T : Bk (w.heap.size + 1 + 1 + 1 + 1) 0 [.int .i64 0, .int .i64 0] w1 := Bk.later (by simp [Bk, go_sem]; done) hM
  have HB : Below w.heap.size w w1 := by (repeat (first | with_reducible assumption | with_reducible exact Below.refl _ _ | ((with_reducible refine Below.setCell ?_ ?_ _); rotate_left; (first | exact Nat.le_refl _ | (dsimp only; omega) | (simp; done) | (simp; omega))) | with_reducible refine below_alloc ?_ _ | with_reducible apply below_drewN | with_reducible apply Below.drew | with_reducible refine below_step ?_ (by assumption)))
  have C_M := M; simp only [Bk] at C_M
  have C_A := A; simp only [Bk] at C_A
  have C_B := B; simp only [Bk] at C_B
  have C_R := R; simp only [Bk] at C_R
  have C_T := T; simp only [Bk] at C_T
  have HM : Mv b o w w1 := by (repeat (first | with_reducible assumption | with_reducible exact Mv.refl (by assumption) (by assumption) | with_reducible apply Mv.alloc | with_reducible apply Mv.drew | with_reducible apply Mv.drewN | ((with_reducible apply Mv.setCell); rotate_left; (first | (dsimp only; omega) | omega | (simp; omega)); (first | (dsimp only; omega) | omega | (simp; omega))) | ((with_reducible apply Mv.below); rotate_left; (with_reducible assumption)) | ((with_reducible apply Mv.trans); rotate_left; (with_reducible assumption))))
  clear hM kR1
  go_wp2_with (fail)
  (go_at_call 10; (with_reducible refine (kR2 _).mono ?_); rintro e9 w1 ⟨rfl, hM⟩; (first | have HB : Below w.heap.size w _ := below_step HB hM | have HB : Below w.heap.size w _ := below_step (W := _) (by (repeat (first | with_reducible assumption | with_reducible exact Below.refl _ _ | ((with_reducible refine Below.setCell ?_ ?_ _); rotate_left; (first | exact Nat.le_refl _ | (dsimp only; omega) | (simp; done) | (simp; omega))) | with_reducible refine below_alloc ?_ _ | with_reducible apply below_drewN | with_reducible apply Below.drew | with_reducible refine below_step ?_ (by assumption)))) hM); (first | have M := Bk.later M hM | have M := Bk.later (Bk.alloc M _) hM | have M := Bk.later (Bk.alloc (Bk.alloc M _) _) hM); have C_M := M; simp only [Bk] at C_M; (first | have A := Bk.later A hM | have A := Bk.later (Bk.alloc A _) hM | have A := Bk.later (Bk.alloc (Bk.alloc A _) _) hM); have C_A := A; simp only [Bk] at C_A; (first | have B := Bk.later B hM | have B := Bk.later (Bk.alloc B _) hM | have B := Bk.later (Bk.alloc (Bk.alloc B _) _) hM); have C_B := B; simp only [Bk] at C_B; (first | have R := Bk.later R hM | have R := Bk.later (Bk.alloc R _) hM | have R := Bk.later (Bk.alloc (Bk.alloc R _) _) hM); have C_R := R; simp only [Bk] at C_R; (first | have T := Bk.later T hM | have T := Bk.later (Bk.alloc T _) hM | have T := Bk.later (Bk.alloc (Bk.alloc T _) _) hM); have C_T := T; simp only [Bk] at C_T)
  have HM : Mv b o w w1 := by (repeat (first | with_reducible assumption | with_reducible exact Mv.refl (by assumption) (by assumption) | with_reducible apply Mv.alloc | with_reducible apply Mv.drew | with_reducible apply Mv.drewN | ((with_reducible apply Mv.setCell); rotate_left; (first | (dsimp only; omega) | omega | (simp; omega)); (first | (dsimp only; omega) | omega | (simp; omega))) | ((with_reducible apply Mv.below); rotate_left; (with_reducible assumption)) | ((with_reducible apply Mv.trans); rotate_left; (with_reducible assumption))))
  clear hM kR2
  go_wp2_with (fail)
  (go_at_call 7; (with_reducible refine (mvCall (b := b) (w0 := w) (by (repeat (first | with_reducible assumption | with_reducible exact Mv.refl (by assumption) (by assumption) | with_reducible apply Mv.alloc | with_reducible apply Mv.drew | with_reducible apply Mv.drewN | ((with_reducible apply Mv.setCell); rotate_left; (first | (dsimp only; omega) | omega | (simp; omega)); (first | (dsimp only; omega) | omega | (simp; omega))) | ((with_reducible apply Mv.below); rotate_left; (with_reducible assumption)) | ((with_reducible apply Mv.trans); rotate_left; (with_reducible assumption))))) (kA _ _)).mono ?_); rintro e9 w1 ⟨rfl, hM, HM⟩; (first | have M := Bk.mv hM (by omega) M | have M := Bk.mv hM (by omega) (Bk.drew M) | have M := Bk.mv hM (by omega) (Bk.alloc M _) | have M := Bk.mv hM (by omega) (Bk.alloc (Bk.alloc M _) _)); have C_M := M; simp only [Bk] at C_M; (first | have A := Bk.mv hM (by omega) A | have A := Bk.mv hM (by omega) (Bk.drew A) | have A := Bk.mv hM (by omega) (Bk.alloc A _) | have A := Bk.mv hM (by omega) (Bk.alloc (Bk.alloc A _) _)); have C_A := A; simp only [Bk] at C_A; (first | have B := Bk.mv hM (by omega) B | have B := Bk.mv hM (by omega) (Bk.drew B) | have B := Bk.mv hM (by omega) (Bk.alloc B _) | have B := Bk.mv hM (by omega) (Bk.alloc (Bk.alloc B _) _)); have C_B := B; simp only [Bk] at C_B; (first | have R := Bk.mv hM (by omega) R | have R := Bk.mv hM (by omega) (Bk.drew R) | have R := Bk.mv hM (by omega) (Bk.alloc R _) | have R := Bk.mv hM (by omega) (Bk.alloc (Bk.alloc R _) _)); have C_R := R; simp only [Bk] at C_R; (first | have T := Bk.mv hM (by omega) T | have T := Bk.mv hM (by omega) (Bk.drew T) | have T := Bk.mv hM (by omega) (Bk.alloc T _) | have T := Bk.mv hM (by omega) (Bk.alloc (Bk.alloc T _) _)); have C_T := T; simp only [Bk] at C_T)
  rename World => wa
  have hwa := World.block_lt_of_cell? wa _ T.1
  dsimp only at hwa
  clear hM kA HB
  go_wp2_with (fail)
  (go_at_call 21; (with_reducible refine (mvCall (b := b) (w0 := w) (by (repeat (first | with_reducible assumption | with_reducible exact Mv.refl (by assumption) (by assumption) | with_reducible apply Mv.alloc | with_reducible apply Mv.drew | with_reducible apply Mv.drewN | ((with_reducible apply Mv.setCell); rotate_left; (first | (dsimp only; omega) | omega | (simp; omega)); (first | (dsimp only; omega) | omega | (simp; omega))) | ((with_reducible apply Mv.below); rotate_left; (with_reducible assumption)) | ((with_reducible apply Mv.trans); rotate_left; (with_reducible assumption))))) (kL _ _)).mono ?_); rintro e9 w1 ⟨rfl, hM, HM⟩; (first | have M := Bk.mv hM (by omega) M | have M := Bk.mv hM (by omega) (Bk.drew M) | have M := Bk.mv hM (by omega) (Bk.alloc M _) | have M := Bk.mv hM (by omega) (Bk.alloc (Bk.alloc M _) _)); have C_M := M; simp only [Bk] at C_M; (first | have A := Bk.mv hM (by omega) A | have A := Bk.mv hM (by omega) (Bk.drew A) | have A := Bk.mv hM (by omega) (Bk.alloc A _) | have A := Bk.mv hM (by omega) (Bk.alloc (Bk.alloc A _) _)); have C_A := A; simp only [Bk] at C_A; (first | have B := Bk.mv hM (by omega) B | have B := Bk.mv hM (by omega) (Bk.drew B) | have B := Bk.mv hM (by omega) (Bk.alloc B _) | have B := Bk.mv hM (by omega) (Bk.alloc (Bk.alloc B _) _)); have C_B := B; simp only [Bk] at C_B; (first | have R := Bk.mv hM (by omega) R | have R := Bk.mv hM (by omega) (Bk.drew R) | have R := Bk.mv hM (by omega) (Bk.alloc R _) | have R := Bk.mv hM (by omega) (Bk.alloc (Bk.alloc R _) _)); have C_R := R; simp only [Bk] at C_R; (first | have T := Bk.mv hM (by omega) T | have T := Bk.mv hM (by omega) (Bk.drew T) | have T := Bk.mv hM (by omega) (Bk.alloc T _) | have T := Bk.mv hM (by omega) (Bk.alloc (Bk.alloc T _) _)); have C_T := T; simp only [Bk] at C_T)
  have U : Bk wa.heap.size 0 [.int .i64 ux, .int .i64 uy] w1 := Bk.mv hM (by omega) (by simp [Bk, go_sem]; done)
  have C_U := U; simp only [Bk] at C_U
  have hwl := World.block_lt_of_cell? w1 _ U.1
  dsimp only at hwl
  rename World => wl
  clear hM kL
  go_upto_region 5 with (fail)
  have G0 : Bk wl.heap.size 0 [.int .i64 nx, .int .i64 ny] (wl.alloc (Obj.cells #[.int .i64 nx, .int .i64 ny] 24)) := by simp [Bk, go_sem]
  clear C_A C_B C_R C_T
  (try refine wp_region_noPanic ?_)
  refine wp_region_held_drew (S := (fun (w' : World) => w'.cell? ⟨w.heap.size, 0, none⟩ = some (.pointer (some ⟨b, 0, none⟩)) ∧ w'.cell? ⟨wl.heap.size, 0, none⟩ = some (.int .i64 nx) ∧ w'.cell? ⟨wl.heap.size, 1, none⟩ = some (.int .i64 ny) ∧ w'.cell? ⟨wa.heap.size, 0, none⟩ = some (.int .i64 ux) ∧ w'.cell? ⟨wa.heap.size, 1, none⟩ = some (.int .i64 uy))) (by kernel_rfl) ⟨(by first | (simp (maxDischargeDepth := 6) [go_sem, *]; done)), (by first | (simp (maxDischargeDepth := 6) [go_sem, *]; done)), (by first | (simp (maxDischargeDepth := 6) [go_sem, *]; done)), (by first | (simp (maxDischargeDepth := 6) [go_sem, *]; done)), (by first | (simp (maxDischargeDepth := 6) [go_sem, *]; done))⟩ (fun hHeld => ?_)
  refine wpAnyH_take (i := 2) (v := ?_) (by simp only [List.getElem?_toArray, List.getElem?_cons_succ, List.getElem?_cons_zero]; rfl) (by kernel_rfl) (by kernel_rfl) (by kernel_rfl) (fun _ _ _ h => h) (Or.inl ⟨by rfl, ?_⟩) (by assumption) ?_
  rotate_left
  · intro w hSw; (try dsimp only at hSw); go_simp; try with_reducible rfl
  try simp only [Act.put, List.setIfInBounds_toArray, List.set_cons_zero, List.set_cons_succ]
  refine wpAnyH_take (i := 4) (v := ?_) (by simp only [List.getElem?_toArray, List.getElem?_cons_succ, List.getElem?_cons_zero]; rfl) (by kernel_rfl) (by kernel_rfl) (by kernel_rfl) (fun _ _ _ h => h) (Or.inl ⟨by rfl, ?_⟩) (by assumption) ?_
  rotate_left
  · intro w hSw; (try dsimp only at hSw); go_simp; try with_reducible rfl
  try simp only [Act.put, List.setIfInBounds_toArray, List.set_cons_zero, List.set_cons_succ]
  refine wpAnyH_take (i := 8) (v := ?_) (by simp only [List.getElem?_toArray, List.getElem?_cons_succ, List.getElem?_cons_zero]; rfl) (by kernel_rfl) (by kernel_rfl) (by kernel_rfl) (fun _ _ _ h => h) (Or.inl ⟨by rfl, ?_⟩) (by assumption) ?_
  rotate_left
  · intro w hSw; (try dsimp only at hSw); go_simp; try with_reducible rfl
  try simp only [Act.put, List.setIfInBounds_toArray, List.set_cons_zero, List.set_cons_succ]
  refine wpAnyH_take (i := 10) (v := ?_) (by simp only [List.getElem?_toArray, List.getElem?_cons_succ, List.getElem?_cons_zero]; rfl) (by kernel_rfl) (by kernel_rfl) (by kernel_rfl) (fun _ _ _ h => h) (Or.inl ⟨by rfl, ?_⟩) (by assumption) ?_
  rotate_left
  · intro w hSw; (try dsimp only at hSw); go_simp; try with_reducible rfl
  try simp only [Act.put, List.setIfInBounds_toArray, List.set_cons_zero, List.set_cons_succ]
  refine wpAnyH_take (i := 0) (v := ?_) (by simp only [List.getElem?_toArray, List.getElem?_cons_succ, List.getElem?_cons_zero]; rfl) (by kernel_rfl) (by kernel_rfl) (by kernel_rfl) (fun _ _ _ h => h) (Or.inl ⟨by rfl, ?_⟩) (by assumption) ?_
  rotate_left
  · intro w hSw; (try dsimp only at hSw); go_simp; try with_reducible rfl
  try simp only [Act.put, List.setIfInBounds_toArray, List.set_cons_zero, List.set_cons_succ]
  refine wpAnyH_take (i := 1) (v := ?_) (by simp only [List.getElem?_toArray, List.getElem?_cons_succ, List.getElem?_cons_zero]; rfl) (by kernel_rfl) (by kernel_rfl) (by kernel_rfl) (fun _ _ _ h => h) (Or.inl ⟨by rfl, ?_⟩) (by assumption) ?_
  rotate_left
  · intro w hSw; (try dsimp only at hSw); go_simp; try with_reducible rfl
  try simp only [Act.put, List.setIfInBounds_toArray, List.set_cons_zero, List.set_cons_succ]
  refine wpAnyH_take (i := 3) (v := ?_) (by simp only [List.getElem?_toArray, List.getElem?_cons_succ, List.getElem?_cons_zero]; rfl) (by kernel_rfl) (by kernel_rfl) (by kernel_rfl) (fun _ _ _ h => h) (Or.inl ⟨by rfl, ?_⟩) (by assumption) ?_
  rotate_left
  · intro w hSw; (try dsimp only at hSw); go_simp; try with_reducible rfl
  try simp only [Act.put, List.setIfInBounds_toArray, List.set_cons_zero, List.set_cons_succ]
  refine wpAnyH_take (i := 5) (v := ?_) (by simp only [List.getElem?_toArray, List.getElem?_cons_succ, List.getElem?_cons_zero]; rfl) (by kernel_rfl) (by kernel_rfl) (by kernel_rfl) (fun _ _ _ h => h) (Or.inl ⟨by rfl, ?_⟩) (by assumption) ?_
  rotate_left
  · intro w hSw; (try dsimp only at hSw); go_simp; try with_reducible rfl
  try simp only [Act.put, List.setIfInBounds_toArray, List.set_cons_zero, List.set_cons_succ]
  refine wpAnyH_take (i := 7) (v := ?_) (by simp only [List.getElem?_toArray, List.getElem?_cons_succ, List.getElem?_cons_zero]; rfl) (by kernel_rfl) (by kernel_rfl) (by kernel_rfl) (fun _ _ _ h => h) (Or.inl ⟨by rfl, ?_⟩) (by assumption) ?_
  rotate_left
  · intro w hSw; (try dsimp only at hSw); go_simp; try with_reducible rfl
  try simp only [Act.put, List.setIfInBounds_toArray, List.set_cons_zero, List.set_cons_succ]
  refine wpAnyH_take (i := 9) (v := ?_) (by simp only [List.getElem?_toArray, List.getElem?_cons_succ, List.getElem?_cons_zero]; rfl) (by kernel_rfl) (by kernel_rfl) (by kernel_rfl) (fun _ _ _ h => h) (Or.inl ⟨by rfl, ?_⟩) (by assumption) ?_
  rotate_left
  · intro w hSw; (try dsimp only at hSw); go_simp; try with_reducible rfl
  try simp only [Act.put, List.setIfInBounds_toArray, List.set_cons_zero, List.set_cons_succ]
  refine wpAnyH_take (i := 11) (v := ?_) (by simp only [List.getElem?_toArray, List.getElem?_cons_succ, List.getElem?_cons_zero]; rfl) (by kernel_rfl) (by kernel_rfl) (by kernel_rfl) (fun _ _ _ h => h) (Or.inl ⟨by rfl, ?_⟩) (by assumption) ?_
  rotate_left
  · intro w hSw; (try dsimp only at hSw); go_simp; try with_reducible rfl
  try simp only [Act.put, List.setIfInBounds_toArray, List.set_cons_zero, List.set_cons_succ]
  refine wpAnyH_ready (rs := [6]) (by kernel_rfl) (by simp) ?_
  refine AllReadyH.cons rfl (fun K hK => ?_) AllReadyH.nil
  have hOld := hHeld; clear hHeld
  go_simp
  (go_at_call 17; (with_reducible refine (mvCall (b := b) (w0 := w) (by (repeat (first | with_reducible assumption | with_reducible exact Mv.refl (by assumption) (by assumption) | with_reducible apply Mv.alloc | with_reducible apply Mv.drew | with_reducible apply Mv.drewN | ((with_reducible apply Mv.setCell); rotate_left; (first | (dsimp only; omega) | omega | (simp; omega)); (first | (dsimp only; omega) | omega | (simp; omega))) | ((with_reducible apply Mv.below); rotate_left; (with_reducible assumption)) | ((with_reducible apply Mv.trans); rotate_left; (with_reducible assumption))))) (kM1 _ _)).mono ?_); rintro e w1 ⟨rfl, hM, HM⟩)
  (try go_wp2_with (fail))
  refine hK.out _ _ ⟨(by first | exact mv_cell hM (by first | (dsimp only; omega) | (simp; omega)) hOld.1 | exact cell_later hM hOld.1 | exact HT.cb | exact HT.cc | (simp (maxDischargeDepth := 6) [go_sem, *]; done)), (by first | exact mv_cell hM (by first | (dsimp only; omega) | (simp; omega)) hOld.2.1 | exact cell_later hM hOld.2.1 | exact HT.cb | exact HT.cc | (simp (maxDischargeDepth := 6) [go_sem, *]; done)), (by first | exact mv_cell hM (by first | (dsimp only; omega) | (simp; omega)) hOld.2.2.1 | exact cell_later hM hOld.2.2.1 | exact HT.cb | exact HT.cc | (simp (maxDischargeDepth := 6) [go_sem, *]; done)), (by first | exact mv_cell hM (by first | (dsimp only; omega) | (simp; omega)) hOld.2.2.2.1 | exact cell_later hM hOld.2.2.2.1 | exact HT.cb | exact HT.cc | (simp (maxDischargeDepth := 6) [go_sem, *]; done)), (by first | exact mv_cell hM (by first | (dsimp only; omega) | (simp; omega)) hOld.2.2.2.2 | exact cell_later hM hOld.2.2.2.2 | exact HT.cb | exact HT.cc | (simp (maxDischargeDepth := 6) [go_sem, *]; done))⟩ (fun hHeld => ?_)
  clear hK K hOld
  try simp only [Act.put, List.setIfInBounds_toArray, List.set_cons_zero, List.set_cons_succ]
  (first | have M := Bk.mv hM (by omega) M | have M := Bk.mv hM (by omega) (Bk.drew M) | have M := Bk.mv hM (by omega) (Bk.drew (Bk.alloc M _))); (first | have A := Bk.mv hM (by omega) A | have A := Bk.mv hM (by omega) (Bk.drew A) | have A := Bk.mv hM (by omega) (Bk.drew (Bk.alloc A _))); (first | have B := Bk.mv hM (by omega) B | have B := Bk.mv hM (by omega) (Bk.drew B) | have B := Bk.mv hM (by omega) (Bk.drew (Bk.alloc B _))); (first | have R := Bk.mv hM (by omega) R | have R := Bk.mv hM (by omega) (Bk.drew R) | have R := Bk.mv hM (by omega) (Bk.drew (Bk.alloc R _))); (first | have T := Bk.mv hM (by omega) T | have T := Bk.mv hM (by omega) (Bk.drew T) | have T := Bk.mv hM (by omega) (Bk.drew (Bk.alloc T _))); (first | have U := Bk.mv hM (by omega) U | have U := Bk.mv hM (by omega) (Bk.drew U) | have U := Bk.mv hM (by omega) (Bk.drew (Bk.alloc U _)))
  refine wpAnyH_ready (rs := [12]) (by kernel_rfl) (by simp) ?_
  refine AllReadyH.cons rfl (fun K hK => ?_) AllReadyH.nil
  have hOld := hHeld; clear hHeld
  go_simp
  (go_at_call 17; (with_reducible refine (mvCall (b := b) (w0 := w) (by (repeat (first | with_reducible assumption | with_reducible exact Mv.refl (by assumption) (by assumption) | with_reducible apply Mv.alloc | with_reducible apply Mv.drew | with_reducible apply Mv.drewN | ((with_reducible apply Mv.setCell); rotate_left; (first | (dsimp only; omega) | omega | (simp; omega)); (first | (dsimp only; omega) | omega | (simp; omega))) | ((with_reducible apply Mv.below); rotate_left; (with_reducible assumption)) | ((with_reducible apply Mv.trans); rotate_left; (with_reducible assumption))))) (kM2 _ _)).mono ?_); rintro e w1 ⟨rfl, hM, HM⟩)
  (try go_wp2_with (fail))
  refine hK.out _ _ ⟨(by first | exact mv_cell hM (by first | (dsimp only; omega) | (simp; omega)) hOld.1 | exact cell_later hM hOld.1 | exact HT.cb | exact HT.cc | (simp (maxDischargeDepth := 6) [go_sem, *]; done)), (by first | exact mv_cell hM (by first | (dsimp only; omega) | (simp; omega)) hOld.2.1 | exact cell_later hM hOld.2.1 | exact HT.cb | exact HT.cc | (simp (maxDischargeDepth := 6) [go_sem, *]; done)), (by first | exact mv_cell hM (by first | (dsimp only; omega) | (simp; omega)) hOld.2.2.1 | exact cell_later hM hOld.2.2.1 | exact HT.cb | exact HT.cc | (simp (maxDischargeDepth := 6) [go_sem, *]; done)), (by first | exact mv_cell hM (by first | (dsimp only; omega) | (simp; omega)) hOld.2.2.2.1 | exact cell_later hM hOld.2.2.2.1 | exact HT.cb | exact HT.cc | (simp (maxDischargeDepth := 6) [go_sem, *]; done)), (by first | exact mv_cell hM (by first | (dsimp only; omega) | (simp; omega)) hOld.2.2.2.2 | exact cell_later hM hOld.2.2.2.2 | exact HT.cb | exact HT.cc | (simp (maxDischargeDepth := 6) [go_sem, *]; done))⟩ (fun hHeld => ?_)
  clear hK K hOld
  try simp only [Act.put, List.setIfInBounds_toArray, List.set_cons_zero, List.set_cons_succ]
  (first | have M := Bk.mv hM (by omega) M | have M := Bk.mv hM (by omega) (Bk.drew M) | have M := Bk.mv hM (by omega) (Bk.drew (Bk.alloc M _))); (first | have A := Bk.mv hM (by omega) A | have A := Bk.mv hM (by omega) (Bk.drew A) | have A := Bk.mv hM (by omega) (Bk.drew (Bk.alloc A _))); (first | have B := Bk.mv hM (by omega) B | have B := Bk.mv hM (by omega) (Bk.drew B) | have B := Bk.mv hM (by omega) (Bk.drew (Bk.alloc B _))); (first | have R := Bk.mv hM (by omega) R | have R := Bk.mv hM (by omega) (Bk.drew R) | have R := Bk.mv hM (by omega) (Bk.drew (Bk.alloc R _))); (first | have T := Bk.mv hM (by omega) T | have T := Bk.mv hM (by omega) (Bk.drew T) | have T := Bk.mv hM (by omega) (Bk.drew (Bk.alloc T _))); (first | have U := Bk.mv hM (by omega) U | have U := Bk.mv hM (by omega) (Bk.drew U) | have U := Bk.mv hM (by omega) (Bk.drew (Bk.alloc U _)))
  refine wpAnyH_ready (rs := [13]) (by kernel_rfl) (by simp) ?_
  refine AllReadyH.cons rfl (fun K hK => ?_) AllReadyH.nil
  have hOld := hHeld; clear hHeld
  go_simp
  (go_at_call 16; (with_reducible refine (mvCall (b := b) (w0 := w) (by (repeat (first | with_reducible assumption | with_reducible exact Mv.refl (by assumption) (by assumption) | with_reducible apply Mv.alloc | with_reducible apply Mv.drew | with_reducible apply Mv.drewN | ((with_reducible apply Mv.setCell); rotate_left; (first | (dsimp only; omega) | omega | (simp; omega)); (first | (dsimp only; omega) | omega | (simp; omega))) | ((with_reducible apply Mv.below); rotate_left; (with_reducible assumption)) | ((with_reducible apply Mv.trans); rotate_left; (with_reducible assumption))))) (kC _ _)).mono ?_); rintro e w1 ⟨rfl, hM, HM⟩)
  (try go_wp2_with (fail))
  refine hK.out _ _ ⟨(by first | exact mv_cell hM (by first | (dsimp only; omega) | (simp; omega)) hOld.1 | exact cell_later hM hOld.1 | exact HT.cb | exact HT.cc | (simp (maxDischargeDepth := 6) [go_sem, *]; done)), (by first | exact mv_cell hM (by first | (dsimp only; omega) | (simp; omega)) hOld.2.1 | exact cell_later hM hOld.2.1 | exact HT.cb | exact HT.cc | (simp (maxDischargeDepth := 6) [go_sem, *]; done)), (by first | exact mv_cell hM (by first | (dsimp only; omega) | (simp; omega)) hOld.2.2.1 | exact cell_later hM hOld.2.2.1 | exact HT.cb | exact HT.cc | (simp (maxDischargeDepth := 6) [go_sem, *]; done)), (by first | exact mv_cell hM (by first | (dsimp only; omega) | (simp; omega)) hOld.2.2.2.1 | exact cell_later hM hOld.2.2.2.1 | exact HT.cb | exact HT.cc | (simp (maxDischargeDepth := 6) [go_sem, *]; done)), (by first | exact mv_cell hM (by first | (dsimp only; omega) | (simp; omega)) hOld.2.2.2.2 | exact cell_later hM hOld.2.2.2.2 | exact HT.cb | exact HT.cc | (simp (maxDischargeDepth := 6) [go_sem, *]; done))⟩ (fun hHeld => ?_)
  clear hK K hOld
  try simp only [Act.put, List.setIfInBounds_toArray, List.set_cons_zero, List.set_cons_succ]
  (first | have M := Bk.mv hM (by omega) M | have M := Bk.mv hM (by omega) (Bk.drew M) | have M := Bk.mv hM (by omega) (Bk.drew (Bk.alloc M _))); (first | have A := Bk.mv hM (by omega) A | have A := Bk.mv hM (by omega) (Bk.drew A) | have A := Bk.mv hM (by omega) (Bk.drew (Bk.alloc A _))); (first | have B := Bk.mv hM (by omega) B | have B := Bk.mv hM (by omega) (Bk.drew B) | have B := Bk.mv hM (by omega) (Bk.drew (Bk.alloc B _))); (first | have R := Bk.mv hM (by omega) R | have R := Bk.mv hM (by omega) (Bk.drew R) | have R := Bk.mv hM (by omega) (Bk.drew (Bk.alloc R _))); (first | have T := Bk.mv hM (by omega) T | have T := Bk.mv hM (by omega) (Bk.drew T) | have T := Bk.mv hM (by omega) (Bk.drew (Bk.alloc T _))); (first | have U := Bk.mv hM (by omega) U | have U := Bk.mv hM (by omega) (Bk.drew U) | have U := Bk.mv hM (by omega) (Bk.drew (Bk.alloc U _)))
  refine wpAnyH_take (i := 14) (v := ?_) (by simp only [List.getElem?_toArray, List.getElem?_cons_succ, List.getElem?_cons_zero]; rfl) (by kernel_rfl) (by kernel_rfl) (by kernel_rfl) (fun _ _ _ h => h) (Or.inl ⟨by rfl, ?_⟩) (by assumption) ?_
  rotate_left
  · intro w hSw; (try dsimp only at hSw); go_simp; try with_reducible rfl
  try simp only [Act.put, List.setIfInBounds_toArray, List.set_cons_zero, List.set_cons_succ]
  refine wpAnyH_done (by kernel_rfl) ?_ _
  (try refine NoPanic.normal ?_)
  (try clear q0); (try clear q1); (try clear q2); (try clear q3); (try clear q4); obtain ⟨q0, q1, q2, q3, q4⟩ := hHeld
  rename World => wc
  have hwc := World.block_lt_of_cell? wc _ U.1
  dsimp only at hwc
  clear C_M C_U G0 kM1 kM2 kC hM
  have C_M := M; simp only [Bk] at C_M
  have C_A := A; simp only [Bk] at C_A
  have C_B := B; simp only [Bk] at C_B
  have C_R := R; simp only [Bk] at C_R
  have C_T := T; simp only [Bk] at C_T
  obtain ⟨ov, hov⟩ : ∃ v, (o || !f0 || !f1 || !f2 || !f3 || !f4 || !f5) = v := ⟨_, rfl⟩
  rw [hov] at HM
  have HOV := Lib.hid hov
  clear hov
  by_cases hgo : (t && decide (0 < c)) = true
  · have E1 : Hid (_ ∧ _) := Lib.hid (by have h := HRV.out; rw [if_pos hgo, hgo, Bool.true_and] at h; exact h)
    rw [Bool.and_eq_true, decide_eq_true_eq] at hgo
    obtain ⟨rfl, hc0⟩ := hgo
    clear HRV
    go_upto_region 8 with (fail)
    have kD1 := fun O W => cFAdd 4294967296 bo b O W (by decide) (by decide) (by omega) (by omega)
    have t0 := sat_lo (4294967296 + bo); have t1 := sat_hi (4294967296 + bo)
    have kD2 := fun O W => cMl c (sat (4294967296 + bo)) b O W c0 c1 t0 t1
    have kD3 := fun O W => cFAdd m1 m2 b O W (by omega) (by omega) (by omega) (by omega)
    have e0 := ml_lo c (sat (4294967296 + bo)); have e1 := ml_hi c (sat (4294967296 + bo))
    have e2 := sat_lo (m1 + m2); have e3 := sat_hi (m1 + m2)
    have kD4 := fun O W => cFDiv (ml c (sat (4294967296 + bo))) (sat (m1 + m2)) b O W e0 e1 e2 e3
    have s0 := fq_lo (ml c (sat (4294967296 + bo))) (sat (m1 + m2))
    have E2 : bshok c bo m1 m2 = (fx (4294967296 + bo) && mlok c (sat (4294967296 + bo)) && fx (m1 + m2) && fqok (ml c (sat (4294967296 + bo))) (sat (m1 + m2))) := rfl
    have E3 : bsh c bo m1 m2 = fq (ml c (sat (4294967296 + bo))) (sat (m1 + m2)) := rfl
    generalize bshok c bo m1 m2 = hs at *
    generalize bsh c bo m1 m2 = sh at *
    rw [← E3] at s0 kD4
    clear E3
    generalize fqok (ml c (sat (4294967296 + bo))) (sat (m1 + m2)) = i4 at *
    generalize ml c (sat (4294967296 + bo)) = pm at *
    generalize mlok c (sat (4294967296 + bo)) = i2 at *
    generalize sat (4294967296 + bo) = pb at *
    generalize fx (4294967296 + bo) = i1 at *
    generalize sat (m1 + m2) = pms at *
    generalize fx (m1 + m2) = i3 at *
    have HE2 := Lib.hid E2
    clear E2 e0 e1 e2 e3 t0 t1
    clear C_M C_A C_B C_R C_T
    (try simp only [List.cons_append, List.nil_append])
    (try refine wp_region_noPanic ?_)
    refine wp_region_held_drew (S := (fun (w' : World) => Bk w.heap.size 0 [.pointer (some ⟨b, 0, none⟩)] w' ∧ Bk (w.heap.size + 1) 0 [.int .i64 ax, .int .i64 ay, .int .i64 vx, .int .i64 vy, .int .i64 s1, .int .i64 m1] w' ∧ Bk (w.heap.size + 1 + 1) 0 [.int .i64 bx, .int .i64 bY, .int .i64 wx, .int .i64 wy, .int .i64 s2, .int .i64 m2] w')) (by kernel_rfl) ⟨by (repeat (first | with_reducible assumption | with_reducible apply Bk.drew | with_reducible apply Bk.alloc | with_reducible apply Bk.later (hB := hR) | with_reducible apply Bk.later (hB := hM) | ((with_reducible apply Bk.mv hM); (focus omega)) | ((with_reducible apply Bk.later); rotate_left; (with_reducible assumption)) | ((with_reducible apply Bk.put); rotate_left; (first | (dsimp only; omega))))), by (repeat (first | with_reducible assumption | with_reducible apply Bk.drew | with_reducible apply Bk.alloc | with_reducible apply Bk.later (hB := hR) | with_reducible apply Bk.later (hB := hM) | ((with_reducible apply Bk.mv hM); (focus omega)) | ((with_reducible apply Bk.later); rotate_left; (with_reducible assumption)) | ((with_reducible apply Bk.put); rotate_left; (first | (dsimp only; omega))))), by (repeat (first | with_reducible assumption | with_reducible apply Bk.drew | with_reducible apply Bk.alloc | with_reducible apply Bk.later (hB := hR) | with_reducible apply Bk.later (hB := hM) | ((with_reducible apply Bk.mv hM); (focus omega)) | ((with_reducible apply Bk.later); rotate_left; (with_reducible assumption)) | ((with_reducible apply Bk.put); rotate_left; (first | (dsimp only; omega)))))⟩ (fun hHeld => ?_)
    refine wpAnyH_take (i := 0) (v := ?_) (by simp only [List.getElem?_toArray, List.getElem?_cons_succ, List.getElem?_cons_zero]; rfl) (by kernel_rfl) (by kernel_rfl) (by kernel_rfl) (fun _ _ _ h => h) (Or.inl ⟨by rfl, ?_⟩) (by assumption) ?_
    rotate_left
    · intro w hSw; (try dsimp only at hSw); simp only [Bk] at hSw; go_simp; try with_reducible rfl
    (try simp only [Act.put, List.setIfInBounds_toArray]); (try dsimp only [List.set_cons_zero, List.set_cons_succ])
    refine wpAnyH_take (i := 1) (v := ?_) (by simp only [List.getElem?_toArray, List.getElem?_cons_succ, List.getElem?_cons_zero]; rfl) (by kernel_rfl) (by kernel_rfl) (by kernel_rfl) (fun _ _ _ h => h) (Or.inl ⟨by rfl, ?_⟩) (by assumption) ?_
    rotate_left
    · intro w hSw; (try dsimp only at hSw); simp only [Bk] at hSw; go_simp; try with_reducible rfl
    (try simp only [Act.put, List.setIfInBounds_toArray]); (try dsimp only [List.set_cons_zero, List.set_cons_succ])
    refine wpAnyH_take (i := 2) (v := ?_) (by simp only [List.getElem?_toArray, List.getElem?_cons_succ, List.getElem?_cons_zero]; rfl) (by kernel_rfl) (by kernel_rfl) (by kernel_rfl) (fun _ _ _ h => h) (Or.inl ⟨by rfl, ?_⟩) (by assumption) ?_
    rotate_left
    · intro w hSw; (try dsimp only at hSw); simp only [Bk] at hSw; go_simp; try with_reducible rfl
    (try simp only [Act.put, List.setIfInBounds_toArray]); (try dsimp only [List.set_cons_zero, List.set_cons_succ])
    refine wpAnyH_take (i := 3) (v := ?_) (by simp only [List.getElem?_toArray, List.getElem?_cons_succ, List.getElem?_cons_zero]; rfl) (by kernel_rfl) (by kernel_rfl) (by kernel_rfl) (fun _ _ _ h => h) (Or.inl ⟨by rfl, ?_⟩) (by assumption) ?_
    rotate_left
    · intro w hSw; (try dsimp only at hSw); simp only [Bk] at hSw; go_simp; try with_reducible rfl
    (try simp only [Act.put, List.setIfInBounds_toArray]); (try dsimp only [List.set_cons_zero, List.set_cons_succ])
    refine wpAnyH_take (i := 4) (v := ?_) (by simp only [List.getElem?_toArray, List.getElem?_cons_succ, List.getElem?_cons_zero]; rfl) (by kernel_rfl) (by kernel_rfl) (by kernel_rfl) (fun _ _ _ h => h) (Or.inl ⟨by rfl, ?_⟩) (by assumption) ?_
    rotate_left
    · intro w hSw; (try dsimp only at hSw); simp only [Bk] at hSw; go_simp; try with_reducible rfl
    (try simp only [Act.put, List.setIfInBounds_toArray]); (try dsimp only [List.set_cons_zero, List.set_cons_succ])
    refine wpAnyH_take (i := 7) (v := ?_) (by simp only [List.getElem?_toArray, List.getElem?_cons_succ, List.getElem?_cons_zero]; rfl) (by kernel_rfl) (by kernel_rfl) (by kernel_rfl) (fun _ _ _ h => h) (Or.inl ⟨by rfl, ?_⟩) (by assumption) ?_
    rotate_left
    · intro w hSw; (try dsimp only at hSw); simp only [Bk] at hSw; go_simp; try with_reducible rfl
    (try simp only [Act.put, List.setIfInBounds_toArray]); (try dsimp only [List.set_cons_zero, List.set_cons_succ])
    refine wpAnyH_take (i := 8) (v := ?_) (by simp only [List.getElem?_toArray, List.getElem?_cons_succ, List.getElem?_cons_zero]; rfl) (by kernel_rfl) (by kernel_rfl) (by kernel_rfl) (fun _ _ _ h => h) (Or.inl ⟨by rfl, ?_⟩) (by assumption) ?_
    rotate_left
    · intro w hSw; (try dsimp only at hSw); simp only [Bk] at hSw; go_simp; try with_reducible rfl
    (try simp only [Act.put, List.setIfInBounds_toArray]); (try dsimp only [List.set_cons_zero, List.set_cons_succ])
    refine wpAnyH_take (i := 9) (v := ?_) (by simp only [List.getElem?_toArray, List.getElem?_cons_succ, List.getElem?_cons_zero]; rfl) (by kernel_rfl) (by kernel_rfl) (by kernel_rfl) (fun _ _ _ h => h) (Or.inl ⟨by rfl, ?_⟩) (by assumption) ?_
    rotate_left
    · intro w hSw; (try dsimp only at hSw); simp only [Bk] at hSw; go_simp; try with_reducible rfl
    (try simp only [Act.put, List.setIfInBounds_toArray]); (try dsimp only [List.set_cons_zero, List.set_cons_succ])
    refine wpAnyH_take (i := 10) (v := ?_) (by simp only [List.getElem?_toArray, List.getElem?_cons_succ, List.getElem?_cons_zero]; rfl) (by kernel_rfl) (by kernel_rfl) (by kernel_rfl) (fun _ _ _ h => h) (Or.inl ⟨by rfl, ?_⟩) (by assumption) ?_
    rotate_left
    · intro w hSw; (try dsimp only at hSw); simp only [Bk] at hSw; go_simp; try with_reducible rfl
    (try simp only [Act.put, List.setIfInBounds_toArray]); (try dsimp only [List.set_cons_zero, List.set_cons_succ])
    refine wpAnyH_take (i := 11) (v := ?_) (by simp only [List.getElem?_toArray, List.getElem?_cons_succ, List.getElem?_cons_zero]; rfl) (by kernel_rfl) (by kernel_rfl) (by kernel_rfl) (fun _ _ _ h => h) (Or.inl ⟨by rfl, ?_⟩) (by assumption) ?_
    rotate_left
    · intro w hSw; (try dsimp only at hSw); simp only [Bk] at hSw; go_simp; try with_reducible rfl
    (try simp only [Act.put, List.setIfInBounds_toArray]); (try dsimp only [List.set_cons_zero, List.set_cons_succ])
    refine wpAnyH_listed (l' := #[true, true, true, true, true, false, false, true, true, true, true, true, false, false, false, false]) (by kernel_rfl) ?_
    refine wpAnyH_from [13, 14] (fun l0 a0 l a w' => ∃ (c0 c1 c2 c3 b0 : Bool) (x0 x1 x2 x3 y0 : Value), l = sets l0 [(5, c0), (6, c1), (12, c2), (13, c3), (14, b0)] ∧ a = puts a0 [(81, x0), (82, x1), (88, x2), (89, x3), (16, y0)] ∧ (c1 = true → c0 = true) ∧ (c2 = true → c1 = true) ∧ (c3 = true → c2 = true) ∧ (c0 = true → x0 = .int .i64 pb) ∧ (c1 = true → x1 = .int .i64 pm) ∧ (c2 = true → x2 = .int .i64 pms) ∧ (c3 = true → x3 = .int .i64 sh) ∧ (b0 = true → ∃ g : Nat, y0 = .pointer (some ⟨g, 0, none⟩) ∧ Bk g 0 [.int .i64 0] w' ∧ (wc).heap.size ≤ g) ∧ Bk w.heap.size 0 [.pointer (some ⟨b, 0, none⟩)] w' ∧ Bk (w.heap.size + 1) 0 [.int .i64 ax, .int .i64 ay, .int .i64 vx, .int .i64 vy, .int .i64 s1, .int .i64 m1] w' ∧ Bk (w.heap.size + 1 + 1) 0 [.int .i64 bx, .int .i64 bY, .int .i64 wx, .int .i64 wy, .int .i64 s2, .int .i64 m2] w' ∧ Bk (w.heap.size + 1 + 1 + 1) 0 [.int .i64 0, .int .i64 0] w' ∧ Bk (w.heap.size + 1 + 1 + 1 + 1) 0 [.int .i64 0, .int .i64 0] w' ∧ Bk wa.heap.size 0 [.int .i64 ux, .int .i64 uy] w' ∧ (wc).heap.size ≤ w'.heap.size ∧ Mv b ((ov) || (c0 && !(i1)) || (c1 && !(i2)) || (c2 && !(i3)) || (c3 && !(i4))) w w') (by kernel_rfl) ?_ ?_ ?_ ?_ ?_ ?_
    rotate_left 4
    · exact of_decide_eq_true (by kernel_rfl)
    · exact ⟨false, false, false, false, false, undef, undef, undef, undef, undef, by first | (simp only [sets, List.setIfInBounds_toArray, List.set_cons_zero, List.set_cons_succ]; done) | rfl, by first | (simp only [puts, Act.put, List.setIfInBounds_toArray, List.set_cons_zero, List.set_cons_succ]; done) | rfl, (fun h => by cases h), (fun h => by cases h), (fun h => by cases h), (fun h => by cases h), (fun h => by cases h), (fun h => by cases h), (fun h => by cases h), (fun h => by cases h), by (repeat (first | with_reducible assumption | with_reducible apply Bk.drew | with_reducible apply Bk.alloc | with_reducible apply Bk.later (hB := hR) | with_reducible apply Bk.later (hB := hM) | ((with_reducible apply Bk.mv hM); (focus omega)) | ((with_reducible apply Bk.later); rotate_left; (with_reducible assumption)) | ((with_reducible apply Bk.put); rotate_left; (first | (dsimp only; omega))))), by (repeat (first | with_reducible assumption | with_reducible apply Bk.drew | with_reducible apply Bk.alloc | with_reducible apply Bk.later (hB := hR) | with_reducible apply Bk.later (hB := hM) | ((with_reducible apply Bk.mv hM); (focus omega)) | ((with_reducible apply Bk.later); rotate_left; (with_reducible assumption)) | ((with_reducible apply Bk.put); rotate_left; (first | (dsimp only; omega))))), by (repeat (first | with_reducible assumption | with_reducible apply Bk.drew | with_reducible apply Bk.alloc | with_reducible apply Bk.later (hB := hR) | with_reducible apply Bk.later (hB := hM) | ((with_reducible apply Bk.mv hM); (focus omega)) | ((with_reducible apply Bk.later); rotate_left; (with_reducible assumption)) | ((with_reducible apply Bk.put); rotate_left; (first | (dsimp only; omega))))), by (repeat (first | with_reducible assumption | with_reducible apply Bk.drew | with_reducible apply Bk.alloc | with_reducible apply Bk.later (hB := hR) | with_reducible apply Bk.later (hB := hM) | ((with_reducible apply Bk.mv hM); (focus omega)) | ((with_reducible apply Bk.later); rotate_left; (with_reducible assumption)) | ((with_reducible apply Bk.put); rotate_left; (first | (dsimp only; omega))))), by (repeat (first | with_reducible assumption | with_reducible apply Bk.drew | with_reducible apply Bk.alloc | with_reducible apply Bk.later (hB := hR) | with_reducible apply Bk.later (hB := hM) | ((with_reducible apply Bk.mv hM); (focus omega)) | ((with_reducible apply Bk.later); rotate_left; (with_reducible assumption)) | ((with_reducible apply Bk.put); rotate_left; (first | (dsimp only; omega))))), by (repeat (first | with_reducible assumption | with_reducible apply Bk.drew | with_reducible apply Bk.alloc | with_reducible apply Bk.later (hB := hR) | with_reducible apply Bk.later (hB := hM) | ((with_reducible apply Bk.mv hM); (focus omega)) | ((with_reducible apply Bk.later); rotate_left; (with_reducible assumption)) | ((with_reducible apply Bk.put); rotate_left; (first | (dsimp only; omega))))), by first | exact Nat.le_refl _ | (simp; done), Mv.cast (by (repeat (first | with_reducible assumption | with_reducible exact Mv.refl (by assumption) (by assumption) | with_reducible apply Mv.alloc | with_reducible apply Mv.drew | with_reducible apply Mv.drewN | ((with_reducible apply Mv.setCell); rotate_left; (first | (dsimp only; omega) | omega | (simp; omega)); (first | (dsimp only; omega) | omega | (simp; omega))) | ((with_reducible apply Mv.below); rotate_left; (with_reducible assumption)) | ((with_reducible apply Mv.trans); rotate_left; (with_reducible assumption))))) (by simp only [Bool.false_and, Bool.or_false])⟩
    · rintro l a w' ⟨c0, c1, c2, c3, b0, x0, x1, x2, x3, y0, rfl, rfl, k0, k1, k2, v0, v1, v2, v3, a0, B0, B1, B2, D0, D1, D2, hz9, HM⟩; rw [sets_size]; kernel_rfl
    · rintro l a w' ⟨c0, c1, c2, c3, b0, x0, x1, x2, x3, y0, rfl, rfl, k0, k1, k2, v0, v1, v2, v3, a0, B0, B1, B2, D0, D1, D2, hz9, HM⟩; exact ⟨B0, B1, B2⟩
    · rintro l a w' ⟨c0, c1, c2, c3, b0, x0, x1, x2, x3, y0, rfl, rfl, k0, k1, k2, v0, v1, v2, v3, a0, B0, B1, B2, D0, D1, D2, hz9, HM⟩ hf i hi hd
      have hcd := cand_of [(5, c0), (6, c1), (12, c2), (13, c3), (14, b0)] (cand := [5, 6, 12, 13, 14, 15]) (by kernel_rfl) (by kernel_rfl) hi
      simp only [List.mem_cons, List.not_mem_nil, or_false] at hcd
      rcases hcd with rfl | rfl | rfl | rfl | rfl | rfl
      · have hi0 := hi
        simp only [sets, List.setIfInBounds_toArray, List.set_cons_zero, List.set_cons_succ, Array.getD_eq_getD_getElem?, List.getElem?_toArray, List.getElem?_cons_zero, List.getElem?_cons_succ, Option.getD_some] at hi
        subst hi
        clear hf hd hi0
        refine wpOp_shut rfl (fun K hK => ?_)
        simp only [puts, Act.put, List.setIfInBounds_toArray, List.set_cons_zero, List.set_cons_succ]
        have hbL := lt_of_cell HM.cell
        go_simp
        (go_at_call 16; (with_reducible refine (mvCall (b := b) (w0 := w) HM (kD1 _ _)).mono ?_); rintro e wr ⟨rfl, hR, HM⟩)
        have hzr := hR.size
        (try go_wp2_with (fail))
        exact hK.out _ _ ⟨true, c1, c2, c3, b0, .int .i64 pb, x1, x2, x3, y0, by first | (simp only [sets, List.setIfInBounds_toArray, List.set_cons_zero, List.set_cons_succ]; done) | rfl, by first | (simp only [puts, Act.put, List.setIfInBounds_toArray, List.set_cons_zero, List.set_cons_succ]; done) | rfl, (fun _ => rfl), k1, k2, (fun _ => rfl), v1, v2, v3, (fun h => by obtain ⟨g, h1, h2, h3⟩ := a0 h; exact ⟨g, h1, Bk.mv hR (by omega) h2, h3⟩), Bk.mv hR (by omega) B0, Bk.mv hR (by omega) B1, Bk.mv hR (by omega) B2, Bk.mv hR (by omega) D0, Bk.mv hR (by omega) D1, Bk.mv hR (by omega) D2, (by omega), Mv.cast HM (by simp only [Bool.true_and, Bool.false_and, Bool.or_false, Bool.false_or, Bool.or_assoc, Bool.or_left_comm, Bool.or_comm])⟩
      · have hi0 := hi
        simp only [sets, List.setIfInBounds_toArray, List.set_cons_zero, List.set_cons_succ, Array.getD_eq_getD_getElem?, List.getElem?_toArray, List.getElem?_cons_zero, List.getElem?_cons_succ, Option.getD_some] at hi
        subst hi
        have hx := dep_of hd 5 (by kernel_rfl); simp only [sets, List.setIfInBounds_toArray, List.set_cons_zero, List.set_cons_succ, Array.getD_eq_getD_getElem?, List.getElem?_toArray, List.getElem?_cons_zero, List.getElem?_cons_succ, Option.getD_some] at hx; subst hx
        clear hf hd hi0
        refine wpOp_shut rfl (fun K hK => ?_)
        simp only [puts, Act.put, List.setIfInBounds_toArray, List.set_cons_zero, List.set_cons_succ]
        have hv0 := v0 rfl; subst hv0
        have hbL := lt_of_cell HM.cell
        go_simp
        (go_at_call 17; (with_reducible refine (mvCall (b := b) (w0 := w) HM (kD2 _ _)).mono ?_); rintro e wr ⟨rfl, hR, HM⟩)
        have hzr := hR.size
        (try go_wp2_with (fail))
        exact hK.out _ _ ⟨true, true, c2, c3, b0, .int .i64 pb, .int .i64 pm, x2, x3, y0, by first | (simp only [sets, List.setIfInBounds_toArray, List.set_cons_zero, List.set_cons_succ]; done) | rfl, by first | (simp only [puts, Act.put, List.setIfInBounds_toArray, List.set_cons_zero, List.set_cons_succ]; done) | rfl, (fun _ => rfl), (fun _ => rfl), k2, (fun _ => rfl), (fun _ => rfl), v2, v3, (fun h => by obtain ⟨g, h1, h2, h3⟩ := a0 h; exact ⟨g, h1, Bk.mv hR (by omega) h2, h3⟩), Bk.mv hR (by omega) B0, Bk.mv hR (by omega) B1, Bk.mv hR (by omega) B2, Bk.mv hR (by omega) D0, Bk.mv hR (by omega) D1, Bk.mv hR (by omega) D2, (by omega), Mv.cast HM (by simp only [Bool.true_and, Bool.false_and, Bool.or_false, Bool.false_or, Bool.or_assoc, Bool.or_left_comm, Bool.or_comm])⟩
      · have hi0 := hi
        simp only [sets, List.setIfInBounds_toArray, List.set_cons_zero, List.set_cons_succ, Array.getD_eq_getD_getElem?, List.getElem?_toArray, List.getElem?_cons_zero, List.getElem?_cons_succ, Option.getD_some] at hi
        subst hi
        have hx := dep_of hd 6 (by kernel_rfl); simp only [sets, List.setIfInBounds_toArray, List.set_cons_zero, List.set_cons_succ, Array.getD_eq_getD_getElem?, List.getElem?_toArray, List.getElem?_cons_zero, List.getElem?_cons_succ, Option.getD_some] at hx; subst hx
        clear hf hd hi0
        refine wpOp_shut rfl (fun K hK => ?_)
        have hk0 := k0 rfl; subst hk0
        simp only [puts, Act.put, List.setIfInBounds_toArray, List.set_cons_zero, List.set_cons_succ]
        have hv0 := v0 rfl; subst hv0
        have hv1 := v1 rfl; subst hv1
        have hbL := lt_of_cell HM.cell
        go_simp
        (go_at_call 16; (with_reducible refine (mvCall (b := b) (w0 := w) HM (kD3 _ _)).mono ?_); rintro e wr ⟨rfl, hR, HM⟩)
        have hzr := hR.size
        (try go_wp2_with (fail))
        exact hK.out _ _ ⟨true, true, true, c3, b0, .int .i64 pb, .int .i64 pm, .int .i64 pms, x3, y0, by first | (simp only [sets, List.setIfInBounds_toArray, List.set_cons_zero, List.set_cons_succ]; done) | rfl, by first | (simp only [puts, Act.put, List.setIfInBounds_toArray, List.set_cons_zero, List.set_cons_succ]; done) | rfl, (fun _ => rfl), (fun _ => rfl), (fun _ => rfl), (fun _ => rfl), (fun _ => rfl), (fun _ => rfl), v3, (fun h => by obtain ⟨g, h1, h2, h3⟩ := a0 h; exact ⟨g, h1, Bk.mv hR (by omega) h2, h3⟩), Bk.mv hR (by omega) B0, Bk.mv hR (by omega) B1, Bk.mv hR (by omega) B2, Bk.mv hR (by omega) D0, Bk.mv hR (by omega) D1, Bk.mv hR (by omega) D2, (by omega), Mv.cast HM (by simp only [Bool.true_and, Bool.false_and, Bool.or_false, Bool.false_or, Bool.or_assoc, Bool.or_left_comm, Bool.or_comm])⟩
      · have hi0 := hi
        simp only [sets, List.setIfInBounds_toArray, List.set_cons_zero, List.set_cons_succ, Array.getD_eq_getD_getElem?, List.getElem?_toArray, List.getElem?_cons_zero, List.getElem?_cons_succ, Option.getD_some] at hi
        subst hi
        have hx := dep_of hd 12 (by kernel_rfl); simp only [sets, List.setIfInBounds_toArray, List.set_cons_zero, List.set_cons_succ, Array.getD_eq_getD_getElem?, List.getElem?_toArray, List.getElem?_cons_zero, List.getElem?_cons_succ, Option.getD_some] at hx; subst hx
        clear hf hd hi0
        refine wpOp_shut rfl (fun K hK => ?_)
        have hk1 := k1 rfl; subst hk1
        have hk0 := k0 rfl; subst hk0
        simp only [puts, Act.put, List.setIfInBounds_toArray, List.set_cons_zero, List.set_cons_succ]
        have hv0 := v0 rfl; subst hv0
        have hv1 := v1 rfl; subst hv1
        have hv2 := v2 rfl; subst hv2
        have hbL := lt_of_cell HM.cell
        go_simp
        (go_at_call 31; (with_reducible refine (mvCall (b := b) (w0 := w) HM (kD4 _ _)).mono ?_); rintro e wr ⟨rfl, hR, HM⟩)
        have hzr := hR.size
        (try go_wp2_with (fail))
        exact hK.out _ _ ⟨true, true, true, true, b0, .int .i64 pb, .int .i64 pm, .int .i64 pms, .int .i64 sh, y0, by first | (simp only [sets, List.setIfInBounds_toArray, List.set_cons_zero, List.set_cons_succ]; done) | rfl, by first | (simp only [puts, Act.put, List.setIfInBounds_toArray, List.set_cons_zero, List.set_cons_succ]; done) | rfl, (fun _ => rfl), (fun _ => rfl), (fun _ => rfl), (fun _ => rfl), (fun _ => rfl), (fun _ => rfl), (fun _ => rfl), (fun h => by obtain ⟨g, h1, h2, h3⟩ := a0 h; exact ⟨g, h1, Bk.mv hR (by omega) h2, h3⟩), Bk.mv hR (by omega) B0, Bk.mv hR (by omega) B1, Bk.mv hR (by omega) B2, Bk.mv hR (by omega) D0, Bk.mv hR (by omega) D1, Bk.mv hR (by omega) D2, (by omega), Mv.cast HM (by simp only [Bool.true_and, Bool.false_and, Bool.or_false, Bool.false_or, Bool.or_assoc, Bool.or_left_comm, Bool.or_comm])⟩
      · have hi0 := hi
        simp only [sets, List.setIfInBounds_toArray, List.set_cons_zero, List.set_cons_succ, Array.getD_eq_getD_getElem?, List.getElem?_toArray, List.getElem?_cons_zero, List.getElem?_cons_succ, Option.getD_some] at hi
        subst hi
        clear hf hd hi0
        refine wpOp_shut rfl (fun K hK => ?_)
        simp only [puts, Act.put, List.setIfInBounds_toArray, List.set_cons_zero, List.set_cons_succ]
        have hzn := hz9
        go_simp
        exact hK.out _ _ ⟨c0, c1, c2, c3, true, x0, x1, x2, x3, .pointer (some ⟨w'.heap.size, 0, none⟩), by first | (simp only [sets, List.setIfInBounds_toArray, List.set_cons_zero, List.set_cons_succ]; done) | rfl, by first | (simp only [puts, Act.put, List.setIfInBounds_toArray, List.set_cons_zero, List.set_cons_succ]; done) | rfl, k0, k1, k2, v0, v1, v2, v3, (fun _ => ⟨w'.heap.size, rfl, by simp [Bk, go_sem], hz9⟩), Bk.alloc B0 _, Bk.alloc B1 _, Bk.alloc B2 _, Bk.alloc D0 _, Bk.alloc D1 _, Bk.alloc D2 _, (by simp only [World.size_alloc]; omega), HM.alloc _⟩
      · have hi0 := hi
        have hx0 := dep_of hd 13 (by kernel_rfl); simp only [sets, List.setIfInBounds_toArray, List.set_cons_zero, List.set_cons_succ, Array.getD_eq_getD_getElem?, List.getElem?_toArray, List.getElem?_cons_zero, List.getElem?_cons_succ, Option.getD_some] at hx0; subst hx0
        have hx1 := dep_of hd 14 (by kernel_rfl); simp only [sets, List.setIfInBounds_toArray, List.set_cons_zero, List.set_cons_succ, Array.getD_eq_getD_getElem?, List.getElem?_toArray, List.getElem?_cons_zero, List.getElem?_cons_succ, Option.getD_some] at hx1; subst hx1
        obtain ⟨q, hq, hf⟩ := hf; simp only [List.mem_cons, List.not_mem_nil, or_false] at hq
        rcases hq with rfl | rfl <;> simp only [sets, List.setIfInBounds_toArray, List.set_cons_zero, List.set_cons_succ, Array.getD_eq_getD_getElem?, List.getElem?_toArray, List.getElem?_cons_zero, List.getElem?_cons_succ, Option.getD_some] at hf <;> cases hf
    rintro l a w' n ⟨c0, c1, c2, c3, b0, x0, x1, x2, x3, y0, rfl, rfl, k0, k1, k2, v0, v1, v2, v3, a0, B0, B1, B2, D0, D1, D2, hz9, HM⟩ hf hu
    have hf0 := hf 13 (by simp); simp only [sets, List.setIfInBounds_toArray, List.set_cons_zero, List.set_cons_succ, Array.getD_eq_getD_getElem?, List.getElem?_toArray, List.getElem?_cons_zero, List.getElem?_cons_succ, Option.getD_some] at hf0; subst hf0
    have hf1 := hf 14 (by simp); simp only [sets, List.setIfInBounds_toArray, List.set_cons_zero, List.set_cons_succ, Array.getD_eq_getD_getElem?, List.getElem?_toArray, List.getElem?_cons_zero, List.getElem?_cons_succ, Option.getD_some] at hf1; subst hf1
    have hk2 := k2 rfl; subst hk2
    have hk1 := k1 rfl; subst hk1
    have hk0 := k0 rfl; subst hk0
    have hv0 := v0 rfl; subst hv0
    have hv1 := v1 rfl; subst hv1
    have hv2 := v2 rfl; subst hv2
    have hv3 := v3 rfl; subst hv3
    obtain ⟨g0, rfl, G0, L0⟩ := a0 rfl
    have hbL := lt_of_cell HM.cell
    have N0 : g0 ≠ b := by omega
    obtain ⟨n, rfl⟩ : ∃ q, n = q + 1 := ⟨n - 1, by have hu2 := Nat.le_trans (by (simp only [sets, List.setIfInBounds_toArray, List.set_cons_zero, List.set_cons_succ]); exact of_decide_eq_true (by kernel_rfl) : 1 ≤ _) hu; omega⟩
    simp only [sets, puts, Act.put, List.setIfInBounds_toArray, List.set_cons_zero, List.set_cons_succ]
    clear hu k0 k1 k2 v0 v1 v2 v3
    have hHeld : (fun (w' : World) => Bk w.heap.size 0 [.pointer (some ⟨b, 0, none⟩)] w' ∧ Bk (w.heap.size + 1) 0 [.int .i64 ax, .int .i64 ay, .int .i64 vx, .int .i64 vy, .int .i64 s1, .int .i64 m1] w' ∧ Bk (w.heap.size + 1 + 1) 0 [.int .i64 bx, .int .i64 bY, .int .i64 wx, .int .i64 wy, .int .i64 s2, .int .i64 m2] w') w' := ⟨B0, B1, B2⟩
    have C_B0 := B0; simp only [Bk] at C_B0
    have C_B1 := B1; simp only [Bk] at C_B1
    have C_B2 := B2; simp only [Bk] at C_B2
    have C_D0 := D0; simp only [Bk] at C_D0
    have C_D1 := D1; simp only [Bk] at C_D1
    have C_D2 := D2; simp only [Bk] at C_D2
    have C_G0 := G0; simp only [Bk] at C_G0
    have hOld := hHeld; clear hHeld
    refine wpAnyH_ready (rs := [15]) (by kernel_rfl) (by simp) (AllReadyH.cons rfl (fun K hK => ?_) AllReadyH.nil)
    go_simp
    refine hK.out _ _ ⟨by (repeat (first | with_reducible assumption | with_reducible apply Bk.drew | with_reducible apply Bk.alloc | with_reducible apply Bk.later (hB := hR) | with_reducible apply Bk.later (hB := hM) | ((with_reducible apply Bk.mv hM); (focus omega)) | ((with_reducible apply Bk.later); rotate_left; (with_reducible assumption)) | ((with_reducible apply Bk.put); rotate_left; (first | (dsimp only; omega))))), by (repeat (first | with_reducible assumption | with_reducible apply Bk.drew | with_reducible apply Bk.alloc | with_reducible apply Bk.later (hB := hR) | with_reducible apply Bk.later (hB := hM) | ((with_reducible apply Bk.mv hM); (focus omega)) | ((with_reducible apply Bk.later); rotate_left; (with_reducible assumption)) | ((with_reducible apply Bk.put); rotate_left; (first | (dsimp only; omega))))), by (repeat (first | with_reducible assumption | with_reducible apply Bk.drew | with_reducible apply Bk.alloc | with_reducible apply Bk.later (hB := hR) | with_reducible apply Bk.later (hB := hM) | ((with_reducible apply Bk.mv hM); (focus omega)) | ((with_reducible apply Bk.later); rotate_left; (with_reducible assumption)) | ((with_reducible apply Bk.put); rotate_left; (first | (dsimp only; omega)))))⟩ (fun hHeld => ?_)
    clear hK K hOld
    (try simp only [Act.put, List.setIfInBounds_toArray]); (try dsimp only [List.set_cons_zero, List.set_cons_succ])
    refine wpAnyH_done (by kernel_rfl) ?_ _
    (try refine NoPanic.normal ?_)
    obtain ⟨ov2, hov2⟩ : ∃ v, (ov || (true && !i1) || (true && !i2) || (true && !i3) || (true && !i4)) = v := ⟨_, rfl⟩
    rw [hov2] at HM
    have HOV2 := Lib.hid hov2
    clear hov2 kD1 kD2 kD3 kD4
    go_upto_region 10 with (fail)
    generalize hW2 : World.setCell _ _ _ = W2
    have M : Bk (w.heap.size) 0 [.pointer (some ⟨b, 0, none⟩)] W2 := by rw [← hW2]; (repeat (first | with_reducible assumption | with_reducible apply Bk.drew | with_reducible apply Bk.alloc | with_reducible apply Bk.later (hB := hR) | with_reducible apply Bk.later (hB := hM) | ((with_reducible apply Bk.mv hM); (focus omega)) | ((with_reducible apply Bk.later); rotate_left; (with_reducible assumption)) | ((with_reducible apply Bk.put); rotate_left; (first | (dsimp only; omega)))))
    have A : Bk (w.heap.size + 1) 0 [.int .i64 ax, .int .i64 ay, .int .i64 vx, .int .i64 vy, .int .i64 s1, .int .i64 m1] W2 := by rw [← hW2]; (repeat (first | with_reducible assumption | with_reducible apply Bk.drew | with_reducible apply Bk.alloc | with_reducible apply Bk.later (hB := hR) | with_reducible apply Bk.later (hB := hM) | ((with_reducible apply Bk.mv hM); (focus omega)) | ((with_reducible apply Bk.later); rotate_left; (with_reducible assumption)) | ((with_reducible apply Bk.put); rotate_left; (first | (dsimp only; omega)))))
    have B : Bk (w.heap.size + 1 + 1) 0 [.int .i64 bx, .int .i64 bY, .int .i64 wx, .int .i64 wy, .int .i64 s2, .int .i64 m2] W2 := by rw [← hW2]; (repeat (first | with_reducible assumption | with_reducible apply Bk.drew | with_reducible apply Bk.alloc | with_reducible apply Bk.later (hB := hR) | with_reducible apply Bk.later (hB := hM) | ((with_reducible apply Bk.mv hM); (focus omega)) | ((with_reducible apply Bk.later); rotate_left; (with_reducible assumption)) | ((with_reducible apply Bk.put); rotate_left; (first | (dsimp only; omega)))))
    have R : Bk (w.heap.size + 1 + 1 + 1) 0 [.int .i64 0, .int .i64 0] W2 := by rw [← hW2]; (repeat (first | with_reducible assumption | with_reducible apply Bk.drew | with_reducible apply Bk.alloc | with_reducible apply Bk.later (hB := hR) | with_reducible apply Bk.later (hB := hM) | ((with_reducible apply Bk.mv hM); (focus omega)) | ((with_reducible apply Bk.later); rotate_left; (with_reducible assumption)) | ((with_reducible apply Bk.put); rotate_left; (first | (dsimp only; omega)))))
    have T : Bk (w.heap.size + 1 + 1 + 1 + 1) 0 [.int .i64 0, .int .i64 0] W2 := by rw [← hW2]; (repeat (first | with_reducible assumption | with_reducible apply Bk.drew | with_reducible apply Bk.alloc | with_reducible apply Bk.later (hB := hR) | with_reducible apply Bk.later (hB := hM) | ((with_reducible apply Bk.mv hM); (focus omega)) | ((with_reducible apply Bk.later); rotate_left; (with_reducible assumption)) | ((with_reducible apply Bk.put); rotate_left; (first | (dsimp only; omega)))))
    have U : Bk wa.heap.size 0 [.int .i64 ux, .int .i64 uy] W2 := by rw [← hW2]; (repeat (first | with_reducible assumption | with_reducible apply Bk.drew | with_reducible apply Bk.alloc | with_reducible apply Bk.later (hB := hR) | with_reducible apply Bk.later (hB := hM) | ((with_reducible apply Bk.mv hM); (focus omega)) | ((with_reducible apply Bk.later); rotate_left; (with_reducible assumption)) | ((with_reducible apply Bk.put); rotate_left; (first | (dsimp only; omega)))))
    have SH : Bk g0 0 [.int .i64 sh] W2 := by rw [← hW2]; clear hW2; simp [Bk, go_sem, *]
    have HM : Mv b ov2 w W2 := by rw [← hW2]; (repeat (first | with_reducible assumption | with_reducible exact Mv.refl (by assumption) (by assumption) | with_reducible apply Mv.alloc | with_reducible apply Mv.drew | with_reducible apply Mv.drewN | ((with_reducible apply Mv.setCell); rotate_left; (first | (dsimp only; omega) | omega | (simp; omega)); (first | (dsimp only; omega) | omega | (simp; omega))) | ((with_reducible apply Mv.below); rotate_left; (with_reducible assumption)) | ((with_reducible apply Mv.trans); rotate_left; (with_reducible assumption))))
    clear hW2
    clear hHeld
    have kT1 := fun pm ps pu O W => cBTurnSub vx vy m2 sh ux uy b pm ps pu O W (by omega) (by omega) (by omega) (by omega) (by omega) (by omega) (by omega) (by omega) (by omega) (by omega) (by omega) (by omega)
    have kT2 := fun pm ps pu O W => cBTurnAdd wx wy m1 sh ux uy b pm ps pu O W (by omega) (by omega) (by omega) (by omega) (by omega) (by omega) (by omega) (by omega) (by omega) (by omega) (by omega) (by omega)
    have E4 : turnok sh m1 m2 vx vy wx wy ux uy = ((mlok sh m2 && tnok true vx ux (ml sh m2) && tnok true vy uy (ml sh m2)) && (mlok sh m1 && tnok false wx ux (ml sh m1) && tnok false wy uy (ml sh m1))) := rfl
    rw [E4] at E1
    clear E4
    generalize (mlok sh m2 && tnok true vx ux (ml sh m2) && tnok true vy uy (ml sh m2)) = j1 at *
    generalize (mlok sh m1 && tnok false wx ux (ml sh m1) && tnok false wy uy (ml sh m1)) = j2 at *
    generalize tn true vx ux (ml sh m2) = r1 at *
    generalize tn true vy uy (ml sh m2) = r2 at *
    generalize tn false wx ux (ml sh m1) = r3 at *
    generalize tn false wy uy (ml sh m1) = r4 at *
    (try simp only [List.cons_append, List.nil_append])
    (try refine wp_region_noPanic ?_)
    refine wp_region_held_drew (S := (fun (w' : World) => Bk w.heap.size 0 [.pointer (some ⟨b, 0, none⟩)] w' ∧ Bk g0 0 [.int .i64 sh] w' ∧ Bk wa.heap.size 0 [.int .i64 ux, .int .i64 uy] w' ∧ Bk (w.heap.size + 1) 0 [.int .i64 ax, .int .i64 ay, .int .i64 vx, .int .i64 vy, .int .i64 s1, .int .i64 m1] w' ∧ Bk (w.heap.size + 1 + 1) 0 [.int .i64 bx, .int .i64 bY, .int .i64 wx, .int .i64 wy, .int .i64 s2, .int .i64 m2] w')) (by kernel_rfl) ⟨by (repeat (first | with_reducible assumption | with_reducible apply Bk.drew | with_reducible apply Bk.alloc | with_reducible apply Bk.later (hB := hR) | with_reducible apply Bk.later (hB := hM) | ((with_reducible apply Bk.mv hM); (focus omega)) | ((with_reducible apply Bk.later); rotate_left; (with_reducible assumption)) | ((with_reducible apply Bk.put); rotate_left; (first | (dsimp only; omega))))), by (repeat (first | with_reducible assumption | with_reducible apply Bk.drew | with_reducible apply Bk.alloc | with_reducible apply Bk.later (hB := hR) | with_reducible apply Bk.later (hB := hM) | ((with_reducible apply Bk.mv hM); (focus omega)) | ((with_reducible apply Bk.later); rotate_left; (with_reducible assumption)) | ((with_reducible apply Bk.put); rotate_left; (first | (dsimp only; omega))))), by (repeat (first | with_reducible assumption | with_reducible apply Bk.drew | with_reducible apply Bk.alloc | with_reducible apply Bk.later (hB := hR) | with_reducible apply Bk.later (hB := hM) | ((with_reducible apply Bk.mv hM); (focus omega)) | ((with_reducible apply Bk.later); rotate_left; (with_reducible assumption)) | ((with_reducible apply Bk.put); rotate_left; (first | (dsimp only; omega))))), by (repeat (first | with_reducible assumption | with_reducible apply Bk.drew | with_reducible apply Bk.alloc | with_reducible apply Bk.later (hB := hR) | with_reducible apply Bk.later (hB := hM) | ((with_reducible apply Bk.mv hM); (focus omega)) | ((with_reducible apply Bk.later); rotate_left; (with_reducible assumption)) | ((with_reducible apply Bk.put); rotate_left; (first | (dsimp only; omega))))), by (repeat (first | with_reducible assumption | with_reducible apply Bk.drew | with_reducible apply Bk.alloc | with_reducible apply Bk.later (hB := hR) | with_reducible apply Bk.later (hB := hM) | ((with_reducible apply Bk.mv hM); (focus omega)) | ((with_reducible apply Bk.later); rotate_left; (with_reducible assumption)) | ((with_reducible apply Bk.put); rotate_left; (first | (dsimp only; omega)))))⟩ (fun hHeld => ?_)
    refine wpAnyH_take (i := 0) (v := ?_) (by simp only [List.getElem?_toArray, List.getElem?_cons_succ, List.getElem?_cons_zero]; rfl) (by kernel_rfl) (by kernel_rfl) (by kernel_rfl) (fun _ _ _ h => h) (Or.inl ⟨by rfl, ?_⟩) (by assumption) ?_
    rotate_left
    · intro w hSw; (try dsimp only at hSw); simp only [Bk] at hSw; go_simp; try with_reducible rfl
    (try simp only [Act.put, List.setIfInBounds_toArray]); (try dsimp only [List.set_cons_zero, List.set_cons_succ])
    refine wpAnyH_take (i := 1) (v := ?_) (by simp only [List.getElem?_toArray, List.getElem?_cons_succ, List.getElem?_cons_zero]; rfl) (by kernel_rfl) (by kernel_rfl) (by kernel_rfl) (fun _ _ _ h => h) (Or.inl ⟨by rfl, ?_⟩) (by assumption) ?_
    rotate_left
    · intro w hSw; (try dsimp only at hSw); simp only [Bk] at hSw; go_simp; try with_reducible rfl
    (try simp only [Act.put, List.setIfInBounds_toArray]); (try dsimp only [List.set_cons_zero, List.set_cons_succ])
    refine wpAnyH_take (i := 2) (v := ?_) (by simp only [List.getElem?_toArray, List.getElem?_cons_succ, List.getElem?_cons_zero]; rfl) (by kernel_rfl) (by kernel_rfl) (by kernel_rfl) (fun _ _ _ h => h) (Or.inl ⟨by rfl, ?_⟩) (by assumption) ?_
    rotate_left
    · intro w hSw; (try dsimp only at hSw); simp only [Bk] at hSw; go_simp; try with_reducible rfl
    (try simp only [Act.put, List.setIfInBounds_toArray]); (try dsimp only [List.set_cons_zero, List.set_cons_succ])
    refine wpAnyH_take (i := 3) (v := ?_) (by simp only [List.getElem?_toArray, List.getElem?_cons_succ, List.getElem?_cons_zero]; rfl) (by kernel_rfl) (by kernel_rfl) (by kernel_rfl) (fun _ _ _ h => h) (Or.inl ⟨by rfl, ?_⟩) (by assumption) ?_
    rotate_left
    · intro w hSw; (try dsimp only at hSw); simp only [Bk] at hSw; go_simp; try with_reducible rfl
    (try simp only [Act.put, List.setIfInBounds_toArray]); (try dsimp only [List.set_cons_zero, List.set_cons_succ])
    refine wpAnyH_take (i := 4) (v := ?_) (by simp only [List.getElem?_toArray, List.getElem?_cons_succ, List.getElem?_cons_zero]; rfl) (by kernel_rfl) (by kernel_rfl) (by kernel_rfl) (fun _ _ _ h => h) (Or.inl ⟨by rfl, ?_⟩) (by assumption) ?_
    rotate_left
    · intro w hSw; (try dsimp only at hSw); simp only [Bk] at hSw; go_simp; try with_reducible rfl
    (try simp only [Act.put, List.setIfInBounds_toArray]); (try dsimp only [List.set_cons_zero, List.set_cons_succ])
    refine wpAnyH_take (i := 5) (v := ?_) (by simp only [List.getElem?_toArray, List.getElem?_cons_succ, List.getElem?_cons_zero]; rfl) (by kernel_rfl) (by kernel_rfl) (by kernel_rfl) (fun _ _ _ h => h) (Or.inl ⟨by rfl, ?_⟩) (by assumption) ?_
    rotate_left
    · intro w hSw; (try dsimp only at hSw); simp only [Bk] at hSw; go_simp; try with_reducible rfl
    (try simp only [Act.put, List.setIfInBounds_toArray]); (try dsimp only [List.set_cons_zero, List.set_cons_succ])
    refine wpAnyH_take (i := 6) (v := ?_) (by simp only [List.getElem?_toArray, List.getElem?_cons_succ, List.getElem?_cons_zero]; rfl) (by kernel_rfl) (by kernel_rfl) (by kernel_rfl) (fun _ _ _ h => h) (Or.inl ⟨by rfl, ?_⟩) (by assumption) ?_
    rotate_left
    · intro w hSw; (try dsimp only at hSw); simp only [Bk] at hSw; go_simp; try with_reducible rfl
    (try simp only [Act.put, List.setIfInBounds_toArray]); (try dsimp only [List.set_cons_zero, List.set_cons_succ])
    refine wpAnyH_take (i := 8) (v := ?_) (by simp only [List.getElem?_toArray, List.getElem?_cons_succ, List.getElem?_cons_zero]; rfl) (by kernel_rfl) (by kernel_rfl) (by kernel_rfl) (fun _ _ _ h => h) (Or.inl ⟨by rfl, ?_⟩) (by assumption) ?_
    rotate_left
    · intro w hSw; (try dsimp only at hSw); simp only [Bk] at hSw; go_simp; try with_reducible rfl
    (try simp only [Act.put, List.setIfInBounds_toArray]); (try dsimp only [List.set_cons_zero, List.set_cons_succ])
    refine wpAnyH_take (i := 9) (v := ?_) (by simp only [List.getElem?_toArray, List.getElem?_cons_succ, List.getElem?_cons_zero]; rfl) (by kernel_rfl) (by kernel_rfl) (by kernel_rfl) (fun _ _ _ h => h) (Or.inl ⟨by rfl, ?_⟩) (by assumption) ?_
    rotate_left
    · intro w hSw; (try dsimp only at hSw); simp only [Bk] at hSw; go_simp; try with_reducible rfl
    (try simp only [Act.put, List.setIfInBounds_toArray]); (try dsimp only [List.set_cons_zero, List.set_cons_succ])
    refine wpAnyH_take (i := 10) (v := ?_) (by simp only [List.getElem?_toArray, List.getElem?_cons_succ, List.getElem?_cons_zero]; rfl) (by kernel_rfl) (by kernel_rfl) (by kernel_rfl) (fun _ _ _ h => h) (Or.inl ⟨by rfl, ?_⟩) (by assumption) ?_
    rotate_left
    · intro w hSw; (try dsimp only at hSw); simp only [Bk] at hSw; go_simp; try with_reducible rfl
    (try simp only [Act.put, List.setIfInBounds_toArray]); (try dsimp only [List.set_cons_zero, List.set_cons_succ])
    refine wpAnyH_take (i := 11) (v := ?_) (by simp only [List.getElem?_toArray, List.getElem?_cons_succ, List.getElem?_cons_zero]; rfl) (by kernel_rfl) (by kernel_rfl) (by kernel_rfl) (fun _ _ _ h => h) (Or.inl ⟨by rfl, ?_⟩) (by assumption) ?_
    rotate_left
    · intro w hSw; (try dsimp only at hSw); simp only [Bk] at hSw; go_simp; try with_reducible rfl
    (try simp only [Act.put, List.setIfInBounds_toArray]); (try dsimp only [List.set_cons_zero, List.set_cons_succ])
    refine wpAnyH_take (i := 12) (v := ?_) (by simp only [List.getElem?_toArray, List.getElem?_cons_succ, List.getElem?_cons_zero]; rfl) (by kernel_rfl) (by kernel_rfl) (by kernel_rfl) (fun _ _ _ h => h) (Or.inl ⟨by rfl, ?_⟩) (by assumption) ?_
    rotate_left
    · intro w hSw; (try dsimp only at hSw); simp only [Bk] at hSw; go_simp; try with_reducible rfl
    (try simp only [Act.put, List.setIfInBounds_toArray]); (try dsimp only [List.set_cons_zero, List.set_cons_succ])
    refine wpAnyH_take (i := 13) (v := ?_) (by simp only [List.getElem?_toArray, List.getElem?_cons_succ, List.getElem?_cons_zero]; rfl) (by kernel_rfl) (by kernel_rfl) (by kernel_rfl) (fun _ _ _ h => h) (Or.inl ⟨by rfl, ?_⟩) (by assumption) ?_
    rotate_left
    · intro w hSw; (try dsimp only at hSw); simp only [Bk] at hSw; go_simp; try with_reducible rfl
    (try simp only [Act.put, List.setIfInBounds_toArray]); (try dsimp only [List.set_cons_zero, List.set_cons_succ])
    refine wpAnyH_take (i := 14) (v := ?_) (by simp only [List.getElem?_toArray, List.getElem?_cons_succ, List.getElem?_cons_zero]; rfl) (by kernel_rfl) (by kernel_rfl) (by kernel_rfl) (fun _ _ _ h => h) (Or.inl ⟨by rfl, ?_⟩) (by assumption) ?_
    rotate_left
    · intro w hSw; (try dsimp only at hSw); simp only [Bk] at hSw; go_simp; try with_reducible rfl
    (try simp only [Act.put, List.setIfInBounds_toArray]); (try dsimp only [List.set_cons_zero, List.set_cons_succ])
    refine wpAnyH_listed (l' := #[true, true, true, true, true, true, true, false, true, true, true, true, true, true, true, false, false, false, false]) (by kernel_rfl) ?_
    refine wpAnyH_from [15] (fun l0 a0 l a w' => ∃ (c0 c1 : Bool) (x0 x1 : Value), l = sets l0 [(7, c0), (15, c1)] ∧ a = puts a0 [(98, x0), (106, x1)] ∧ (c1 = true → c0 = true) ∧ (c0 = true → x0 = .agg #[.int .i64 r1, .int .i64 r2]) ∧ (c1 = true → x1 = .agg #[.int .i64 r3, .int .i64 r4]) ∧ Bk w.heap.size 0 [.pointer (some ⟨b, 0, none⟩)] w' ∧ Bk g0 0 [.int .i64 sh] w' ∧ Bk wa.heap.size 0 [.int .i64 ux, .int .i64 uy] w' ∧ Bk (w.heap.size + 1) 0 [.int .i64 ax, .int .i64 ay, .int .i64 vx, .int .i64 vy, .int .i64 s1, .int .i64 m1] w' ∧ Bk (w.heap.size + 1 + 1) 0 [.int .i64 bx, .int .i64 bY, .int .i64 wx, .int .i64 wy, .int .i64 s2, .int .i64 m2] w' ∧ Bk (w.heap.size + 1 + 1 + 1) 0 [.int .i64 0, .int .i64 0] w' ∧ Bk (w.heap.size + 1 + 1 + 1 + 1) 0 [.int .i64 0, .int .i64 0] w' ∧ (W2).heap.size ≤ w'.heap.size ∧ Mv b ((ov2) || (c0 && !(j1)) || (c1 && !(j2))) w w') (by kernel_rfl) ?_ ?_ ?_ ?_ ?_ ?_
    rotate_left 4
    · exact of_decide_eq_true (by kernel_rfl)
    · exact ⟨false, false, undef, undef, by first | (simp only [sets, List.setIfInBounds_toArray, List.set_cons_zero, List.set_cons_succ]; done) | rfl, by first | (simp only [puts, Act.put, List.setIfInBounds_toArray, List.set_cons_zero, List.set_cons_succ]; done) | rfl, (fun h => by cases h), (fun h => by cases h), (fun h => by cases h), by (repeat (first | with_reducible assumption | with_reducible apply Bk.drew | with_reducible apply Bk.alloc | with_reducible apply Bk.later (hB := hR) | with_reducible apply Bk.later (hB := hM) | ((with_reducible apply Bk.mv hM); (focus omega)) | ((with_reducible apply Bk.later); rotate_left; (with_reducible assumption)) | ((with_reducible apply Bk.put); rotate_left; (first | (dsimp only; omega))))), by (repeat (first | with_reducible assumption | with_reducible apply Bk.drew | with_reducible apply Bk.alloc | with_reducible apply Bk.later (hB := hR) | with_reducible apply Bk.later (hB := hM) | ((with_reducible apply Bk.mv hM); (focus omega)) | ((with_reducible apply Bk.later); rotate_left; (with_reducible assumption)) | ((with_reducible apply Bk.put); rotate_left; (first | (dsimp only; omega))))), by (repeat (first | with_reducible assumption | with_reducible apply Bk.drew | with_reducible apply Bk.alloc | with_reducible apply Bk.later (hB := hR) | with_reducible apply Bk.later (hB := hM) | ((with_reducible apply Bk.mv hM); (focus omega)) | ((with_reducible apply Bk.later); rotate_left; (with_reducible assumption)) | ((with_reducible apply Bk.put); rotate_left; (first | (dsimp only; omega))))), by (repeat (first | with_reducible assumption | with_reducible apply Bk.drew | with_reducible apply Bk.alloc | with_reducible apply Bk.later (hB := hR) | with_reducible apply Bk.later (hB := hM) | ((with_reducible apply Bk.mv hM); (focus omega)) | ((with_reducible apply Bk.later); rotate_left; (with_reducible assumption)) | ((with_reducible apply Bk.put); rotate_left; (first | (dsimp only; omega))))), by (repeat (first | with_reducible assumption | with_reducible apply Bk.drew | with_reducible apply Bk.alloc | with_reducible apply Bk.later (hB := hR) | with_reducible apply Bk.later (hB := hM) | ((with_reducible apply Bk.mv hM); (focus omega)) | ((with_reducible apply Bk.later); rotate_left; (with_reducible assumption)) | ((with_reducible apply Bk.put); rotate_left; (first | (dsimp only; omega))))), by (repeat (first | with_reducible assumption | with_reducible apply Bk.drew | with_reducible apply Bk.alloc | with_reducible apply Bk.later (hB := hR) | with_reducible apply Bk.later (hB := hM) | ((with_reducible apply Bk.mv hM); (focus omega)) | ((with_reducible apply Bk.later); rotate_left; (with_reducible assumption)) | ((with_reducible apply Bk.put); rotate_left; (first | (dsimp only; omega))))), by (repeat (first | with_reducible assumption | with_reducible apply Bk.drew | with_reducible apply Bk.alloc | with_reducible apply Bk.later (hB := hR) | with_reducible apply Bk.later (hB := hM) | ((with_reducible apply Bk.mv hM); (focus omega)) | ((with_reducible apply Bk.later); rotate_left; (with_reducible assumption)) | ((with_reducible apply Bk.put); rotate_left; (first | (dsimp only; omega))))), by first | exact Nat.le_refl _ | (simp; done), Mv.cast (by (repeat (first | with_reducible assumption | with_reducible exact Mv.refl (by assumption) (by assumption) | with_reducible apply Mv.alloc | with_reducible apply Mv.drew | with_reducible apply Mv.drewN | ((with_reducible apply Mv.setCell); rotate_left; (first | (dsimp only; omega) | omega | (simp; omega)); (first | (dsimp only; omega) | omega | (simp; omega))) | ((with_reducible apply Mv.below); rotate_left; (with_reducible assumption)) | ((with_reducible apply Mv.trans); rotate_left; (with_reducible assumption))))) (by simp only [Bool.false_and, Bool.or_false])⟩
    · rintro l a w' ⟨c0, c1, x0, x1, rfl, rfl, k0, v0, v1, B0, B1, B2, B3, B4, D0, D1, hz9, HM⟩; rw [sets_size]; kernel_rfl
    · rintro l a w' ⟨c0, c1, x0, x1, rfl, rfl, k0, v0, v1, B0, B1, B2, B3, B4, D0, D1, hz9, HM⟩; exact ⟨B0, B1, B2, B3, B4⟩
    · rintro l a w' ⟨c0, c1, x0, x1, rfl, rfl, k0, v0, v1, B0, B1, B2, B3, B4, D0, D1, hz9, HM⟩ hf i hi hd
      have hcd := cand_of [(7, c0), (15, c1)] (cand := [7, 15, 16, 17, 18]) (by kernel_rfl) (by kernel_rfl) hi
      simp only [List.mem_cons, List.not_mem_nil, or_false] at hcd
      rcases hcd with rfl | rfl | rfl | rfl | rfl
      · have hi0 := hi
        simp only [sets, List.setIfInBounds_toArray, List.set_cons_zero, List.set_cons_succ, Array.getD_eq_getD_getElem?, List.getElem?_toArray, List.getElem?_cons_zero, List.getElem?_cons_succ, Option.getD_some] at hi
        subst hi
        clear hf hd hi0
        refine wpOp_shut rfl (fun K hK => ?_)
        simp only [puts, Act.put, List.setIfInBounds_toArray, List.set_cons_zero, List.set_cons_succ]
        have hbL := lt_of_cell HM.cell
        go_simp
        (go_at_call 32; (with_reducible refine (mvCall (b := b) (w0 := w) HM (kT1 _ _ _ _ _ (by omega) (by omega) (by omega) B0 B1 B2)).mono ?_); rintro e wr ⟨rfl, hR, HM⟩)
        have hzr := hR.size
        (try go_wp2_with (fail))
        exact hK.out _ _ ⟨true, c1, .agg #[.int .i64 r1, .int .i64 r2], x1, by first | (simp only [sets, List.setIfInBounds_toArray, List.set_cons_zero, List.set_cons_succ]; done) | rfl, by first | (simp only [puts, Act.put, List.setIfInBounds_toArray, List.set_cons_zero, List.set_cons_succ]; done) | rfl, (fun _ => rfl), (fun _ => rfl), v1, Bk.mv hR (by omega) B0, Bk.mv hR (by omega) B1, Bk.mv hR (by omega) B2, Bk.mv hR (by omega) B3, Bk.mv hR (by omega) B4, Bk.mv hR (by omega) D0, Bk.mv hR (by omega) D1, (by omega), Mv.cast HM (by simp only [Bool.true_and, Bool.false_and, Bool.or_false, Bool.false_or, Bool.or_assoc, Bool.or_left_comm, Bool.or_comm])⟩
      · have hi0 := hi
        simp only [sets, List.setIfInBounds_toArray, List.set_cons_zero, List.set_cons_succ, Array.getD_eq_getD_getElem?, List.getElem?_toArray, List.getElem?_cons_zero, List.getElem?_cons_succ, Option.getD_some] at hi
        subst hi
        have hx := dep_of hd 7 (by kernel_rfl); simp only [sets, List.setIfInBounds_toArray, List.set_cons_zero, List.set_cons_succ, Array.getD_eq_getD_getElem?, List.getElem?_toArray, List.getElem?_cons_zero, List.getElem?_cons_succ, Option.getD_some] at hx; subst hx
        clear hf hd hi0
        refine wpOp_shut rfl (fun K hK => ?_)
        simp only [puts, Act.put, List.setIfInBounds_toArray, List.set_cons_zero, List.set_cons_succ]
        have hv0 := v0 rfl; subst hv0
        have hbL := lt_of_cell HM.cell
        go_simp
        (go_at_call 32; (with_reducible refine (mvCall (b := b) (w0 := w) HM (kT2 _ _ _ _ _ (by omega) (by omega) (by omega) B0 B1 B2)).mono ?_); rintro e wr ⟨rfl, hR, HM⟩)
        have hzr := hR.size
        (try go_wp2_with (fail))
        exact hK.out _ _ ⟨true, true, .agg #[.int .i64 r1, .int .i64 r2], .agg #[.int .i64 r3, .int .i64 r4], by first | (simp only [sets, List.setIfInBounds_toArray, List.set_cons_zero, List.set_cons_succ]; done) | rfl, by first | (simp only [puts, Act.put, List.setIfInBounds_toArray, List.set_cons_zero, List.set_cons_succ]; done) | rfl, (fun _ => rfl), (fun _ => rfl), (fun _ => rfl), Bk.mv hR (by omega) B0, Bk.mv hR (by omega) B1, Bk.mv hR (by omega) B2, Bk.mv hR (by omega) B3, Bk.mv hR (by omega) B4, Bk.mv hR (by omega) D0, Bk.mv hR (by omega) D1, (by omega), Mv.cast HM (by simp only [Bool.true_and, Bool.false_and, Bool.or_false, Bool.false_or, Bool.or_assoc, Bool.or_left_comm, Bool.or_comm])⟩
      · have hi0 := hi
        have hx0 := dep_of hd 15 (by kernel_rfl); simp only [sets, List.setIfInBounds_toArray, List.set_cons_zero, List.set_cons_succ, Array.getD_eq_getD_getElem?, List.getElem?_toArray, List.getElem?_cons_zero, List.getElem?_cons_succ, Option.getD_some] at hx0; subst hx0
        obtain ⟨q, hq, hf⟩ := hf; simp only [List.mem_cons, List.not_mem_nil, or_false] at hq
        rcases hq with rfl <;> simp only [sets, List.setIfInBounds_toArray, List.set_cons_zero, List.set_cons_succ, Array.getD_eq_getD_getElem?, List.getElem?_toArray, List.getElem?_cons_zero, List.getElem?_cons_succ, Option.getD_some] at hf <;> cases hf
      · have hi0 := hi
        have hx0 := dep_of hd 15 (by kernel_rfl); simp only [sets, List.setIfInBounds_toArray, List.set_cons_zero, List.set_cons_succ, Array.getD_eq_getD_getElem?, List.getElem?_toArray, List.getElem?_cons_zero, List.getElem?_cons_succ, Option.getD_some] at hx0; subst hx0
        obtain ⟨q, hq, hf⟩ := hf; simp only [List.mem_cons, List.not_mem_nil, or_false] at hq
        rcases hq with rfl <;> simp only [sets, List.setIfInBounds_toArray, List.set_cons_zero, List.set_cons_succ, Array.getD_eq_getD_getElem?, List.getElem?_toArray, List.getElem?_cons_zero, List.getElem?_cons_succ, Option.getD_some] at hf <;> cases hf
      · have hi0 := hi
        have hx0 := dep_of hd 15 (by kernel_rfl); simp only [sets, List.setIfInBounds_toArray, List.set_cons_zero, List.set_cons_succ, Array.getD_eq_getD_getElem?, List.getElem?_toArray, List.getElem?_cons_zero, List.getElem?_cons_succ, Option.getD_some] at hx0; subst hx0
        obtain ⟨q, hq, hf⟩ := hf; simp only [List.mem_cons, List.not_mem_nil, or_false] at hq
        rcases hq with rfl <;> simp only [sets, List.setIfInBounds_toArray, List.set_cons_zero, List.set_cons_succ, Array.getD_eq_getD_getElem?, List.getElem?_toArray, List.getElem?_cons_zero, List.getElem?_cons_succ, Option.getD_some] at hf <;> cases hf
    rintro l a w' n ⟨c0, c1, x0, x1, rfl, rfl, k0, v0, v1, B0, B1, B2, B3, B4, D0, D1, hz9, HM⟩ hf hu
    have hf0 := hf 15 (by simp); simp only [sets, List.setIfInBounds_toArray, List.set_cons_zero, List.set_cons_succ, Array.getD_eq_getD_getElem?, List.getElem?_toArray, List.getElem?_cons_zero, List.getElem?_cons_succ, Option.getD_some] at hf0; subst hf0
    have hk0 := k0 rfl; subst hk0
    have hv0 := v0 rfl; subst hv0
    have hv1 := v1 rfl; subst hv1
    have hbL := lt_of_cell HM.cell
    obtain ⟨n, rfl⟩ : ∃ q, n = q + 3 := ⟨n - 3, by have hu2 := Nat.le_trans (by (simp only [sets, List.setIfInBounds_toArray, List.set_cons_zero, List.set_cons_succ]); exact of_decide_eq_true (by kernel_rfl) : 3 ≤ _) hu; omega⟩
    simp only [sets, puts, Act.put, List.setIfInBounds_toArray, List.set_cons_zero, List.set_cons_succ]
    clear hu k0 v0 v1
    have hHeld : (fun (w' : World) => Bk w.heap.size 0 [.pointer (some ⟨b, 0, none⟩)] w' ∧ Bk g0 0 [.int .i64 sh] w' ∧ Bk wa.heap.size 0 [.int .i64 ux, .int .i64 uy] w' ∧ Bk (w.heap.size + 1) 0 [.int .i64 ax, .int .i64 ay, .int .i64 vx, .int .i64 vy, .int .i64 s1, .int .i64 m1] w' ∧ Bk (w.heap.size + 1 + 1) 0 [.int .i64 bx, .int .i64 bY, .int .i64 wx, .int .i64 wy, .int .i64 s2, .int .i64 m2] w') w' := ⟨B0, B1, B2, B3, B4⟩
    have C_B0 := B0; simp only [Bk] at C_B0
    have C_B1 := B1; simp only [Bk] at C_B1
    have C_B2 := B2; simp only [Bk] at C_B2
    have C_B3 := B3; simp only [Bk] at C_B3
    have C_B4 := B4; simp only [Bk] at C_B4
    have C_D0 := D0; simp only [Bk] at C_D0
    have C_D1 := D1; simp only [Bk] at C_D1
    have hOld := hHeld; clear hHeld
    refine wpAnyH_ready (rs := [16]) (by kernel_rfl) (by simp) (AllReadyH.cons rfl (fun K hK => ?_) AllReadyH.nil)
    go_simp
    refine hK.out _ _ ⟨by (repeat (first | with_reducible assumption | with_reducible apply Bk.drew | with_reducible apply Bk.alloc | with_reducible apply Bk.later (hB := hR) | with_reducible apply Bk.later (hB := hM) | ((with_reducible apply Bk.mv hM); (focus omega)) | ((with_reducible apply Bk.later); rotate_left; (with_reducible assumption)) | ((with_reducible apply Bk.put); rotate_left; (first | (dsimp only; omega))))), by (repeat (first | with_reducible assumption | with_reducible apply Bk.drew | with_reducible apply Bk.alloc | with_reducible apply Bk.later (hB := hR) | with_reducible apply Bk.later (hB := hM) | ((with_reducible apply Bk.mv hM); (focus omega)) | ((with_reducible apply Bk.later); rotate_left; (with_reducible assumption)) | ((with_reducible apply Bk.put); rotate_left; (first | (dsimp only; omega))))), by (repeat (first | with_reducible assumption | with_reducible apply Bk.drew | with_reducible apply Bk.alloc | with_reducible apply Bk.later (hB := hR) | with_reducible apply Bk.later (hB := hM) | ((with_reducible apply Bk.mv hM); (focus omega)) | ((with_reducible apply Bk.later); rotate_left; (with_reducible assumption)) | ((with_reducible apply Bk.put); rotate_left; (first | (dsimp only; omega))))), by (repeat (first | with_reducible assumption | with_reducible apply Bk.drew | with_reducible apply Bk.alloc | with_reducible apply Bk.later (hB := hR) | with_reducible apply Bk.later (hB := hM) | ((with_reducible apply Bk.mv hM); (focus omega)) | ((with_reducible apply Bk.later); rotate_left; (with_reducible assumption)) | ((with_reducible apply Bk.put); rotate_left; (first | (dsimp only; omega))))), by (repeat (first | with_reducible assumption | with_reducible apply Bk.drew | with_reducible apply Bk.alloc | with_reducible apply Bk.later (hB := hR) | with_reducible apply Bk.later (hB := hM) | ((with_reducible apply Bk.mv hM); (focus omega)) | ((with_reducible apply Bk.later); rotate_left; (with_reducible assumption)) | ((with_reducible apply Bk.put); rotate_left; (first | (dsimp only; omega)))))⟩ (fun hHeld => ?_)
    clear hK K hOld
    (try simp only [Act.put, List.setIfInBounds_toArray]); (try dsimp only [List.set_cons_zero, List.set_cons_succ])
    have hOld := hHeld; clear hHeld
    refine wpAnyH_ready (rs := [17]) (by kernel_rfl) (by simp) (AllReadyH.cons rfl (fun K hK => ?_) AllReadyH.nil)
    go_simp
    refine hK.out _ _ ⟨by (repeat (first | with_reducible assumption | with_reducible apply Bk.drew | with_reducible apply Bk.alloc | with_reducible apply Bk.later (hB := hR) | with_reducible apply Bk.later (hB := hM) | ((with_reducible apply Bk.mv hM); (focus omega)) | ((with_reducible apply Bk.later); rotate_left; (with_reducible assumption)) | ((with_reducible apply Bk.put); rotate_left; (first | (dsimp only; omega))))), by (repeat (first | with_reducible assumption | with_reducible apply Bk.drew | with_reducible apply Bk.alloc | with_reducible apply Bk.later (hB := hR) | with_reducible apply Bk.later (hB := hM) | ((with_reducible apply Bk.mv hM); (focus omega)) | ((with_reducible apply Bk.later); rotate_left; (with_reducible assumption)) | ((with_reducible apply Bk.put); rotate_left; (first | (dsimp only; omega))))), by (repeat (first | with_reducible assumption | with_reducible apply Bk.drew | with_reducible apply Bk.alloc | with_reducible apply Bk.later (hB := hR) | with_reducible apply Bk.later (hB := hM) | ((with_reducible apply Bk.mv hM); (focus omega)) | ((with_reducible apply Bk.later); rotate_left; (with_reducible assumption)) | ((with_reducible apply Bk.put); rotate_left; (first | (dsimp only; omega))))), by (repeat (first | with_reducible assumption | with_reducible apply Bk.drew | with_reducible apply Bk.alloc | with_reducible apply Bk.later (hB := hR) | with_reducible apply Bk.later (hB := hM) | ((with_reducible apply Bk.mv hM); (focus omega)) | ((with_reducible apply Bk.later); rotate_left; (with_reducible assumption)) | ((with_reducible apply Bk.put); rotate_left; (first | (dsimp only; omega))))), by (repeat (first | with_reducible assumption | with_reducible apply Bk.drew | with_reducible apply Bk.alloc | with_reducible apply Bk.later (hB := hR) | with_reducible apply Bk.later (hB := hM) | ((with_reducible apply Bk.mv hM); (focus omega)) | ((with_reducible apply Bk.later); rotate_left; (with_reducible assumption)) | ((with_reducible apply Bk.put); rotate_left; (first | (dsimp only; omega)))))⟩ (fun hHeld => ?_)
    clear hK K hOld
    (try simp only [Act.put, List.setIfInBounds_toArray]); (try dsimp only [List.set_cons_zero, List.set_cons_succ])
    refine wpAnyH_take (i := 18) (v := ?_) (by simp only [List.getElem?_toArray, List.getElem?_cons_succ, List.getElem?_cons_zero]; rfl) (by kernel_rfl) (by kernel_rfl) (by kernel_rfl) (fun _ _ _ h => h) (Or.inl ⟨by rfl, ?_⟩) (by assumption) ?_
    rotate_left
    · intro w hSw; (try dsimp only at hSw); simp only [Bk] at hSw; go_simp; try with_reducible rfl
    (try simp only [Act.put, List.setIfInBounds_toArray]); (try dsimp only [List.set_cons_zero, List.set_cons_succ])
    refine wpAnyH_done (by kernel_rfl) ?_ _
    (try refine NoPanic.normal ?_)
    go_wp2
    simp (maxDischargeDepth := 8) [bodyPost, results, Try.results13, go_sem, *]
    exact ⟨E1.out.1, Mv.cast (by (repeat (first | with_reducible assumption | with_reducible exact Mv.refl (by assumption) (by assumption) | with_reducible apply Mv.alloc | with_reducible apply Mv.drew | with_reducible apply Mv.drewN | ((with_reducible apply Mv.setCell); rotate_left; (first | (dsimp only; omega) | omega | (simp; omega)); (first | (dsimp only; omega) | omega | (simp; omega))) | ((with_reducible apply Mv.below); rotate_left; (with_reducible assumption)) | ((with_reducible apply Mv.trans); rotate_left; (with_reducible assumption))))) (by rw [← HOV2.out, ← HOV.out, ← E1.out.2, HE2.out]; simp only [Bool.true_and, Bool.not_and, Bool.or_assoc])⟩
  · have E1 : Hid (_ ∧ _) := Lib.hid (by have h := HRV.out; rw [if_neg hgo, Bool.eq_false_iff.2 hgo, Bool.false_and, Bool.or_false] at h; exact h)
    clear HRV
    cases t with
    | false =>
      clear hgo
      go_upto_region 7 with (fail)
      (try refine wp_region_noPanic ?_)
      refine wp_region_held_drew (S := (fun (w' : World) => w'.cell? ⟨w.heap.size + 1, 2, none⟩ = some (.int .i64 vx) ∧ w'.cell? ⟨w.heap.size + 1, 3, none⟩ = some (.int .i64 vy) ∧ w'.cell? ⟨w.heap.size + 1 + 1, 2, none⟩ = some (.int .i64 wx) ∧ w'.cell? ⟨w.heap.size + 1 + 1, 3, none⟩ = some (.int .i64 wy))) (by kernel_rfl) ⟨(by first | (simp (maxDischargeDepth := 6) [go_sem, *]; done)), (by first | (simp (maxDischargeDepth := 6) [go_sem, *]; done)), (by first | (simp (maxDischargeDepth := 6) [go_sem, *]; done)), (by first | (simp (maxDischargeDepth := 6) [go_sem, *]; done))⟩ (fun hHeld => ?_)
      refine wpAnyH_take (i := 0) (v := ?_) (by simp only [List.getElem?_toArray, List.getElem?_cons_succ, List.getElem?_cons_zero]; rfl) (by kernel_rfl) (by kernel_rfl) (by kernel_rfl) (fun _ _ _ h => h) (Or.inl ⟨by rfl, ?_⟩) (by assumption) ?_
      rotate_left
      · intro w hSw; (try dsimp only at hSw); go_simp; try with_reducible rfl
      try simp only [Act.put, List.setIfInBounds_toArray, List.set_cons_zero, List.set_cons_succ]
      refine wpAnyH_take (i := 2) (v := ?_) (by simp only [List.getElem?_toArray, List.getElem?_cons_succ, List.getElem?_cons_zero]; rfl) (by kernel_rfl) (by kernel_rfl) (by kernel_rfl) (fun _ _ _ h => h) (Or.inl ⟨by rfl, ?_⟩) (by assumption) ?_
      rotate_left
      · intro w hSw; (try dsimp only at hSw); go_simp; try with_reducible rfl
      try simp only [Act.put, List.setIfInBounds_toArray, List.set_cons_zero, List.set_cons_succ]
      refine wpAnyH_take (i := 1) (v := ?_) (by simp only [List.getElem?_toArray, List.getElem?_cons_succ, List.getElem?_cons_zero]; rfl) (by kernel_rfl) (by kernel_rfl) (by kernel_rfl) (fun _ _ _ h => h) (Or.inl ⟨by rfl, ?_⟩) (by assumption) ?_
      rotate_left
      · intro w hSw; (try dsimp only at hSw); go_simp; try with_reducible rfl
      try simp only [Act.put, List.setIfInBounds_toArray, List.set_cons_zero, List.set_cons_succ]
      refine wpAnyH_take (i := 3) (v := ?_) (by simp only [List.getElem?_toArray, List.getElem?_cons_succ, List.getElem?_cons_zero]; rfl) (by kernel_rfl) (by kernel_rfl) (by kernel_rfl) (fun _ _ _ h => h) (Or.inl ⟨by rfl, ?_⟩) (by assumption) ?_
      rotate_left
      · intro w hSw; (try dsimp only at hSw); go_simp; try with_reducible rfl
      try simp only [Act.put, List.setIfInBounds_toArray, List.set_cons_zero, List.set_cons_succ]
      refine wpAnyH_ready (rs := [4]) (by kernel_rfl) (by simp) ?_
      refine AllReadyH.cons rfl (fun K hK => ?_) AllReadyH.nil
      have hOld := hHeld; clear hHeld
      go_simp
      (try go_wp2_with (fail))
      refine hK.out _ _ ⟨(by first | exact mv_cell hM (by first | (dsimp only; omega) | (simp; omega)) hOld.1 | exact cell_later hM hOld.1 | exact HT.cb | exact HT.cc | (simp (maxDischargeDepth := 6) [go_sem, *]; done)), (by first | exact mv_cell hM (by first | (dsimp only; omega) | (simp; omega)) hOld.2.1 | exact cell_later hM hOld.2.1 | exact HT.cb | exact HT.cc | (simp (maxDischargeDepth := 6) [go_sem, *]; done)), (by first | exact mv_cell hM (by first | (dsimp only; omega) | (simp; omega)) hOld.2.2.1 | exact cell_later hM hOld.2.2.1 | exact HT.cb | exact HT.cc | (simp (maxDischargeDepth := 6) [go_sem, *]; done)), (by first | exact mv_cell hM (by first | (dsimp only; omega) | (simp; omega)) hOld.2.2.2 | exact cell_later hM hOld.2.2.2 | exact HT.cb | exact HT.cc | (simp (maxDischargeDepth := 6) [go_sem, *]; done))⟩ (fun hHeld => ?_)
      clear hK K hOld
      try simp only [Act.put, List.setIfInBounds_toArray, List.set_cons_zero, List.set_cons_succ]
      refine wpAnyH_ready (rs := [5]) (by kernel_rfl) (by simp) ?_
      refine AllReadyH.cons rfl (fun K hK => ?_) AllReadyH.nil
      have hOld := hHeld; clear hHeld
      go_simp
      (try go_wp2_with (fail))
      refine hK.out _ _ ⟨(by first | exact mv_cell hM (by first | (dsimp only; omega) | (simp; omega)) hOld.1 | exact cell_later hM hOld.1 | exact HT.cb | exact HT.cc | (simp (maxDischargeDepth := 6) [go_sem, *]; done)), (by first | exact mv_cell hM (by first | (dsimp only; omega) | (simp; omega)) hOld.2.1 | exact cell_later hM hOld.2.1 | exact HT.cb | exact HT.cc | (simp (maxDischargeDepth := 6) [go_sem, *]; done)), (by first | exact mv_cell hM (by first | (dsimp only; omega) | (simp; omega)) hOld.2.2.1 | exact cell_later hM hOld.2.2.1 | exact HT.cb | exact HT.cc | (simp (maxDischargeDepth := 6) [go_sem, *]; done)), (by first | exact mv_cell hM (by first | (dsimp only; omega) | (simp; omega)) hOld.2.2.2 | exact cell_later hM hOld.2.2.2 | exact HT.cb | exact HT.cc | (simp (maxDischargeDepth := 6) [go_sem, *]; done))⟩ (fun hHeld => ?_)
      clear hK K hOld
      try simp only [Act.put, List.setIfInBounds_toArray, List.set_cons_zero, List.set_cons_succ]
      refine wpAnyH_take (i := 6) (v := ?_) (by simp only [List.getElem?_toArray, List.getElem?_cons_succ, List.getElem?_cons_zero]; rfl) (by kernel_rfl) (by kernel_rfl) (by kernel_rfl) (fun _ _ _ h => h) (Or.inl ⟨by rfl, ?_⟩) (by assumption) ?_
      rotate_left
      · intro w hSw; (try dsimp only at hSw); go_simp; try with_reducible rfl
      try simp only [Act.put, List.setIfInBounds_toArray, List.set_cons_zero, List.set_cons_succ]
      refine wpAnyH_done (by kernel_rfl) ?_ _
      (try refine NoPanic.normal ?_)
      (try clear q0); (try clear q1); (try clear q2); (try clear q3); obtain ⟨q0, q1, q2, q3⟩ := hHeld
      go_wp2
      simp (maxDischargeDepth := 8) [bodyPost, results, Try.results13, go_sem, *]
      exact ⟨E1.out.1, Mv.cast (by (repeat (first | with_reducible assumption | with_reducible exact Mv.refl (by assumption) (by assumption) | with_reducible apply Mv.alloc | with_reducible apply Mv.drew | with_reducible apply Mv.drewN | ((with_reducible apply Mv.setCell); rotate_left; (first | (dsimp only; omega) | omega | (simp; omega)); (first | (dsimp only; omega) | omega | (simp; omega))) | ((with_reducible apply Mv.below); rotate_left; (with_reducible assumption)) | ((with_reducible apply Mv.trans); rotate_left; (with_reducible assumption))))) (by rw [← HOV.out, ← E1.out.2]; simp only [Bool.not_and, Bool.or_assoc])⟩
    | true =>
      have hc0 : ¬ 0 < c := fun h => hgo (by rw [decide_eq_true h]; rfl)
      clear hgo
      go_upto_region 7 with (fail)
      (try refine wp_region_noPanic ?_)
      refine wp_region_held_drew (S := (fun (w' : World) => w'.cell? ⟨w.heap.size + 1, 2, none⟩ = some (.int .i64 vx) ∧ w'.cell? ⟨w.heap.size + 1, 3, none⟩ = some (.int .i64 vy) ∧ w'.cell? ⟨w.heap.size + 1 + 1, 2, none⟩ = some (.int .i64 wx) ∧ w'.cell? ⟨w.heap.size + 1 + 1, 3, none⟩ = some (.int .i64 wy))) (by kernel_rfl) ⟨(by first | (simp (maxDischargeDepth := 6) [go_sem, *]; done)), (by first | (simp (maxDischargeDepth := 6) [go_sem, *]; done)), (by first | (simp (maxDischargeDepth := 6) [go_sem, *]; done)), (by first | (simp (maxDischargeDepth := 6) [go_sem, *]; done))⟩ (fun hHeld => ?_)
      refine wpAnyH_take (i := 0) (v := ?_) (by simp only [List.getElem?_toArray, List.getElem?_cons_succ, List.getElem?_cons_zero]; rfl) (by kernel_rfl) (by kernel_rfl) (by kernel_rfl) (fun _ _ _ h => h) (Or.inl ⟨by rfl, ?_⟩) (by assumption) ?_
      rotate_left
      · intro w hSw; (try dsimp only at hSw); go_simp; try with_reducible rfl
      try simp only [Act.put, List.setIfInBounds_toArray, List.set_cons_zero, List.set_cons_succ]
      refine wpAnyH_take (i := 2) (v := ?_) (by simp only [List.getElem?_toArray, List.getElem?_cons_succ, List.getElem?_cons_zero]; rfl) (by kernel_rfl) (by kernel_rfl) (by kernel_rfl) (fun _ _ _ h => h) (Or.inl ⟨by rfl, ?_⟩) (by assumption) ?_
      rotate_left
      · intro w hSw; (try dsimp only at hSw); go_simp; try with_reducible rfl
      try simp only [Act.put, List.setIfInBounds_toArray, List.set_cons_zero, List.set_cons_succ]
      refine wpAnyH_take (i := 1) (v := ?_) (by simp only [List.getElem?_toArray, List.getElem?_cons_succ, List.getElem?_cons_zero]; rfl) (by kernel_rfl) (by kernel_rfl) (by kernel_rfl) (fun _ _ _ h => h) (Or.inl ⟨by rfl, ?_⟩) (by assumption) ?_
      rotate_left
      · intro w hSw; (try dsimp only at hSw); go_simp; try with_reducible rfl
      try simp only [Act.put, List.setIfInBounds_toArray, List.set_cons_zero, List.set_cons_succ]
      refine wpAnyH_take (i := 3) (v := ?_) (by simp only [List.getElem?_toArray, List.getElem?_cons_succ, List.getElem?_cons_zero]; rfl) (by kernel_rfl) (by kernel_rfl) (by kernel_rfl) (fun _ _ _ h => h) (Or.inl ⟨by rfl, ?_⟩) (by assumption) ?_
      rotate_left
      · intro w hSw; (try dsimp only at hSw); go_simp; try with_reducible rfl
      try simp only [Act.put, List.setIfInBounds_toArray, List.set_cons_zero, List.set_cons_succ]
      refine wpAnyH_ready (rs := [4]) (by kernel_rfl) (by simp) ?_
      refine AllReadyH.cons rfl (fun K hK => ?_) AllReadyH.nil
      have hOld := hHeld; clear hHeld
      go_simp
      (try go_wp2_with (fail))
      refine hK.out _ _ ⟨(by first | exact mv_cell hM (by first | (dsimp only; omega) | (simp; omega)) hOld.1 | exact cell_later hM hOld.1 | exact HT.cb | exact HT.cc | (simp (maxDischargeDepth := 6) [go_sem, *]; done)), (by first | exact mv_cell hM (by first | (dsimp only; omega) | (simp; omega)) hOld.2.1 | exact cell_later hM hOld.2.1 | exact HT.cb | exact HT.cc | (simp (maxDischargeDepth := 6) [go_sem, *]; done)), (by first | exact mv_cell hM (by first | (dsimp only; omega) | (simp; omega)) hOld.2.2.1 | exact cell_later hM hOld.2.2.1 | exact HT.cb | exact HT.cc | (simp (maxDischargeDepth := 6) [go_sem, *]; done)), (by first | exact mv_cell hM (by first | (dsimp only; omega) | (simp; omega)) hOld.2.2.2 | exact cell_later hM hOld.2.2.2 | exact HT.cb | exact HT.cc | (simp (maxDischargeDepth := 6) [go_sem, *]; done))⟩ (fun hHeld => ?_)
      clear hK K hOld
      try simp only [Act.put, List.setIfInBounds_toArray, List.set_cons_zero, List.set_cons_succ]
      refine wpAnyH_ready (rs := [5]) (by kernel_rfl) (by simp) ?_
      refine AllReadyH.cons rfl (fun K hK => ?_) AllReadyH.nil
      have hOld := hHeld; clear hHeld
      go_simp
      (try go_wp2_with (fail))
      refine hK.out _ _ ⟨(by first | exact mv_cell hM (by first | (dsimp only; omega) | (simp; omega)) hOld.1 | exact cell_later hM hOld.1 | exact HT.cb | exact HT.cc | (simp (maxDischargeDepth := 6) [go_sem, *]; done)), (by first | exact mv_cell hM (by first | (dsimp only; omega) | (simp; omega)) hOld.2.1 | exact cell_later hM hOld.2.1 | exact HT.cb | exact HT.cc | (simp (maxDischargeDepth := 6) [go_sem, *]; done)), (by first | exact mv_cell hM (by first | (dsimp only; omega) | (simp; omega)) hOld.2.2.1 | exact cell_later hM hOld.2.2.1 | exact HT.cb | exact HT.cc | (simp (maxDischargeDepth := 6) [go_sem, *]; done)), (by first | exact mv_cell hM (by first | (dsimp only; omega) | (simp; omega)) hOld.2.2.2 | exact cell_later hM hOld.2.2.2 | exact HT.cb | exact HT.cc | (simp (maxDischargeDepth := 6) [go_sem, *]; done))⟩ (fun hHeld => ?_)
      clear hK K hOld
      try simp only [Act.put, List.setIfInBounds_toArray, List.set_cons_zero, List.set_cons_succ]
      refine wpAnyH_take (i := 6) (v := ?_) (by simp only [List.getElem?_toArray, List.getElem?_cons_succ, List.getElem?_cons_zero]; rfl) (by kernel_rfl) (by kernel_rfl) (by kernel_rfl) (fun _ _ _ h => h) (Or.inl ⟨by rfl, ?_⟩) (by assumption) ?_
      rotate_left
      · intro w hSw; (try dsimp only at hSw); go_simp; try with_reducible rfl
      try simp only [Act.put, List.setIfInBounds_toArray, List.set_cons_zero, List.set_cons_succ]
      refine wpAnyH_done (by kernel_rfl) ?_ _
      (try refine NoPanic.normal ?_)
      (try clear q0); (try clear q1); (try clear q2); (try clear q3); obtain ⟨q0, q1, q2, q3⟩ := hHeld
      go_wp2
      simp (maxDischargeDepth := 8) [bodyPost, results, Try.results13, go_sem, *]
      exact ⟨E1.out.1, Mv.cast (by (repeat (first | with_reducible assumption | with_reducible exact Mv.refl (by assumption) (by assumption) | with_reducible apply Mv.alloc | with_reducible apply Mv.drew | with_reducible apply Mv.drewN | ((with_reducible apply Mv.setCell); rotate_left; (first | (dsimp only; omega) | omega | (simp; omega)); (first | (dsimp only; omega) | omega | (simp; omega))) | ((with_reducible apply Mv.below); rotate_left; (with_reducible assumption)) | ((with_reducible apply Mv.trans); rotate_left; (with_reducible assumption))))) (by rw [← HOV.out, ← E1.out.2]; simp only [Bool.not_and, Bool.or_assoc])⟩
end Go.Proofs.Ytgdoaibgcjdklaa
