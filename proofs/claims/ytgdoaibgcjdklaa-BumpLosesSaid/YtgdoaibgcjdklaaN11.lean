/- Contracts for the laws on push and energy: discs that may be, their energy, a bump of slow ones. -/
import Derived.Test.YtgdoaibgcjdklaaN6
import Derived.Test.YtgdoaibgcjdklaaN10
set_option linter.unusedSimpArgs false
set_option linter.unusedVariables false
namespace Go.Proofs.Ytgdoaibgcjdklaa
open Go.RowKit
theorem nMl (x y r : Int) (b : Nat) (o : Bool) (w : World) (x_0 : -9223372036854775808 ≤ x) (x_1 : x ≤ 9223372036854775807) (y_0 : -9223372036854775808 ≤ y) (y_1 : y ≤ 9223372036854775807) (hr : ml x y = r) (hk : mlok x y = true) (hc : w.cell? ⟨b, 0, none⟩ = some (.bool o)) (hf : w.frozen? ⟨b, 0, none⟩ = false) :
    Calls Try.prog 17 #[.pointer (some ⟨b, 0, none⟩), .int .i64 x, .int .i64 y] w fun e w' => e = .returned (.int .i64 r) ∧ Mv b o w w' := by
  subst hr
  exact (cMl x y b o w x_0 x_1 y_0 y_1 hc hf).mono fun _ _ ⟨h1, h2⟩ => ⟨h1, Mv.cast h2 (by rw [hk]; cases o <;> rfl)⟩
theorem nAdd (x y : Int) (b : Nat) (o : Bool) (w : World) (x_0 : -9223372036854775808 ≤ x) (x_1 : x ≤ 9223372036854775807) (y_0 : -9223372036854775808 ≤ y) (y_1 : y ≤ 9223372036854775807) (s0 : -4611686018427387904 ≤ x + y) (s1 : x + y ≤ 4611686018427387904) (hc : w.cell? ⟨b, 0, none⟩ = some (.bool o)) (hf : w.frozen? ⟨b, 0, none⟩ = false) :
    Calls Try.prog 16 #[.pointer (some ⟨b, 0, none⟩), .int .i64 x, .int .i64 y] w fun e w' => e = .returned (.int .i64 (x + y)) ∧ Mv b o w w' := by
  obtain ⟨e1, e2⟩ := fx_in (x + y) s0 s1
  exact (cFAdd x y b o w x_0 x_1 y_0 y_1 hc hf).mono fun _ _ ⟨h1, h2⟩ => ⟨by rw [h1, e1], Mv.cast h2 (by rw [e2]; cases o <;> rfl)⟩
theorem nSub (x y : Int) (b : Nat) (o : Bool) (w : World) (x_0 : -9223372036854775808 ≤ x) (x_1 : x ≤ 9223372036854775807) (y_0 : -9223372036854775808 ≤ y) (y_1 : y ≤ 9223372036854775807) (s0 : -4611686018427387904 ≤ x - y) (s1 : x - y ≤ 4611686018427387904) (hc : w.cell? ⟨b, 0, none⟩ = some (.bool o)) (hf : w.frozen? ⟨b, 0, none⟩ = false) :
    Calls Try.prog 18 #[.pointer (some ⟨b, 0, none⟩), .int .i64 x, .int .i64 y] w fun e w' => e = .returned (.int .i64 (x - y)) ∧ Mv b o w w' := by
  obtain ⟨e1, e2⟩ := fx_in (x - y) s0 s1
  exact (cFSub x y b o w x_0 x_1 y_0 y_1 hc hf).mono fun _ _ ⟨h1, h2⟩ => ⟨by rw [h1, e1], Mv.cast h2 (by rw [e2]; cases o <;> rfl)⟩
theorem nNeg (x : Int) (b : Nat) (o : Bool) (w : World) (s0 : -4611686018427387904 ≤ x) (s1 : x ≤ 4611686018427387904) (hc : w.cell? ⟨b, 0, none⟩ = some (.bool o)) (hf : w.frozen? ⟨b, 0, none⟩ = false) :
    Calls Try.prog 43 #[.pointer (some ⟨b, 0, none⟩), .int .i64 x] w fun e w' => e = .returned (.int .i64 (-x)) ∧ Mv b o w w' := by
  obtain ⟨e1, e2⟩ := fx_in (-x) (by omega) (by omega)
  exact (cFNeg x b o w (by omega) (by omega) hc hf).mono fun _ _ ⟨h1, h2⟩ => ⟨by rw [h1, e1], Mv.cast h2 (by rw [e2]; cases o <;> rfl)⟩
theorem nAbs (x : Int) (b : Nat) (o : Bool) (w : World) (s0 : -4611686018427387904 ≤ x) (s1 : x ≤ 4611686018427387904) (hc : w.cell? ⟨b, 0, none⟩ = some (.bool o)) (hf : w.frozen? ⟨b, 0, none⟩ = false) :
    Calls Try.prog 20 #[.pointer (some ⟨b, 0, none⟩), .int .i64 x] w fun e w' => e = .returned (.int .i64 (x.natAbs : Int)) ∧ Mv b o w w' := by
  have HM := Mv.refl hc hf
  by_cases hx : x < 0
  · have E : Hid ((x.natAbs : Int) = -x) := Lib.hid (by omega)
    have k1 := fun O W => nNeg x b O W s0 s1
    clear hc hf
    go_enter Try.func20, Try.ntmps20
    go_wp2_with ((go_at_call 43; (with_reducible refine (mvCall (b := b) (w0 := w) (by (repeat (first | with_reducible assumption | with_reducible exact Mv.refl (by assumption) (by assumption) | with_reducible apply Mv.alloc | with_reducible apply Mv.drew | with_reducible apply Mv.drewN | ((with_reducible apply Mv.setCell); rotate_left; (first | (dsimp only; omega) | omega | (simp; omega)); (first | (dsimp only; omega) | omega | (simp; omega))) | ((with_reducible apply Mv.below); rotate_left; (with_reducible assumption)) | ((with_reducible apply Mv.trans); rotate_left; (with_reducible assumption))))) (k1 _ _)).mono ?_); rintro e w1 ⟨rfl, hM, HM⟩))
    go_ret
    exact ⟨by rw [E.out] <;> rfl, HM⟩
  · have E : Hid ((x.natAbs : Int) = x) := Lib.hid (by omega)
    clear hc hf
    go_enter Try.func20, Try.ntmps20
    go_wp2
    go_ret
    exact ⟨by rw [E.out] <;> rfl, HM⟩
set_option maxHeartbeats 4000000 in
theorem cEnergy (ax ay vx vy s1 m1 bx bY wx wy s2 m2 x0 x1 y0 y1 : Int) (b : Nat) (o : Bool) (w : World) (n0 : 0 ≤ m1) (n1 : m1 ≤ 35184372088832) (n2 : 0 ≤ m2) (n3 : m2 ≤ 35184372088832)
    (g0 : -549755813888 ≤ x0) (g1 : x0 ≤ 549755813888) (g2 : -549755813888 ≤ x1) (g3 : x1 ≤ 549755813888) (g4 : -549755813888 ≤ y0) (g5 : y0 ≤ 549755813888) (g6 : -549755813888 ≤ y1) (g7 : y1 ≤ 549755813888) (hc : w.cell? ⟨b, 0, none⟩ = some (.bool o)) (hf : w.frozen? ⟨b, 0, none⟩ = false) :
    Calls Try.prog 19 #[.pointer (some ⟨b, 0, none⟩), .agg #[.int .i64 ax, .int .i64 ay, .int .i64 vx, .int .i64 vy, .int .i64 s1, .int .i64 m1], .agg #[.int .i64 bx, .int .i64 bY, .int .i64 wx, .int .i64 wy, .int .i64 s2, .int .i64 m2], .agg #[.int .i64 x0, .int .i64 x1], .agg #[.int .i64 y0, .int .i64 y1]] w fun e w' =>
      e = .returned (.int .i64 (rsh (m1 * (rsh (x0 * x0) + rsh (x1 * x1))) + rsh (m2 * (rsh (y0 * y0) + rsh (y1 * y1))))) ∧ Mv b o w w' := by
  have hb := lt_of_cell hc
  have HM := Mv.refl hc hf
  clear hc hf
  obtain ⟨e1, f1, c1, d1⟩ := ml_in x0 x0 549755813888 549755813888 70368744177664 g0 g1 g0 g1 (by decide) (by decide)
  obtain ⟨e2, f2, c2, d2⟩ := ml_in x1 x1 549755813888 549755813888 70368744177664 g2 g3 g2 g3 (by decide) (by decide)
  obtain ⟨e3, f3, c3, d3⟩ := ml_in y0 y0 549755813888 549755813888 70368744177664 g4 g5 g4 g5 (by decide) (by decide)
  obtain ⟨e4, f4, c4, d4⟩ := ml_in y1 y1 549755813888 549755813888 70368744177664 g6 g7 g6 g7 (by decide) (by decide)
  have k1 := fun O W => nMl x0 x0 _ b O W (by omega) (by omega) (by omega) (by omega) e1 f1
  have k2 := fun O W => nMl x1 x1 _ b O W (by omega) (by omega) (by omega) (by omega) e2 f2
  have k3 := fun O W => nMl y0 y0 _ b O W (by omega) (by omega) (by omega) (by omega) e3 f3
  have k4 := fun O W => nMl y1 y1 _ b O W (by omega) (by omega) (by omega) (by omega) e4 f4
  clear e1 f1 e2 f2 e3 f3 e4 f4
  generalize rsh (x0 * x0) = p0 at *
  generalize rsh (x1 * x1) = p1 at *
  generalize rsh (y0 * y0) = p2 at *
  generalize rsh (y1 * y1) = p3 at *
  have k5 := fun O W => nAdd p0 p1 b O W (by omega) (by omega) (by omega) (by omega) (by omega) (by omega)
  have k6 := fun O W => nAdd p2 p3 b O W (by omega) (by omega) (by omega) (by omega) (by omega) (by omega)
  obtain ⟨P, hP⟩ : ∃ P, p0 + p1 = P := ⟨_, rfl⟩
  obtain ⟨Q, hQ⟩ : ∃ Q, p2 + p3 = Q := ⟨_, rfl⟩
  rw [hP] at k5 ⊢; rw [hQ] at k6 ⊢
  obtain ⟨e5, f5, c5, d5⟩ := ml_in m1 P 35184372088832 (140737488355328 + 2) (1152921504606846976 + 1048576) (by omega) n1 (by omega) (by omega) (by decide) (by decide)
  obtain ⟨e6, f6, c6, d6⟩ := ml_in m2 Q 35184372088832 (140737488355328 + 2) (1152921504606846976 + 1048576) (by omega) n3 (by omega) (by omega) (by decide) (by decide)
  have k7 := fun O W => nMl m1 P _ b O W (by omega) (by omega) (by omega) (by omega) e5 f5
  have k8 := fun O W => nMl m2 Q _ b O W (by omega) (by omega) (by omega) (by omega) e6 f6
  clear e5 f5 e6 f6 hP hQ
  generalize rsh (m1 * P) = r1 at *
  generalize rsh (m2 * Q) = r2 at *
  have k9 := fun O W => nAdd r1 r2 b O W (by omega) (by omega) (by omega) (by omega) (by omega) (by omega)
  clear c1 d1 c2 d2 c3 d3 c4 d4 n0 n1 n2 n3 g0 g1 g2 g3 g4 g5 g6 g7
  obtain ⟨r, hr⟩ : ∃ r, r1 + r2 = r := ⟨_, rfl⟩
  rw [hr] at k9 ⊢
  clear hr c5 d5 c6 d6
  go_enter Try.func19, Try.ntmps19
  go_upto_region 1 with (fail)
  (try refine wp_region_noPanic ?_)
  refine wp_region_held_drew (S := (fun (w' : World) => w'.cell? ⟨w.heap.size, 5, none⟩ = some (.int .i64 m1) ∧ w'.cell? ⟨w.heap.size + 1, 5, none⟩ = some (.int .i64 m2) ∧ w'.cell? ⟨w.heap.size + 1 + 1, 0, none⟩ = some (.int .i64 x0) ∧ w'.cell? ⟨w.heap.size + 1 + 1, 1, none⟩ = some (.int .i64 x1) ∧ w'.cell? ⟨w.heap.size + 1 + 1 + 1, 0, none⟩ = some (.int .i64 y0) ∧ w'.cell? ⟨w.heap.size + 1 + 1 + 1, 1, none⟩ = some (.int .i64 y1))) (by kernel_rfl) ⟨(by first | (simp (maxDischargeDepth := 6) [go_sem, *]; done)), (by first | (simp (maxDischargeDepth := 6) [go_sem, *]; done)), (by first | (simp (maxDischargeDepth := 6) [go_sem, *]; done)), (by first | (simp (maxDischargeDepth := 6) [go_sem, *]; done)), (by first | (simp (maxDischargeDepth := 6) [go_sem, *]; done)), (by first | (simp (maxDischargeDepth := 6) [go_sem, *]; done))⟩ (fun hHeld => ?_)
  refine wpAnyH_take (i := 0) (v := ?_) (by simp only [List.getElem?_toArray, List.getElem?_cons_succ, List.getElem?_cons_zero]; rfl) (by kernel_rfl) (by kernel_rfl) (by kernel_rfl) (fun _ _ _ h => h) (Or.inl ⟨by rfl, ?_⟩) (by assumption) ?_
  rotate_left
  · intro w hSw; (try dsimp only at hSw); go_simp; try with_reducible rfl
  try simp only [Act.put, List.setIfInBounds_toArray, List.set_cons_zero, List.set_cons_succ]
  refine wpAnyH_take (i := 1) (v := ?_) (by simp only [List.getElem?_toArray, List.getElem?_cons_succ, List.getElem?_cons_zero]; rfl) (by kernel_rfl) (by kernel_rfl) (by kernel_rfl) (fun _ _ _ h => h) (Or.inl ⟨by rfl, ?_⟩) (by assumption) ?_
  rotate_left
  · intro w hSw; (try dsimp only at hSw); go_simp; try with_reducible rfl
  try simp only [Act.put, List.setIfInBounds_toArray, List.set_cons_zero, List.set_cons_succ]
  refine wpAnyH_take (i := 3) (v := ?_) (by simp only [List.getElem?_toArray, List.getElem?_cons_succ, List.getElem?_cons_zero]; rfl) (by kernel_rfl) (by kernel_rfl) (by kernel_rfl) (fun _ _ _ h => h) (Or.inl ⟨by rfl, ?_⟩) (by assumption) ?_
  rotate_left
  · intro w hSw; (try dsimp only at hSw); go_simp; try with_reducible rfl
  try simp only [Act.put, List.setIfInBounds_toArray, List.set_cons_zero, List.set_cons_succ]
  refine wpAnyH_take (i := 4) (v := ?_) (by simp only [List.getElem?_toArray, List.getElem?_cons_succ, List.getElem?_cons_zero]; rfl) (by kernel_rfl) (by kernel_rfl) (by kernel_rfl) (fun _ _ _ h => h) (Or.inl ⟨by rfl, ?_⟩) (by assumption) ?_
  rotate_left
  · intro w hSw; (try dsimp only at hSw); go_simp; try with_reducible rfl
  try simp only [Act.put, List.setIfInBounds_toArray, List.set_cons_zero, List.set_cons_succ]
  refine wpAnyH_take (i := 5) (v := ?_) (by simp only [List.getElem?_toArray, List.getElem?_cons_succ, List.getElem?_cons_zero]; rfl) (by kernel_rfl) (by kernel_rfl) (by kernel_rfl) (fun _ _ _ h => h) (Or.inl ⟨by rfl, ?_⟩) (by assumption) ?_
  rotate_left
  · intro w hSw; (try dsimp only at hSw); go_simp; try with_reducible rfl
  try simp only [Act.put, List.setIfInBounds_toArray, List.set_cons_zero, List.set_cons_succ]
  refine wpAnyH_take (i := 7) (v := ?_) (by simp only [List.getElem?_toArray, List.getElem?_cons_succ, List.getElem?_cons_zero]; rfl) (by kernel_rfl) (by kernel_rfl) (by kernel_rfl) (fun _ _ _ h => h) (Or.inl ⟨by rfl, ?_⟩) (by assumption) ?_
  rotate_left
  · intro w hSw; (try dsimp only at hSw); go_simp; try with_reducible rfl
  try simp only [Act.put, List.setIfInBounds_toArray, List.set_cons_zero, List.set_cons_succ]
  refine wpAnyH_take (i := 10) (v := ?_) (by simp only [List.getElem?_toArray, List.getElem?_cons_succ, List.getElem?_cons_zero]; rfl) (by kernel_rfl) (by kernel_rfl) (by kernel_rfl) (fun _ _ _ h => h) (Or.inl ⟨by rfl, ?_⟩) (by assumption) ?_
  rotate_left
  · intro w hSw; (try dsimp only at hSw); go_simp; try with_reducible rfl
  try simp only [Act.put, List.setIfInBounds_toArray, List.set_cons_zero, List.set_cons_succ]
  refine wpAnyH_take (i := 11) (v := ?_) (by simp only [List.getElem?_toArray, List.getElem?_cons_succ, List.getElem?_cons_zero]; rfl) (by kernel_rfl) (by kernel_rfl) (by kernel_rfl) (fun _ _ _ h => h) (Or.inl ⟨by rfl, ?_⟩) (by assumption) ?_
  rotate_left
  · intro w hSw; (try dsimp only at hSw); go_simp; try with_reducible rfl
  try simp only [Act.put, List.setIfInBounds_toArray, List.set_cons_zero, List.set_cons_succ]
  refine wpAnyH_take (i := 13) (v := ?_) (by simp only [List.getElem?_toArray, List.getElem?_cons_succ, List.getElem?_cons_zero]; rfl) (by kernel_rfl) (by kernel_rfl) (by kernel_rfl) (fun _ _ _ h => h) (Or.inl ⟨by rfl, ?_⟩) (by assumption) ?_
  rotate_left
  · intro w hSw; (try dsimp only at hSw); go_simp; try with_reducible rfl
  try simp only [Act.put, List.setIfInBounds_toArray, List.set_cons_zero, List.set_cons_succ]
  refine wpAnyH_take (i := 2) (v := ?_) (by simp only [List.getElem?_toArray, List.getElem?_cons_succ, List.getElem?_cons_zero]; rfl) (by kernel_rfl) (by kernel_rfl) (by kernel_rfl) (fun _ _ _ h => h) (Or.inl ⟨by rfl, ?_⟩) (by assumption) ?_
  rotate_left
  · intro w hSw; (try dsimp only at hSw); go_simp; try with_reducible rfl
  try simp only [Act.put, List.setIfInBounds_toArray, List.set_cons_zero, List.set_cons_succ]
  refine wpAnyH_take (i := 6) (v := ?_) (by simp only [List.getElem?_toArray, List.getElem?_cons_succ, List.getElem?_cons_zero]; rfl) (by kernel_rfl) (by kernel_rfl) (by kernel_rfl) (fun _ _ _ h => h) (Or.inl ⟨by rfl, ?_⟩) (by assumption) ?_
  rotate_left
  · intro w hSw; (try dsimp only at hSw); go_simp; try with_reducible rfl
  try simp only [Act.put, List.setIfInBounds_toArray, List.set_cons_zero, List.set_cons_succ]
  refine wpAnyH_take (i := 8) (v := ?_) (by simp only [List.getElem?_toArray, List.getElem?_cons_succ, List.getElem?_cons_zero]; rfl) (by kernel_rfl) (by kernel_rfl) (by kernel_rfl) (fun _ _ _ h => h) (Or.inl ⟨by rfl, ?_⟩) (by assumption) ?_
  rotate_left
  · intro w hSw; (try dsimp only at hSw); go_simp; try with_reducible rfl
  try simp only [Act.put, List.setIfInBounds_toArray, List.set_cons_zero, List.set_cons_succ]
  refine wpAnyH_take (i := 12) (v := ?_) (by simp only [List.getElem?_toArray, List.getElem?_cons_succ, List.getElem?_cons_zero]; rfl) (by kernel_rfl) (by kernel_rfl) (by kernel_rfl) (fun _ _ _ h => h) (Or.inl ⟨by rfl, ?_⟩) (by assumption) ?_
  rotate_left
  · intro w hSw; (try dsimp only at hSw); go_simp; try with_reducible rfl
  try simp only [Act.put, List.setIfInBounds_toArray, List.set_cons_zero, List.set_cons_succ]
  refine wpAnyH_take (i := 14) (v := ?_) (by simp only [List.getElem?_toArray, List.getElem?_cons_succ, List.getElem?_cons_zero]; rfl) (by kernel_rfl) (by kernel_rfl) (by kernel_rfl) (fun _ _ _ h => h) (Or.inl ⟨by rfl, ?_⟩) (by assumption) ?_
  rotate_left
  · intro w hSw; (try dsimp only at hSw); go_simp; try with_reducible rfl
  try simp only [Act.put, List.setIfInBounds_toArray, List.set_cons_zero, List.set_cons_succ]
  refine wpAnyH_ready (rs := [9]) (by kernel_rfl) (by simp) ?_
  refine AllReadyH.cons rfl (fun K hK => ?_) AllReadyH.nil
  have hOld := hHeld; clear hHeld
  go_simp
  (go_at_call 17; (with_reducible refine (mvCall (b := b) (w0 := w) (by (repeat (first | with_reducible assumption | with_reducible exact Mv.refl (by assumption) (by assumption) | with_reducible apply Mv.alloc | with_reducible apply Mv.drew | with_reducible apply Mv.drewN | ((with_reducible apply Mv.setCell); rotate_left; (first | (dsimp only; omega) | omega | (simp; omega)); (first | (dsimp only; omega) | omega | (simp; omega))) | ((with_reducible apply Mv.below); rotate_left; (with_reducible assumption)) | ((with_reducible apply Mv.trans); rotate_left; (with_reducible assumption))))) (k1 _ _)).mono ?_); rintro e w1 ⟨rfl, hM, HM⟩)
  (try go_wp2_with (fail))
  refine hK.out _ _ ⟨(by first | exact mv_cell hM (by first | (dsimp only; omega) | (simp; omega)) hOld.1 | exact cell_later hM hOld.1 | exact HT.cb | exact HT.cc | (simp (maxDischargeDepth := 6) [go_sem, *]; done)), (by first | exact mv_cell hM (by first | (dsimp only; omega) | (simp; omega)) hOld.2.1 | exact cell_later hM hOld.2.1 | exact HT.cb | exact HT.cc | (simp (maxDischargeDepth := 6) [go_sem, *]; done)), (by first | exact mv_cell hM (by first | (dsimp only; omega) | (simp; omega)) hOld.2.2.1 | exact cell_later hM hOld.2.2.1 | exact HT.cb | exact HT.cc | (simp (maxDischargeDepth := 6) [go_sem, *]; done)), (by first | exact mv_cell hM (by first | (dsimp only; omega) | (simp; omega)) hOld.2.2.2.1 | exact cell_later hM hOld.2.2.2.1 | exact HT.cb | exact HT.cc | (simp (maxDischargeDepth := 6) [go_sem, *]; done)), (by first | exact mv_cell hM (by first | (dsimp only; omega) | (simp; omega)) hOld.2.2.2.2.1 | exact cell_later hM hOld.2.2.2.2.1 | exact HT.cb | exact HT.cc | (simp (maxDischargeDepth := 6) [go_sem, *]; done)), (by first | exact mv_cell hM (by first | (dsimp only; omega) | (simp; omega)) hOld.2.2.2.2.2 | exact cell_later hM hOld.2.2.2.2.2 | exact HT.cb | exact HT.cc | (simp (maxDischargeDepth := 6) [go_sem, *]; done))⟩ (fun hHeld => ?_)
  clear hK K hOld
  try simp only [Act.put, List.setIfInBounds_toArray, List.set_cons_zero, List.set_cons_succ]
  refine wpAnyH_ready (rs := [15]) (by kernel_rfl) (by simp) ?_
  refine AllReadyH.cons rfl (fun K hK => ?_) AllReadyH.nil
  have hOld := hHeld; clear hHeld
  go_simp
  (go_at_call 17; (with_reducible refine (mvCall (b := b) (w0 := w) (by (repeat (first | with_reducible assumption | with_reducible exact Mv.refl (by assumption) (by assumption) | with_reducible apply Mv.alloc | with_reducible apply Mv.drew | with_reducible apply Mv.drewN | ((with_reducible apply Mv.setCell); rotate_left; (first | (dsimp only; omega) | omega | (simp; omega)); (first | (dsimp only; omega) | omega | (simp; omega))) | ((with_reducible apply Mv.below); rotate_left; (with_reducible assumption)) | ((with_reducible apply Mv.trans); rotate_left; (with_reducible assumption))))) (k2 _ _)).mono ?_); rintro e w1 ⟨rfl, hM, HM⟩)
  (try go_wp2_with (fail))
  refine hK.out _ _ ⟨(by first | exact mv_cell hM (by first | (dsimp only; omega) | (simp; omega)) hOld.1 | exact cell_later hM hOld.1 | exact HT.cb | exact HT.cc | (simp (maxDischargeDepth := 6) [go_sem, *]; done)), (by first | exact mv_cell hM (by first | (dsimp only; omega) | (simp; omega)) hOld.2.1 | exact cell_later hM hOld.2.1 | exact HT.cb | exact HT.cc | (simp (maxDischargeDepth := 6) [go_sem, *]; done)), (by first | exact mv_cell hM (by first | (dsimp only; omega) | (simp; omega)) hOld.2.2.1 | exact cell_later hM hOld.2.2.1 | exact HT.cb | exact HT.cc | (simp (maxDischargeDepth := 6) [go_sem, *]; done)), (by first | exact mv_cell hM (by first | (dsimp only; omega) | (simp; omega)) hOld.2.2.2.1 | exact cell_later hM hOld.2.2.2.1 | exact HT.cb | exact HT.cc | (simp (maxDischargeDepth := 6) [go_sem, *]; done)), (by first | exact mv_cell hM (by first | (dsimp only; omega) | (simp; omega)) hOld.2.2.2.2.1 | exact cell_later hM hOld.2.2.2.2.1 | exact HT.cb | exact HT.cc | (simp (maxDischargeDepth := 6) [go_sem, *]; done)), (by first | exact mv_cell hM (by first | (dsimp only; omega) | (simp; omega)) hOld.2.2.2.2.2 | exact cell_later hM hOld.2.2.2.2.2 | exact HT.cb | exact HT.cc | (simp (maxDischargeDepth := 6) [go_sem, *]; done))⟩ (fun hHeld => ?_)
  clear hK K hOld
  try simp only [Act.put, List.setIfInBounds_toArray, List.set_cons_zero, List.set_cons_succ]
  refine wpAnyH_ready (rs := [16]) (by kernel_rfl) (by simp) ?_
  refine AllReadyH.cons rfl (fun K hK => ?_) AllReadyH.nil
  have hOld := hHeld; clear hHeld
  go_simp
  (go_at_call 16; (with_reducible refine (mvCall (b := b) (w0 := w) (by (repeat (first | with_reducible assumption | with_reducible exact Mv.refl (by assumption) (by assumption) | with_reducible apply Mv.alloc | with_reducible apply Mv.drew | with_reducible apply Mv.drewN | ((with_reducible apply Mv.setCell); rotate_left; (first | (dsimp only; omega) | omega | (simp; omega)); (first | (dsimp only; omega) | omega | (simp; omega))) | ((with_reducible apply Mv.below); rotate_left; (with_reducible assumption)) | ((with_reducible apply Mv.trans); rotate_left; (with_reducible assumption))))) (k5 _ _)).mono ?_); rintro e w1 ⟨rfl, hM, HM⟩)
  (try go_wp2_with (fail))
  refine hK.out _ _ ⟨(by first | exact mv_cell hM (by first | (dsimp only; omega) | (simp; omega)) hOld.1 | exact cell_later hM hOld.1 | exact HT.cb | exact HT.cc | (simp (maxDischargeDepth := 6) [go_sem, *]; done)), (by first | exact mv_cell hM (by first | (dsimp only; omega) | (simp; omega)) hOld.2.1 | exact cell_later hM hOld.2.1 | exact HT.cb | exact HT.cc | (simp (maxDischargeDepth := 6) [go_sem, *]; done)), (by first | exact mv_cell hM (by first | (dsimp only; omega) | (simp; omega)) hOld.2.2.1 | exact cell_later hM hOld.2.2.1 | exact HT.cb | exact HT.cc | (simp (maxDischargeDepth := 6) [go_sem, *]; done)), (by first | exact mv_cell hM (by first | (dsimp only; omega) | (simp; omega)) hOld.2.2.2.1 | exact cell_later hM hOld.2.2.2.1 | exact HT.cb | exact HT.cc | (simp (maxDischargeDepth := 6) [go_sem, *]; done)), (by first | exact mv_cell hM (by first | (dsimp only; omega) | (simp; omega)) hOld.2.2.2.2.1 | exact cell_later hM hOld.2.2.2.2.1 | exact HT.cb | exact HT.cc | (simp (maxDischargeDepth := 6) [go_sem, *]; done)), (by first | exact mv_cell hM (by first | (dsimp only; omega) | (simp; omega)) hOld.2.2.2.2.2 | exact cell_later hM hOld.2.2.2.2.2 | exact HT.cb | exact HT.cc | (simp (maxDischargeDepth := 6) [go_sem, *]; done))⟩ (fun hHeld => ?_)
  clear hK K hOld
  try simp only [Act.put, List.setIfInBounds_toArray, List.set_cons_zero, List.set_cons_succ]
  refine wpAnyH_ready (rs := [17]) (by kernel_rfl) (by simp) ?_
  refine AllReadyH.cons rfl (fun K hK => ?_) AllReadyH.nil
  have hOld := hHeld; clear hHeld
  go_simp
  (go_at_call 17; (with_reducible refine (mvCall (b := b) (w0 := w) (by (repeat (first | with_reducible assumption | with_reducible exact Mv.refl (by assumption) (by assumption) | with_reducible apply Mv.alloc | with_reducible apply Mv.drew | with_reducible apply Mv.drewN | ((with_reducible apply Mv.setCell); rotate_left; (first | (dsimp only; omega) | omega | (simp; omega)); (first | (dsimp only; omega) | omega | (simp; omega))) | ((with_reducible apply Mv.below); rotate_left; (with_reducible assumption)) | ((with_reducible apply Mv.trans); rotate_left; (with_reducible assumption))))) (k7 _ _)).mono ?_); rintro e w1 ⟨rfl, hM, HM⟩)
  (try go_wp2_with (fail))
  refine hK.out _ _ ⟨(by first | exact mv_cell hM (by first | (dsimp only; omega) | (simp; omega)) hOld.1 | exact cell_later hM hOld.1 | exact HT.cb | exact HT.cc | (simp (maxDischargeDepth := 6) [go_sem, *]; done)), (by first | exact mv_cell hM (by first | (dsimp only; omega) | (simp; omega)) hOld.2.1 | exact cell_later hM hOld.2.1 | exact HT.cb | exact HT.cc | (simp (maxDischargeDepth := 6) [go_sem, *]; done)), (by first | exact mv_cell hM (by first | (dsimp only; omega) | (simp; omega)) hOld.2.2.1 | exact cell_later hM hOld.2.2.1 | exact HT.cb | exact HT.cc | (simp (maxDischargeDepth := 6) [go_sem, *]; done)), (by first | exact mv_cell hM (by first | (dsimp only; omega) | (simp; omega)) hOld.2.2.2.1 | exact cell_later hM hOld.2.2.2.1 | exact HT.cb | exact HT.cc | (simp (maxDischargeDepth := 6) [go_sem, *]; done)), (by first | exact mv_cell hM (by first | (dsimp only; omega) | (simp; omega)) hOld.2.2.2.2.1 | exact cell_later hM hOld.2.2.2.2.1 | exact HT.cb | exact HT.cc | (simp (maxDischargeDepth := 6) [go_sem, *]; done)), (by first | exact mv_cell hM (by first | (dsimp only; omega) | (simp; omega)) hOld.2.2.2.2.2 | exact cell_later hM hOld.2.2.2.2.2 | exact HT.cb | exact HT.cc | (simp (maxDischargeDepth := 6) [go_sem, *]; done))⟩ (fun hHeld => ?_)
  clear hK K hOld
  try simp only [Act.put, List.setIfInBounds_toArray, List.set_cons_zero, List.set_cons_succ]
  refine wpAnyH_take (i := 18) (v := ?_) (by simp only [List.getElem?_toArray, List.getElem?_cons_succ, List.getElem?_cons_zero]; rfl) (by kernel_rfl) (by kernel_rfl) (by kernel_rfl) (fun _ _ _ h => h) (Or.inl ⟨by rfl, ?_⟩) (by assumption) ?_
  rotate_left
  · intro w hSw; (try dsimp only at hSw); go_simp; try with_reducible rfl
  try simp only [Act.put, List.setIfInBounds_toArray, List.set_cons_zero, List.set_cons_succ]
  refine wpAnyH_done (by kernel_rfl) ?_ _
  (try refine NoPanic.normal ?_)
  (try clear q0); (try clear q1); (try clear q2); (try clear q3); (try clear q4); (try clear q5); obtain ⟨q0, q1, q2, q3, q4, q5⟩ := hHeld
  go_upto_region 2 with (fail)
  (try refine wp_region_noPanic ?_)
  refine wp_region_held_drew (S := (fun (w' : World) => w'.cell? ⟨w.heap.size, 5, none⟩ = some (.int .i64 m1) ∧ w'.cell? ⟨w.heap.size + 1, 5, none⟩ = some (.int .i64 m2) ∧ w'.cell? ⟨w.heap.size + 1 + 1, 0, none⟩ = some (.int .i64 x0) ∧ w'.cell? ⟨w.heap.size + 1 + 1, 1, none⟩ = some (.int .i64 x1) ∧ w'.cell? ⟨w.heap.size + 1 + 1 + 1, 0, none⟩ = some (.int .i64 y0) ∧ w'.cell? ⟨w.heap.size + 1 + 1 + 1, 1, none⟩ = some (.int .i64 y1))) (by kernel_rfl) ⟨(by first | (simp (maxDischargeDepth := 6) [go_sem, *]; done)), (by first | (simp (maxDischargeDepth := 6) [go_sem, *]; done)), (by first | (simp (maxDischargeDepth := 6) [go_sem, *]; done)), (by first | (simp (maxDischargeDepth := 6) [go_sem, *]; done)), (by first | (simp (maxDischargeDepth := 6) [go_sem, *]; done)), (by first | (simp (maxDischargeDepth := 6) [go_sem, *]; done))⟩ (fun hHeld => ?_)
  refine wpAnyH_take (i := 0) (v := ?_) (by simp only [List.getElem?_toArray, List.getElem?_cons_succ, List.getElem?_cons_zero]; rfl) (by kernel_rfl) (by kernel_rfl) (by kernel_rfl) (fun _ _ _ h => h) (Or.inl ⟨by rfl, ?_⟩) (by assumption) ?_
  rotate_left
  · intro w hSw; (try dsimp only at hSw); go_simp; try with_reducible rfl
  try simp only [Act.put, List.setIfInBounds_toArray, List.set_cons_zero, List.set_cons_succ]
  refine wpAnyH_take (i := 1) (v := ?_) (by simp only [List.getElem?_toArray, List.getElem?_cons_succ, List.getElem?_cons_zero]; rfl) (by kernel_rfl) (by kernel_rfl) (by kernel_rfl) (fun _ _ _ h => h) (Or.inl ⟨by rfl, ?_⟩) (by assumption) ?_
  rotate_left
  · intro w hSw; (try dsimp only at hSw); go_simp; try with_reducible rfl
  try simp only [Act.put, List.setIfInBounds_toArray, List.set_cons_zero, List.set_cons_succ]
  refine wpAnyH_take (i := 3) (v := ?_) (by simp only [List.getElem?_toArray, List.getElem?_cons_succ, List.getElem?_cons_zero]; rfl) (by kernel_rfl) (by kernel_rfl) (by kernel_rfl) (fun _ _ _ h => h) (Or.inl ⟨by rfl, ?_⟩) (by assumption) ?_
  rotate_left
  · intro w hSw; (try dsimp only at hSw); go_simp; try with_reducible rfl
  try simp only [Act.put, List.setIfInBounds_toArray, List.set_cons_zero, List.set_cons_succ]
  refine wpAnyH_take (i := 4) (v := ?_) (by simp only [List.getElem?_toArray, List.getElem?_cons_succ, List.getElem?_cons_zero]; rfl) (by kernel_rfl) (by kernel_rfl) (by kernel_rfl) (fun _ _ _ h => h) (Or.inl ⟨by rfl, ?_⟩) (by assumption) ?_
  rotate_left
  · intro w hSw; (try dsimp only at hSw); go_simp; try with_reducible rfl
  try simp only [Act.put, List.setIfInBounds_toArray, List.set_cons_zero, List.set_cons_succ]
  refine wpAnyH_take (i := 5) (v := ?_) (by simp only [List.getElem?_toArray, List.getElem?_cons_succ, List.getElem?_cons_zero]; rfl) (by kernel_rfl) (by kernel_rfl) (by kernel_rfl) (fun _ _ _ h => h) (Or.inl ⟨by rfl, ?_⟩) (by assumption) ?_
  rotate_left
  · intro w hSw; (try dsimp only at hSw); go_simp; try with_reducible rfl
  try simp only [Act.put, List.setIfInBounds_toArray, List.set_cons_zero, List.set_cons_succ]
  refine wpAnyH_take (i := 7) (v := ?_) (by simp only [List.getElem?_toArray, List.getElem?_cons_succ, List.getElem?_cons_zero]; rfl) (by kernel_rfl) (by kernel_rfl) (by kernel_rfl) (fun _ _ _ h => h) (Or.inl ⟨by rfl, ?_⟩) (by assumption) ?_
  rotate_left
  · intro w hSw; (try dsimp only at hSw); go_simp; try with_reducible rfl
  try simp only [Act.put, List.setIfInBounds_toArray, List.set_cons_zero, List.set_cons_succ]
  refine wpAnyH_take (i := 10) (v := ?_) (by simp only [List.getElem?_toArray, List.getElem?_cons_succ, List.getElem?_cons_zero]; rfl) (by kernel_rfl) (by kernel_rfl) (by kernel_rfl) (fun _ _ _ h => h) (Or.inl ⟨by rfl, ?_⟩) (by assumption) ?_
  rotate_left
  · intro w hSw; (try dsimp only at hSw); go_simp; try with_reducible rfl
  try simp only [Act.put, List.setIfInBounds_toArray, List.set_cons_zero, List.set_cons_succ]
  refine wpAnyH_take (i := 11) (v := ?_) (by simp only [List.getElem?_toArray, List.getElem?_cons_succ, List.getElem?_cons_zero]; rfl) (by kernel_rfl) (by kernel_rfl) (by kernel_rfl) (fun _ _ _ h => h) (Or.inl ⟨by rfl, ?_⟩) (by assumption) ?_
  rotate_left
  · intro w hSw; (try dsimp only at hSw); go_simp; try with_reducible rfl
  try simp only [Act.put, List.setIfInBounds_toArray, List.set_cons_zero, List.set_cons_succ]
  refine wpAnyH_take (i := 13) (v := ?_) (by simp only [List.getElem?_toArray, List.getElem?_cons_succ, List.getElem?_cons_zero]; rfl) (by kernel_rfl) (by kernel_rfl) (by kernel_rfl) (fun _ _ _ h => h) (Or.inl ⟨by rfl, ?_⟩) (by assumption) ?_
  rotate_left
  · intro w hSw; (try dsimp only at hSw); go_simp; try with_reducible rfl
  try simp only [Act.put, List.setIfInBounds_toArray, List.set_cons_zero, List.set_cons_succ]
  refine wpAnyH_take (i := 2) (v := ?_) (by simp only [List.getElem?_toArray, List.getElem?_cons_succ, List.getElem?_cons_zero]; rfl) (by kernel_rfl) (by kernel_rfl) (by kernel_rfl) (fun _ _ _ h => h) (Or.inl ⟨by rfl, ?_⟩) (by assumption) ?_
  rotate_left
  · intro w hSw; (try dsimp only at hSw); go_simp; try with_reducible rfl
  try simp only [Act.put, List.setIfInBounds_toArray, List.set_cons_zero, List.set_cons_succ]
  refine wpAnyH_take (i := 6) (v := ?_) (by simp only [List.getElem?_toArray, List.getElem?_cons_succ, List.getElem?_cons_zero]; rfl) (by kernel_rfl) (by kernel_rfl) (by kernel_rfl) (fun _ _ _ h => h) (Or.inl ⟨by rfl, ?_⟩) (by assumption) ?_
  rotate_left
  · intro w hSw; (try dsimp only at hSw); go_simp; try with_reducible rfl
  try simp only [Act.put, List.setIfInBounds_toArray, List.set_cons_zero, List.set_cons_succ]
  refine wpAnyH_take (i := 8) (v := ?_) (by simp only [List.getElem?_toArray, List.getElem?_cons_succ, List.getElem?_cons_zero]; rfl) (by kernel_rfl) (by kernel_rfl) (by kernel_rfl) (fun _ _ _ h => h) (Or.inl ⟨by rfl, ?_⟩) (by assumption) ?_
  rotate_left
  · intro w hSw; (try dsimp only at hSw); go_simp; try with_reducible rfl
  try simp only [Act.put, List.setIfInBounds_toArray, List.set_cons_zero, List.set_cons_succ]
  refine wpAnyH_take (i := 12) (v := ?_) (by simp only [List.getElem?_toArray, List.getElem?_cons_succ, List.getElem?_cons_zero]; rfl) (by kernel_rfl) (by kernel_rfl) (by kernel_rfl) (fun _ _ _ h => h) (Or.inl ⟨by rfl, ?_⟩) (by assumption) ?_
  rotate_left
  · intro w hSw; (try dsimp only at hSw); go_simp; try with_reducible rfl
  try simp only [Act.put, List.setIfInBounds_toArray, List.set_cons_zero, List.set_cons_succ]
  refine wpAnyH_take (i := 14) (v := ?_) (by simp only [List.getElem?_toArray, List.getElem?_cons_succ, List.getElem?_cons_zero]; rfl) (by kernel_rfl) (by kernel_rfl) (by kernel_rfl) (fun _ _ _ h => h) (Or.inl ⟨by rfl, ?_⟩) (by assumption) ?_
  rotate_left
  · intro w hSw; (try dsimp only at hSw); go_simp; try with_reducible rfl
  try simp only [Act.put, List.setIfInBounds_toArray, List.set_cons_zero, List.set_cons_succ]
  refine wpAnyH_ready (rs := [9]) (by kernel_rfl) (by simp) ?_
  refine AllReadyH.cons rfl (fun K hK => ?_) AllReadyH.nil
  have hOld := hHeld; clear hHeld
  go_simp
  (go_at_call 17; (with_reducible refine (mvCall (b := b) (w0 := w) (by (repeat (first | with_reducible assumption | with_reducible exact Mv.refl (by assumption) (by assumption) | with_reducible apply Mv.alloc | with_reducible apply Mv.drew | with_reducible apply Mv.drewN | ((with_reducible apply Mv.setCell); rotate_left; (first | (dsimp only; omega) | omega | (simp; omega)); (first | (dsimp only; omega) | omega | (simp; omega))) | ((with_reducible apply Mv.below); rotate_left; (with_reducible assumption)) | ((with_reducible apply Mv.trans); rotate_left; (with_reducible assumption))))) (k3 _ _)).mono ?_); rintro e w1 ⟨rfl, hM, HM⟩)
  (try go_wp2_with (fail))
  refine hK.out _ _ ⟨(by first | exact mv_cell hM (by first | (dsimp only; omega) | (simp; omega)) hOld.1 | exact cell_later hM hOld.1 | exact HT.cb | exact HT.cc | (simp (maxDischargeDepth := 6) [go_sem, *]; done)), (by first | exact mv_cell hM (by first | (dsimp only; omega) | (simp; omega)) hOld.2.1 | exact cell_later hM hOld.2.1 | exact HT.cb | exact HT.cc | (simp (maxDischargeDepth := 6) [go_sem, *]; done)), (by first | exact mv_cell hM (by first | (dsimp only; omega) | (simp; omega)) hOld.2.2.1 | exact cell_later hM hOld.2.2.1 | exact HT.cb | exact HT.cc | (simp (maxDischargeDepth := 6) [go_sem, *]; done)), (by first | exact mv_cell hM (by first | (dsimp only; omega) | (simp; omega)) hOld.2.2.2.1 | exact cell_later hM hOld.2.2.2.1 | exact HT.cb | exact HT.cc | (simp (maxDischargeDepth := 6) [go_sem, *]; done)), (by first | exact mv_cell hM (by first | (dsimp only; omega) | (simp; omega)) hOld.2.2.2.2.1 | exact cell_later hM hOld.2.2.2.2.1 | exact HT.cb | exact HT.cc | (simp (maxDischargeDepth := 6) [go_sem, *]; done)), (by first | exact mv_cell hM (by first | (dsimp only; omega) | (simp; omega)) hOld.2.2.2.2.2 | exact cell_later hM hOld.2.2.2.2.2 | exact HT.cb | exact HT.cc | (simp (maxDischargeDepth := 6) [go_sem, *]; done))⟩ (fun hHeld => ?_)
  clear hK K hOld
  try simp only [Act.put, List.setIfInBounds_toArray, List.set_cons_zero, List.set_cons_succ]
  refine wpAnyH_ready (rs := [15]) (by kernel_rfl) (by simp) ?_
  refine AllReadyH.cons rfl (fun K hK => ?_) AllReadyH.nil
  have hOld := hHeld; clear hHeld
  go_simp
  (go_at_call 17; (with_reducible refine (mvCall (b := b) (w0 := w) (by (repeat (first | with_reducible assumption | with_reducible exact Mv.refl (by assumption) (by assumption) | with_reducible apply Mv.alloc | with_reducible apply Mv.drew | with_reducible apply Mv.drewN | ((with_reducible apply Mv.setCell); rotate_left; (first | (dsimp only; omega) | omega | (simp; omega)); (first | (dsimp only; omega) | omega | (simp; omega))) | ((with_reducible apply Mv.below); rotate_left; (with_reducible assumption)) | ((with_reducible apply Mv.trans); rotate_left; (with_reducible assumption))))) (k4 _ _)).mono ?_); rintro e w1 ⟨rfl, hM, HM⟩)
  (try go_wp2_with (fail))
  refine hK.out _ _ ⟨(by first | exact mv_cell hM (by first | (dsimp only; omega) | (simp; omega)) hOld.1 | exact cell_later hM hOld.1 | exact HT.cb | exact HT.cc | (simp (maxDischargeDepth := 6) [go_sem, *]; done)), (by first | exact mv_cell hM (by first | (dsimp only; omega) | (simp; omega)) hOld.2.1 | exact cell_later hM hOld.2.1 | exact HT.cb | exact HT.cc | (simp (maxDischargeDepth := 6) [go_sem, *]; done)), (by first | exact mv_cell hM (by first | (dsimp only; omega) | (simp; omega)) hOld.2.2.1 | exact cell_later hM hOld.2.2.1 | exact HT.cb | exact HT.cc | (simp (maxDischargeDepth := 6) [go_sem, *]; done)), (by first | exact mv_cell hM (by first | (dsimp only; omega) | (simp; omega)) hOld.2.2.2.1 | exact cell_later hM hOld.2.2.2.1 | exact HT.cb | exact HT.cc | (simp (maxDischargeDepth := 6) [go_sem, *]; done)), (by first | exact mv_cell hM (by first | (dsimp only; omega) | (simp; omega)) hOld.2.2.2.2.1 | exact cell_later hM hOld.2.2.2.2.1 | exact HT.cb | exact HT.cc | (simp (maxDischargeDepth := 6) [go_sem, *]; done)), (by first | exact mv_cell hM (by first | (dsimp only; omega) | (simp; omega)) hOld.2.2.2.2.2 | exact cell_later hM hOld.2.2.2.2.2 | exact HT.cb | exact HT.cc | (simp (maxDischargeDepth := 6) [go_sem, *]; done))⟩ (fun hHeld => ?_)
  clear hK K hOld
  try simp only [Act.put, List.setIfInBounds_toArray, List.set_cons_zero, List.set_cons_succ]
  refine wpAnyH_ready (rs := [16]) (by kernel_rfl) (by simp) ?_
  refine AllReadyH.cons rfl (fun K hK => ?_) AllReadyH.nil
  have hOld := hHeld; clear hHeld
  go_simp
  (go_at_call 16; (with_reducible refine (mvCall (b := b) (w0 := w) (by (repeat (first | with_reducible assumption | with_reducible exact Mv.refl (by assumption) (by assumption) | with_reducible apply Mv.alloc | with_reducible apply Mv.drew | with_reducible apply Mv.drewN | ((with_reducible apply Mv.setCell); rotate_left; (first | (dsimp only; omega) | omega | (simp; omega)); (first | (dsimp only; omega) | omega | (simp; omega))) | ((with_reducible apply Mv.below); rotate_left; (with_reducible assumption)) | ((with_reducible apply Mv.trans); rotate_left; (with_reducible assumption))))) (k6 _ _)).mono ?_); rintro e w1 ⟨rfl, hM, HM⟩)
  (try go_wp2_with (fail))
  refine hK.out _ _ ⟨(by first | exact mv_cell hM (by first | (dsimp only; omega) | (simp; omega)) hOld.1 | exact cell_later hM hOld.1 | exact HT.cb | exact HT.cc | (simp (maxDischargeDepth := 6) [go_sem, *]; done)), (by first | exact mv_cell hM (by first | (dsimp only; omega) | (simp; omega)) hOld.2.1 | exact cell_later hM hOld.2.1 | exact HT.cb | exact HT.cc | (simp (maxDischargeDepth := 6) [go_sem, *]; done)), (by first | exact mv_cell hM (by first | (dsimp only; omega) | (simp; omega)) hOld.2.2.1 | exact cell_later hM hOld.2.2.1 | exact HT.cb | exact HT.cc | (simp (maxDischargeDepth := 6) [go_sem, *]; done)), (by first | exact mv_cell hM (by first | (dsimp only; omega) | (simp; omega)) hOld.2.2.2.1 | exact cell_later hM hOld.2.2.2.1 | exact HT.cb | exact HT.cc | (simp (maxDischargeDepth := 6) [go_sem, *]; done)), (by first | exact mv_cell hM (by first | (dsimp only; omega) | (simp; omega)) hOld.2.2.2.2.1 | exact cell_later hM hOld.2.2.2.2.1 | exact HT.cb | exact HT.cc | (simp (maxDischargeDepth := 6) [go_sem, *]; done)), (by first | exact mv_cell hM (by first | (dsimp only; omega) | (simp; omega)) hOld.2.2.2.2.2 | exact cell_later hM hOld.2.2.2.2.2 | exact HT.cb | exact HT.cc | (simp (maxDischargeDepth := 6) [go_sem, *]; done))⟩ (fun hHeld => ?_)
  clear hK K hOld
  try simp only [Act.put, List.setIfInBounds_toArray, List.set_cons_zero, List.set_cons_succ]
  refine wpAnyH_ready (rs := [17]) (by kernel_rfl) (by simp) ?_
  refine AllReadyH.cons rfl (fun K hK => ?_) AllReadyH.nil
  have hOld := hHeld; clear hHeld
  go_simp
  (go_at_call 17; (with_reducible refine (mvCall (b := b) (w0 := w) (by (repeat (first | with_reducible assumption | with_reducible exact Mv.refl (by assumption) (by assumption) | with_reducible apply Mv.alloc | with_reducible apply Mv.drew | with_reducible apply Mv.drewN | ((with_reducible apply Mv.setCell); rotate_left; (first | (dsimp only; omega) | omega | (simp; omega)); (first | (dsimp only; omega) | omega | (simp; omega))) | ((with_reducible apply Mv.below); rotate_left; (with_reducible assumption)) | ((with_reducible apply Mv.trans); rotate_left; (with_reducible assumption))))) (k8 _ _)).mono ?_); rintro e w1 ⟨rfl, hM, HM⟩)
  (try go_wp2_with (fail))
  refine hK.out _ _ ⟨(by first | exact mv_cell hM (by first | (dsimp only; omega) | (simp; omega)) hOld.1 | exact cell_later hM hOld.1 | exact HT.cb | exact HT.cc | (simp (maxDischargeDepth := 6) [go_sem, *]; done)), (by first | exact mv_cell hM (by first | (dsimp only; omega) | (simp; omega)) hOld.2.1 | exact cell_later hM hOld.2.1 | exact HT.cb | exact HT.cc | (simp (maxDischargeDepth := 6) [go_sem, *]; done)), (by first | exact mv_cell hM (by first | (dsimp only; omega) | (simp; omega)) hOld.2.2.1 | exact cell_later hM hOld.2.2.1 | exact HT.cb | exact HT.cc | (simp (maxDischargeDepth := 6) [go_sem, *]; done)), (by first | exact mv_cell hM (by first | (dsimp only; omega) | (simp; omega)) hOld.2.2.2.1 | exact cell_later hM hOld.2.2.2.1 | exact HT.cb | exact HT.cc | (simp (maxDischargeDepth := 6) [go_sem, *]; done)), (by first | exact mv_cell hM (by first | (dsimp only; omega) | (simp; omega)) hOld.2.2.2.2.1 | exact cell_later hM hOld.2.2.2.2.1 | exact HT.cb | exact HT.cc | (simp (maxDischargeDepth := 6) [go_sem, *]; done)), (by first | exact mv_cell hM (by first | (dsimp only; omega) | (simp; omega)) hOld.2.2.2.2.2 | exact cell_later hM hOld.2.2.2.2.2 | exact HT.cb | exact HT.cc | (simp (maxDischargeDepth := 6) [go_sem, *]; done))⟩ (fun hHeld => ?_)
  clear hK K hOld
  try simp only [Act.put, List.setIfInBounds_toArray, List.set_cons_zero, List.set_cons_succ]
  refine wpAnyH_take (i := 18) (v := ?_) (by simp only [List.getElem?_toArray, List.getElem?_cons_succ, List.getElem?_cons_zero]; rfl) (by kernel_rfl) (by kernel_rfl) (by kernel_rfl) (fun _ _ _ h => h) (Or.inl ⟨by rfl, ?_⟩) (by assumption) ?_
  rotate_left
  · intro w hSw; (try dsimp only at hSw); go_simp; try with_reducible rfl
  try simp only [Act.put, List.setIfInBounds_toArray, List.set_cons_zero, List.set_cons_succ]
  refine wpAnyH_done (by kernel_rfl) ?_ _
  (try refine NoPanic.normal ?_)
  (try clear q0); (try clear q1); (try clear q2); (try clear q3); (try clear q4); (try clear q5); obtain ⟨q0, q1, q2, q3, q4, q5⟩ := hHeld
  go_wp2_with ((go_at_call 16; (with_reducible refine (mvCall (b := b) (w0 := w) (by (repeat (first | with_reducible assumption | with_reducible exact Mv.refl (by assumption) (by assumption) | with_reducible apply Mv.alloc | with_reducible apply Mv.drew | with_reducible apply Mv.drewN | ((with_reducible apply Mv.setCell); rotate_left; (first | (dsimp only; omega) | omega | (simp; omega)); (first | (dsimp only; omega) | omega | (simp; omega))) | ((with_reducible apply Mv.below); rotate_left; (with_reducible assumption)) | ((with_reducible apply Mv.trans); rotate_left; (with_reducible assumption))))) (k9 _ _)).mono ?_); rintro e w1 ⟨rfl, hM, HM⟩))
  go_ret
  exact ⟨rfl, by (repeat (first | with_reducible assumption | with_reducible exact Mv.refl (by assumption) (by assumption) | with_reducible apply Mv.alloc | with_reducible apply Mv.drew | with_reducible apply Mv.drewN | ((with_reducible apply Mv.setCell); rotate_left; (first | (dsimp only; omega) | omega | (simp; omega)); (first | (dsimp only; omega) | omega | (simp; omega))) | ((with_reducible apply Mv.below); rotate_left; (with_reducible assumption)) | ((with_reducible apply Mv.trans); rotate_left; (with_reducible assumption))))⟩
/-- Discs that may be, slow, and not too near. -/
def Rgt (ax ay vx vy s1 m1 bx bY wx wy s2 m2 bo : Int) : Prop :=
  (drt ax ay vx vy s1 m1 = true ∧ drt bx bY wx wy s2 m2 = true ∧ 0 ≤ bo ∧ bo ≤ 4294967296) ∧
  ((-68719476736 ≤ vx ∧ vx ≤ 68719476736 ∧ -68719476736 ≤ vy ∧ vy ≤ 68719476736) ∧ (-68719476736 ≤ wx ∧ wx ≤ 68719476736 ∧ -68719476736 ≤ wy ∧ wy ≤ 68719476736)) ∧ 268435456 ≤ sqs (sat (bx - ax)) (sat (bY - ay))
/-- A bump of such discs: all fits; what is left is known. -/
theorem bumped (ax ay vx vy s1 m1 bx bY wx wy s2 m2 bo : Int) (h : Rgt ax ay vx vy s1 m1 bx bY wx wy s2 m2 bo) : ∃ (r1 r2 r3 r4 ux uy n : Int) (t : Bool),
    Left m1 m2 vx vy wx wy ux uy r1 r2 r3 r4 t ∧ (-4294967296 ≤ ux ∧ ux ≤ 4294967296 ∧ -4294967296 ≤ uy ∧ uy ≤ 4294967296) ∧
    (∀ (b : Nat) (o : Bool) (w : World), w.cell? ⟨b, 0, none⟩ = some (.bool o) → w.frozen? ⟨b, 0, none⟩ = false →
      Calls Try.prog 13 #[.pointer (some ⟨b, 0, none⟩), .agg #[.int .i64 ax, .int .i64 ay, .int .i64 vx, .int .i64 vy, .int .i64 s1, .int .i64 m1], .agg #[.int .i64 bx, .int .i64 bY, .int .i64 wx, .int .i64 wy, .int .i64 s2, .int .i64 m2], .int .i64 bo] w fun e w' => e = .returned (.tuple #[.agg #[.int .i64 r1, .int .i64 r2], .agg #[.int .i64 r3, .int .i64 r4], .bool true]) ∧ Mv b o w w') ∧
    (∀ (b : Nat) (o : Bool) (w : World), w.cell? ⟨b, 0, none⟩ = some (.bool o) → w.frozen? ⟨b, 0, none⟩ = false →
      Calls Try.prog 7 #[.pointer (some ⟨b, 0, none⟩), .agg #[.int .i64 ax, .int .i64 ay, .int .i64 vx, .int .i64 vy, .int .i64 s1, .int .i64 m1], .agg #[.int .i64 bx, .int .i64 bY, .int .i64 wx, .int .i64 wy, .int .i64 s2, .int .i64 m2]] w fun e w' => e = .returned (.tuple #[.agg #[.int .i64 ux, .int .i64 uy], .int .i64 n, .bool t]) ∧ Mv b o w w') := by
  obtain ⟨⟨h1, h2, h3, h4⟩, ⟨⟨v0, v1, v2, v3⟩, w0, w1, w2, w3⟩, hn0⟩ := h
  obtain ⟨⟨d1, d2, d3, d4⟩, ⟨d5, d6, d7, d8⟩, d9, d10, d11, d12⟩ := drt_bd h1
  obtain ⟨⟨g1, g2, g3, g4⟩, ⟨g5, g6, g7, g8⟩, g9, g10, g11, g12⟩ := drt_bd h2
  obtain ⟨n, en⟩ : ∃ v, sqs (sat (bx - ax)) (sat (bY - ay)) = v := ⟨_, rfl⟩
  rw [en] at hn0
  obtain ⟨ux, eux⟩ : ∃ v, uq (sat (bx - ax)) n = v := ⟨_, rfl⟩
  obtain ⟨uy, euy⟩ : ∃ v, uq (sat (bY - ay)) n = v := ⟨_, rfl⟩
  obtain ⟨t, et⟩ : ∃ v, tou n s1 s2 = v := ⟨_, rfl⟩
  obtain ⟨hap, hu, hU⟩ := bump_unit ax ay bx bY s1 s2 n ux uy d1 d2 d3 d4 g1 g2 g3 g4 (by omega) (by omega) (by omega) (by omega) en hn0 eux euy
  obtain ⟨hb1, hb2, hb3⟩ := bump_left m1 m2 vx vy wx wy ux uy bo t (by omega) (by omega) (by omega) (by omega) h3 h4 hu hU v0 v1 v2 v3 w0 w1 w2 w3
  have k2 : ∀ (b : Nat) (o : Bool) (w : World), w.cell? ⟨b, 0, none⟩ = some (.bool o) → w.frozen? ⟨b, 0, none⟩ = false →
      Calls Try.prog 7 #[.pointer (some ⟨b, 0, none⟩), .agg #[.int .i64 ax, .int .i64 ay, .int .i64 vx, .int .i64 vy, .int .i64 s1, .int .i64 m1], .agg #[.int .i64 bx, .int .i64 bY, .int .i64 wx, .int .i64 wy, .int .i64 s2, .int .i64 m2]] w fun e w' => e = .returned (.tuple #[.agg #[.int .i64 ux, .int .i64 uy], .int .i64 n, .bool t]) ∧ Mv b o w w' := by
    intro b o w hc hf
    have k := cApart ax ay vx vy s1 m1 bx bY wx wy s2 m2 b o w (by omega) (by omega) (by omega) (by omega) (by omega) (by omega) (by omega) (by omega) (by omega) (by omega) (by omega) (by omega) hc hf
    rw [en, eux, euy, et, hap] at k
    exact k.mono fun _ _ ⟨h1, h2⟩ => ⟨h1, Mv.cast h2 (by cases o <;> rfl)⟩
  have k1 := fun b o w hc hf => cBumpY ax ay vx vy s1 m1 bx bY wx wy s2 m2 bo b o w h1 h2 h3 h4 ux uy n t (by rw [en]; exact eux) (by rw [en]; exact euy) en et (by omega) (by omega) (by omega) (by omega) hc hf
  cases hg : (t && decide (0 < bcl ux uy vx vy wx wy)) with
  | true =>
    obtain ⟨q1, q2, q3⟩ := hb2 hg
    refine ⟨_, _, _, _, ux, uy, n, t, q3, hu, ?_, k2⟩
    intro b o w hc hf
    have k := k1 b o w hc hf
    rw [hg, if_pos rfl, hap, hb1, q1, q2] at k
    exact k.mono fun _ _ ⟨h1, h2⟩ => ⟨h1, Mv.cast h2 (by cases o <;> rfl)⟩
  | false =>
    refine ⟨vx, vy, wx, wy, ux, uy, n, t, hb3 hg, hu, ?_, k2⟩
    intro b o w hc hf
    have k := k1 b o w hc hf
    rw [hg, if_neg (by decide), hap, hb1] at k
    exact k.mono fun _ _ ⟨h1, h2⟩ => ⟨h1, Mv.cast h2 (by cases o <;> rfl)⟩
set_option maxHeartbeats 8000000 in
set_option maxRecDepth 20000 in
theorem cRight49 (ax ay vx vy s1 m1 bx bY wx wy s2 m2 bo : Int) (w : World) (ax_0 : -9223372036854775808 ≤ ax) (ax_1 : ax ≤ 9223372036854775807) (ay_0 : -9223372036854775808 ≤ ay) (ay_1 : ay ≤ 9223372036854775807) (vx_0 : -9223372036854775808 ≤ vx) (vx_1 : vx ≤ 9223372036854775807) (vy_0 : -9223372036854775808 ≤ vy) (vy_1 : vy ≤ 9223372036854775807) (s1_0 : -9223372036854775808 ≤ s1) (s1_1 : s1 ≤ 9223372036854775807) (m1_0 : -9223372036854775808 ≤ m1) (m1_1 : m1 ≤ 9223372036854775807) (bx_0 : -9223372036854775808 ≤ bx) (bx_1 : bx ≤ 9223372036854775807) (bY_0 : -9223372036854775808 ≤ bY) (bY_1 : bY ≤ 9223372036854775807) (wx_0 : -9223372036854775808 ≤ wx) (wx_1 : wx ≤ 9223372036854775807) (wy_0 : -9223372036854775808 ≤ wy) (wy_1 : wy ≤ 9223372036854775807) (s2_0 : -9223372036854775808 ≤ s2) (s2_1 : s2 ≤ 9223372036854775807) (m2_0 : -9223372036854775808 ≤ m2) (m2_1 : m2 ≤ 9223372036854775807) (bo_0 : -9223372036854775808 ≤ bo) (bo_1 : bo ≤ 9223372036854775807) :
    Calls Try.prog 15 #[.agg #[.int .i64 ax, .int .i64 ay, .int .i64 vx, .int .i64 vy, .int .i64 s1, .int .i64 m1], .agg #[.int .i64 bx, .int .i64 bY, .int .i64 wx, .int .i64 wy, .int .i64 s2, .int .i64 m2], .int .i64 bo] w fun e w' => ∃ g : Bool, e = .returned (.bool g) ∧ Hid (g = true → Rgt ax ay vx vy s1 m1 bx bY wx wy s2 m2 bo) ∧ Below w.heap.size w w' := by
  have kR1 := fun W => cBRight ax ay vx vy s1 m1 W s1_0 s1_1 m1_0 m1_1
  have kR2 := fun W => cBRight bx bY wx wy s2 m2 W s2_0 s2_1 m2_0 m2_1
  have kA := fun c O W => cApart ax ay vx vy s1 m1 bx bY wx wy s2 m2 c O W ax_0 ax_1 ay_0 ay_1 bx_0 bx_1 bY_0 bY_1 s1_0 s1_1 s2_0 s2_1
  cases h1 : drt ax ay vx vy s1 m1 with
  | false =>
    rw [show drn ax ay vx vy s1 m1 = 40 by unfold drn; rw [h1]; rfl] at kR1
    clear h1 kA kR2
    go_enter Try.func15, Try.ntmps15
    go_wp2_with ((go_at_call 10; (with_reducible refine (kR1 _).mono ?_); rintro e w1 ⟨rfl, hM⟩))
    go_ret
    exact ⟨false, rfl, Lib.hid (fun h => by cases h), by (repeat (first | with_reducible assumption | with_reducible exact Below.refl _ _ | ((with_reducible refine Below.setCell ?_ ?_ _); rotate_left; (first | exact Nat.le_refl _ | (dsimp only; omega) | (simp; done) | (simp; omega))) | with_reducible refine below_alloc ?_ _ | with_reducible apply below_drewN | with_reducible apply Below.drew | with_reducible refine below_step ?_ (by assumption)))⟩
  | true =>
  have D1 := Lib.hid h1
  rw [show drn ax ay vx vy s1 m1 = 0 by unfold drn; rw [h1]; rfl] at kR1
  cases h2 : drt bx bY wx wy s2 m2 with
  | false =>
    rw [show drn bx bY wx wy s2 m2 = 40 by unfold drn; rw [h2]; rfl] at kR2
    clear h1 h2 kA
    go_enter Try.func15, Try.ntmps15
    go_wp2_with (fail)
    (go_at_call 10; (with_reducible refine (kR1 _).mono ?_); rintro e w1 ⟨rfl, hM⟩)
    have B : Bk (w.heap.size + 1) 0 [.int .i64 bx, .int .i64 bY, .int .i64 wx, .int .i64 wy, .int .i64 s2, .int .i64 m2] w1 := Bk.later (by simp [Bk, go_sem]; done) hM
    have HB : Below w.heap.size w w1 := by (repeat (first | with_reducible assumption | with_reducible exact Below.refl _ _ | ((with_reducible refine Below.setCell ?_ ?_ _); rotate_left; (first | exact Nat.le_refl _ | (dsimp only; omega) | (simp; done) | (simp; omega))) | with_reducible refine below_alloc ?_ _ | with_reducible apply below_drewN | with_reducible apply Below.drew | with_reducible refine below_step ?_ (by assumption)))
    have C_B := B; simp only [Bk] at C_B
    clear hM kR1
    go_wp2_with (fail)
    (go_at_call 10; (with_reducible refine (kR2 _).mono ?_); rintro e9 w1 ⟨rfl, hM⟩; (first | have HB : Below w.heap.size w _ := below_step HB hM | have HB : Below w.heap.size w _ := below_step (W := _) (by (repeat (first | with_reducible assumption | with_reducible exact Below.refl _ _ | ((with_reducible refine Below.setCell ?_ ?_ _); rotate_left; (first | exact Nat.le_refl _ | (dsimp only; omega) | (simp; done) | (simp; omega))) | with_reducible refine below_alloc ?_ _ | with_reducible apply below_drewN | with_reducible apply Below.drew | with_reducible refine below_step ?_ (by assumption)))) hM); (first | have B := Bk.later B hM | have B := Bk.later (Bk.alloc B _) hM | have B := Bk.later (Bk.alloc (Bk.alloc B _) _) hM); have C_B := B; simp only [Bk] at C_B)
    clear hM kR2
    go_wp2
    go_ret
    exact ⟨false, rfl, Lib.hid (fun h => by cases h), by first | exact HB | (repeat (first | with_reducible assumption | with_reducible exact Below.refl _ _ | ((with_reducible refine Below.setCell ?_ ?_ _); rotate_left; (first | exact Nat.le_refl _ | (dsimp only; omega) | (simp; done) | (simp; omega))) | with_reducible refine below_alloc ?_ _ | with_reducible apply below_drewN | with_reducible apply Below.drew | with_reducible refine below_step ?_ (by assumption)))⟩
  | true =>
  have D2 := Lib.hid h2
  rw [show drn bx bY wx wy s2 m2 = 0 by unfold drn; rw [h2]; rfl] at kR2
  have DB := Lib.hid (And.intro (drt_bd h1) (drt_bd h2))
  clear h1 h2
  obtain ⟨ux, eux⟩ : ∃ v, uq (sat (bx - ax)) (sqs (sat (bx - ax)) (sat (bY - ay))) = v := ⟨_, rfl⟩
  obtain ⟨uy, euy⟩ : ∃ v, uq (sat (bY - ay)) (sqs (sat (bx - ax)) (sat (bY - ay))) = v := ⟨_, rfl⟩
  obtain ⟨n, en⟩ : ∃ v, sqs (sat (bx - ax)) (sat (bY - ay)) = v := ⟨_, rfl⟩
  obtain ⟨t, et⟩ : ∃ v, tou n s1 s2 = v := ⟨_, rfl⟩
  rw [eux, euy, en, et] at kA
  generalize apok ax ay bx bY s1 s2 = f at *
  have HN := Lib.hid en
  clear en eux euy et
  go_enter Try.func15, Try.ntmps15
  go_wp2_with (fail)
  (go_at_call 10; (with_reducible refine (kR1 _).mono ?_); rintro e w1 ⟨rfl, hM⟩)
  have A : Bk (w.heap.size) 0 [.int .i64 ax, .int .i64 ay, .int .i64 vx, .int .i64 vy, .int .i64 s1, .int .i64 m1] w1 := Bk.later (by simp [Bk, go_sem]; done) hM
  have B : Bk (w.heap.size + 1) 0 [.int .i64 bx, .int .i64 bY, .int .i64 wx, .int .i64 wy, .int .i64 s2, .int .i64 m2] w1 := Bk.later (by simp [Bk, go_sem]; done) hM
  have M : Bk (w.heap.size + 1 + 1) 0 [.bool false] w1 := Bk.later (by simp [Bk, go_sem]; done) hM
  have HB : Below w.heap.size w w1 := by (repeat (first | with_reducible assumption | with_reducible exact Below.refl _ _ | ((with_reducible refine Below.setCell ?_ ?_ _); rotate_left; (first | exact Nat.le_refl _ | (dsimp only; omega) | (simp; done) | (simp; omega))) | with_reducible refine below_alloc ?_ _ | with_reducible apply below_drewN | with_reducible apply Below.drew | with_reducible refine below_step ?_ (by assumption)))
  have C_A := A; simp only [Bk] at C_A
  have C_B := B; simp only [Bk] at C_B
  have C_M := M; simp only [Bk] at C_M
  clear hM kR1
  go_wp2_with (fail)
  (go_at_call 10; (with_reducible refine (kR2 _).mono ?_); rintro e9 w1 ⟨rfl, hM⟩; (first | have HB : Below w.heap.size w _ := below_step HB hM | have HB : Below w.heap.size w _ := below_step (W := _) (by (repeat (first | with_reducible assumption | with_reducible exact Below.refl _ _ | ((with_reducible refine Below.setCell ?_ ?_ _); rotate_left; (first | exact Nat.le_refl _ | (dsimp only; omega) | (simp; done) | (simp; omega))) | with_reducible refine below_alloc ?_ _ | with_reducible apply below_drewN | with_reducible apply Below.drew | with_reducible refine below_step ?_ (by assumption)))) hM); (first | have A := Bk.later A hM | have A := Bk.later (Bk.alloc A _) hM | have A := Bk.later (Bk.alloc (Bk.alloc A _) _) hM); have C_A := A; simp only [Bk] at C_A; (first | have B := Bk.later B hM | have B := Bk.later (Bk.alloc B _) hM | have B := Bk.later (Bk.alloc (Bk.alloc B _) _) hM); have C_B := B; simp only [Bk] at C_B; (first | have M := Bk.later M hM | have M := Bk.later (Bk.alloc M _) hM | have M := Bk.later (Bk.alloc (Bk.alloc M _) _) hM); have C_M := M; simp only [Bk] at C_M)
  clear hM kR2
  rcases (show bo < 0 ∨ (0 ≤ bo ∧ 4294967296 < bo) ∨ (0 ≤ bo ∧ bo ≤ 4294967296) by omega) with hbo | ⟨hbo, hbo2⟩ | ⟨hbo, hbo2⟩
  · go_wp2
    go_ret
    exact ⟨false, rfl, Lib.hid (fun h => by cases h), by first | exact HB | (repeat (first | with_reducible assumption | with_reducible exact Below.refl _ _ | ((with_reducible refine Below.setCell ?_ ?_ _); rotate_left; (first | exact Nat.le_refl _ | (dsimp only; omega) | (simp; done) | (simp; omega))) | with_reducible refine below_alloc ?_ _ | with_reducible apply below_drewN | with_reducible apply Below.drew | with_reducible refine below_step ?_ (by assumption)))⟩
  · go_wp2
    go_ret
    exact ⟨false, rfl, Lib.hid (fun h => by cases h), by first | exact HB | (repeat (first | with_reducible assumption | with_reducible exact Below.refl _ _ | ((with_reducible refine Below.setCell ?_ ?_ _); rotate_left; (first | exact Nat.le_refl _ | (dsimp only; omega) | (simp; done) | (simp; omega))) | with_reducible refine below_alloc ?_ _ | with_reducible apply below_drewN | with_reducible apply Below.drew | with_reducible refine below_step ?_ (by assumption)))⟩
  · rename World => wr
    have HT : On (w.heap.size + 1 + 1) false w wr := ⟨HB, M.1, M.2.1, by omega⟩
    go_upto_region 4 with (fail)
    go_cut [8] (fun s wq => ∃ g : Bool, s = .bool g ∧ wq = wr ∧ Hid (g = true → ((-68719476736 ≤ vx ∧ vx ≤ 68719476736 ∧ -68719476736 ≤ vy ∧ vy ≤ 68719476736) ∧ (-68719476736 ≤ wx ∧ wx ≤ 68719476736 ∧ -68719476736 ≤ wy ∧ wy ≤ 68719476736))))
    case first =>
      rcases (show (68719476736 < vx) ∨ (vx ≤ 68719476736 ∧ vx < -68719476736) ∨ ((vx ≤ 68719476736 ∧ -68719476736 ≤ vx) ∧ 68719476736 < vy) ∨ ((vx ≤ 68719476736 ∧ -68719476736 ≤ vx) ∧ vy ≤ 68719476736 ∧ vy < -68719476736) ∨
        ((vx ≤ 68719476736 ∧ -68719476736 ≤ vx) ∧ (vy ≤ 68719476736 ∧ -68719476736 ≤ vy) ∧ 68719476736 < wx) ∨ ((vx ≤ 68719476736 ∧ -68719476736 ≤ vx) ∧ (vy ≤ 68719476736 ∧ -68719476736 ≤ vy) ∧ wx ≤ 68719476736 ∧ wx < -68719476736) ∨
        ((vx ≤ 68719476736 ∧ -68719476736 ≤ vx) ∧ (vy ≤ 68719476736 ∧ -68719476736 ≤ vy) ∧ (wx ≤ 68719476736 ∧ -68719476736 ≤ wx) ∧ 68719476736 < wy) ∨
        ((vx ≤ 68719476736 ∧ -68719476736 ≤ vx) ∧ (vy ≤ 68719476736 ∧ -68719476736 ≤ vy) ∧ (wx ≤ 68719476736 ∧ -68719476736 ≤ wx) ∧ wy ≤ 68719476736) by omega) with
        i1 | ⟨i1, i2⟩ | ⟨⟨i1, i2⟩, i3⟩ | ⟨⟨i1, i2⟩, i3, i4⟩ | ⟨⟨i1, i2⟩, ⟨i3, i4⟩, i5⟩ | ⟨⟨i1, i2⟩, ⟨i3, i4⟩, i5, i6⟩ | ⟨⟨i1, i2⟩, ⟨i3, i4⟩, ⟨i5, i6⟩, i7⟩ | ⟨⟨i1, i2⟩, ⟨i3, i4⟩, ⟨i5, i6⟩, i7⟩
      all_goals go_wp2
      all_goals go_meet
      all_goals first | exact ⟨false, rfl, rfl, Lib.hid (fun h => by cases h)⟩ | exact ⟨_, rfl, rfl, Lib.hid (fun h => ⟨⟨i2, i1, i4, i3⟩, i6, i5, of_decide_eq_true h, i7⟩)⟩
    case rest =>
      obtain ⟨g, rfl, rfl, HG⟩ := hcut
      go_wp2_with (fail)
      (go_at_call 7; (with_reducible refine (On.call (by (repeat (first | with_reducible assumption | with_reducible apply On.alloc | with_reducible apply On.drew | ((with_reducible apply On.after); rotate_left; (with_reducible assumption)) | ((with_reducible apply On.setCell); rotate_left; (first | (dsimp only; omega) | omega | (simp; omega)); (first | (dsimp only; omega) | omega | (simp; omega)); (first | (dsimp only; omega) | omega | (simp; omega)))))) (kA _ _ _)).mono ?_); rintro e9 w1 ⟨rfl, hM, HT⟩; (first | have A := Bk.mv hM (by omega) A | have A := Bk.mv hM (by omega) (Bk.drew A) | have A := Bk.mv hM (by omega) (Bk.alloc A _) | have A := Bk.mv hM (by omega) (Bk.alloc (Bk.alloc A _) _)); have C_A := A; simp only [Bk] at C_A; (first | have B := Bk.mv hM (by omega) B | have B := Bk.mv hM (by omega) (Bk.drew B) | have B := Bk.mv hM (by omega) (Bk.alloc B _) | have B := Bk.mv hM (by omega) (Bk.alloc (Bk.alloc B _) _)); have C_B := B; simp only [Bk] at C_B)
      clear hM kA
      have HB := HT.below
      cases g with
      | false =>
        go_wp2
        go_ret
        exact ⟨false, rfl, Lib.hid (fun h => by cases h), by (repeat (first | with_reducible assumption | with_reducible exact Below.refl _ _ | ((with_reducible refine Below.setCell ?_ ?_ _); rotate_left; (first | exact Nat.le_refl _ | (dsimp only; omega) | (simp; done) | (simp; omega))) | with_reducible refine below_alloc ?_ _ | with_reducible apply below_drewN | with_reducible apply Below.drew | with_reducible refine below_step ?_ (by assumption)))⟩
      | true =>
        have HR : Hid (268435456 ≤ n → Rgt ax ay vx vy s1 m1 bx bY wx wy s2 m2 bo) := Lib.hid (fun hn => ⟨⟨D1.out, D2.out, hbo, hbo2⟩, HG.out rfl, by rw [HN.out]; exact hn⟩)
        go_wp2
        go_ret
        exact ⟨_, rfl, Lib.hid (fun h => HR.out (of_decide_eq_true h)), by (repeat (first | with_reducible assumption | with_reducible exact Below.refl _ _ | ((with_reducible refine Below.setCell ?_ ?_ _); rotate_left; (first | exact Nat.le_refl _ | (dsimp only; omega) | (simp; done) | (simp; omega))) | with_reducible refine below_alloc ?_ _ | with_reducible apply below_drewN | with_reducible apply Below.drew | with_reducible refine below_step ?_ (by assumption)))⟩
end Go.Proofs.Ytgdoaibgcjdklaa
