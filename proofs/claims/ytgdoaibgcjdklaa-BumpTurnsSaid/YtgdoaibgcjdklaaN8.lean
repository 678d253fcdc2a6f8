/- The contract of the document's Bump, where something may not be. -/
import Derived.Test.YtgdoaibgcjdklaaN6
set_option linter.unusedSimpArgs false
set_option linter.unusedVariables false
namespace Go.Proofs.Ytgdoaibgcjdklaa
open Go.RowKit
set_option maxHeartbeats 8000000 in
set_option maxRecDepth 20000 in
theorem r9BumpN (ax ay vx vy s1 m1 bx bY wx wy s2 m2 bo : Int) (b : Nat) (o : Bool) (w : World) (s1_0 : -9223372036854775808 ≤ s1) (s1_1 : s1 ≤ 9223372036854775807) (m1_0 : -9223372036854775808 ≤ m1) (m1_1 : m1 ≤ 9223372036854775807) (s2_0 : -9223372036854775808 ≤ s2) (s2_1 : s2 ≤ 9223372036854775807) (m2_0 : -9223372036854775808 ≤ m2) (m2_1 : m2 ≤ 9223372036854775807) (bo_0 : -9223372036854775808 ≤ bo) (bo_1 : bo ≤ 9223372036854775807)
    (h : (drt ax ay vx vy s1 m1 && drt bx bY wx wy s2 m2 && (decide (0 ≤ bo) && decide (bo ≤ 4294967296))) = false) (hc : w.cell? ⟨b, 0, none⟩ = some (.bool o)) (hf : w.frozen? ⟨b, 0, none⟩ = false) :
    Calls Try.prog 14 #[.pointer (some ⟨b, 0, none⟩), .agg #[.int .i64 ax, .int .i64 ay, .int .i64 vx, .int .i64 vy, .int .i64 s1, .int .i64 m1], .agg #[.int .i64 bx, .int .i64 bY, .int .i64 wx, .int .i64 wy, .int .i64 s2, .int .i64 m2], .int .i64 bo] w fun e w' =>
      e = .returned (.tuple #[.agg #[.int .i64 vx, .int .i64 vy], .agg #[.int .i64 wx, .int .i64 wy], .bool false]) ∧ Mv b o w w' := by
  have hb := lt_of_cell hc
  have HM := Mv.refl hc hf
  clear hc hf
  have kR1 := fun W => r9Right ax ay vx vy s1 m1 W s1_0 s1_1 m1_0 m1_1
  have kR2 := fun W => r9Right bx bY wx wy s2 m2 W s2_0 s2_1 m2_0 m2_1
  have e1 : drn ax ay vx vy s1 m1 = if drt ax ay vx vy s1 m1 = true then 0 else 40 := rfl
  have e2 : drn bx bY wx wy s2 m2 = if drt bx bY wx wy s2 m2 = true then 0 else 40 := rfl
  rw [e1] at kR1; rw [e2] at kR2
  clear e1 e2
  generalize drt ax ay vx vy s1 m1 = a1 at *
  generalize drt bx bY wx wy s2 m2 = a2 at *
  rcases (show a1 = false ∨ (a1 = true ∧ a2 = false) ∨ (a1 = true ∧ a2 = true ∧ bo < 0) ∨ (a1 = true ∧ a2 = true ∧ 4294967296 < bo) by
    cases a1
    · exact Or.inl rfl
    · cases a2
      · exact Or.inr (Or.inl ⟨rfl, rfl⟩)
      · simp only [Bool.true_and, Bool.and_eq_false_iff, decide_eq_false_iff_not] at h
        rcases h with h | h
        · exact Or.inr (Or.inr (Or.inl ⟨rfl, rfl, by omega⟩))
        · exact Or.inr (Or.inr (Or.inr ⟨rfl, rfl, by omega⟩))) with rfl | ⟨rfl, rfl⟩ | ⟨rfl, rfl, h3⟩ | ⟨rfl, rfl, h3⟩
  · simp only [Bool.false_eq_true, if_false] at kR1
    clear h
    go_enter Try.func14, Try.ntmps14
    go_wp2_with (fail)
    (go_at_call 11; (with_reducible refine (kR1 _).mono ?_); rintro e w1 ⟨rfl, hM⟩)
    have A : Bk (w.heap.size) 0 [.int .i64 ax, .int .i64 ay, .int .i64 vx, .int .i64 vy, .int .i64 s1, .int .i64 m1] w1 := Bk.later (by simp [Bk, go_sem]; done) hM
    have B : Bk (w.heap.size + 1) 0 [.int .i64 bx, .int .i64 bY, .int .i64 wx, .int .i64 wy, .int .i64 s2, .int .i64 m2] w1 := Bk.later (by simp [Bk, go_sem]; done) hM
    have R : Bk (w.heap.size + 1 + 1) 0 [.int .i64 0, .int .i64 0] w1 := Bk.later (by simp [Bk, go_sem]; done) hM
    have T : Bk (w.heap.size + 1 + 1 + 1) 0 [.int .i64 0, .int .i64 0] w1 := Bk.later (by simp [Bk, go_sem]; done) hM
    have HB : Below w.heap.size w w1 := by (repeat (first | with_reducible assumption | with_reducible exact Below.refl _ _ | ((with_reducible refine Below.setCell ?_ ?_ _); rotate_left; (first | exact Nat.le_refl _ | (dsimp only; omega) | (simp; done) | (simp; omega))) | with_reducible refine below_alloc ?_ _ | with_reducible apply below_drewN | with_reducible apply Below.drew | with_reducible refine below_step ?_ (by assumption)))
    have C_A := A; simp only [Bk] at C_A
    have C_B := B; simp only [Bk] at C_B
    have C_R := R; simp only [Bk] at C_R
    have C_T := T; simp only [Bk] at C_T
    have HM : Mv b o w w1 := by (repeat (first | with_reducible assumption | with_reducible exact Mv.refl (by assumption) (by assumption) | with_reducible apply Mv.alloc | with_reducible apply Mv.drew | with_reducible apply Mv.drewN | ((with_reducible apply Mv.setCell); rotate_left; (first | (dsimp only; omega) | omega | (simp; omega)); (first | (dsimp only; omega) | omega | (simp; omega))) | ((with_reducible apply Mv.below); rotate_left; (with_reducible assumption)) | ((with_reducible apply Mv.trans); rotate_left; (with_reducible assumption))))
    clear hM kR1
    go_upto_region 2 with (first | ((go_at_call 11; (with_reducible refine (kR2 _).mono ?_); rintro e9 w1 ⟨rfl, hM⟩; (first | have HB : Below w.heap.size w _ := below_step HB hM | have HB : Below w.heap.size w _ := below_step (W := _) (by (repeat (first | with_reducible assumption | with_reducible exact Below.refl _ _ | ((with_reducible refine Below.setCell ?_ ?_ _); rotate_left; (first | exact Nat.le_refl _ | (dsimp only; omega) | (simp; done) | (simp; omega))) | with_reducible refine below_alloc ?_ _ | with_reducible apply below_drewN | with_reducible apply Below.drew | with_reducible refine below_step ?_ (by assumption)))) hM); (first | have A := Bk.later A hM | have A := Bk.later (Bk.alloc A _) hM | have A := Bk.later (Bk.alloc (Bk.alloc A _) _) hM); have C_A := A; simp only [Bk] at C_A; (first | have B := Bk.later B hM | have B := Bk.later (Bk.alloc B _) hM | have B := Bk.later (Bk.alloc (Bk.alloc B _) _) hM); have C_B := B; simp only [Bk] at C_B; (first | have R := Bk.later R hM | have R := Bk.later (Bk.alloc R _) hM | have R := Bk.later (Bk.alloc (Bk.alloc R _) _) hM); have C_R := R; simp only [Bk] at C_R; (first | have T := Bk.later T hM | have T := Bk.later (Bk.alloc T _) hM | have T := Bk.later (Bk.alloc (Bk.alloc T _) _) hM); have C_T := T; simp only [Bk] at C_T); have HM : Mv b o w w1 := by (repeat (first | with_reducible assumption | with_reducible exact Mv.refl (by assumption) (by assumption) | with_reducible apply Mv.alloc | with_reducible apply Mv.drew | with_reducible apply Mv.drewN | ((with_reducible apply Mv.setCell); rotate_left; (first | (dsimp only; omega) | omega | (simp; omega)); (first | (dsimp only; omega) | omega | (simp; omega))) | ((with_reducible apply Mv.below); rotate_left; (with_reducible assumption)) | ((with_reducible apply Mv.trans); rotate_left; (with_reducible assumption))))))
    (try refine wp_region_noPanic ?_)
    refine wp_region_held_drew (S := (fun (w' : World) => w'.cell? ⟨w.heap.size, 2, none⟩ = some (.int .i64 vx) ∧ w'.cell? ⟨w.heap.size, 3, none⟩ = some (.int .i64 vy) ∧ w'.cell? ⟨w.heap.size + 1, 2, none⟩ = some (.int .i64 wx) ∧ w'.cell? ⟨w.heap.size + 1, 3, none⟩ = some (.int .i64 wy))) (by kernel_rfl) ⟨(by first | (simp (maxDischargeDepth := 6) [go_sem, *]; done)), (by first | (simp (maxDischargeDepth := 6) [go_sem, *]; done)), (by first | (simp (maxDischargeDepth := 6) [go_sem, *]; done)), (by first | (simp (maxDischargeDepth := 6) [go_sem, *]; done))⟩ (fun hHeld => ?_)
    refine wpAnyH_take (i := 0) (v := ?_) (by simp only [List.getElem?_toArray, List.getElem?_cons_succ, List.getElem?_cons_zero]; rfl) (by kernel_rfl) (by kernel_rfl) (by kernel_rfl) (fun _ _ _ h => h) (Or.inl ⟨by rfl, ?_⟩) (by assumption) ?_
    rotate_left
    · intro w hSw; (try dsimp only at hSw); go_simp; try with_reducible rfl
    try simp only [Act.put, List.setIfInBounds_toArray, List.set_cons_zero, List.set_cons_succ]
    refine wpAnyH_take (i := 2) (v := ?_) (by simp only [List.getElem?_toArray, List.getElem?_cons_succ, List.getElem?_cons_zero]; rfl) (by kernel_rfl) (by kernel_rfl) (by kernel_rfl) (fun _ _ _ h => h) (Or.inl ⟨by rfl, ?_⟩) (by assumption) ?_
    rotate_left
    · intro w hSw; (try dsimp only at hSw); go_simp; try with_reducible rfl
    try simp only [Act.put, List.setIfInBounds_toArray, List.set_cons_zero, List.set_cons_succ]
    refine wpAnyH_take (i := 1) (v := ?_) (by simp only [List.getElem?_toArray, List.getElem?_cons_succ, List.getElem?_cons_zero]; rfl) (by kernel_rfl) (by kernel_rfl) (by kernel_rfl) (fun _ _ _ h => h) (Or.inl ⟨by rfl, ?_⟩) (by assumption) ?_
    rotate_left
    · intro w hSw; (try dsimp only at hSw); go_simp; try with_reducible rfl
    try simp only [Act.put, List.setIfInBounds_toArray, List.set_cons_zero, List.set_cons_succ]
    refine wpAnyH_take (i := 3) (v := ?_) (by simp only [List.getElem?_toArray, List.getElem?_cons_succ, List.getElem?_cons_zero]; rfl) (by kernel_rfl) (by kernel_rfl) (by kernel_rfl) (fun _ _ _ h => h) (Or.inl ⟨by rfl, ?_⟩) (by assumption) ?_
    rotate_left
    · intro w hSw; (try dsimp only at hSw); go_simp; try with_reducible rfl
    try simp only [Act.put, List.setIfInBounds_toArray, List.set_cons_zero, List.set_cons_succ]
    refine wpAnyH_ready (rs := [4]) (by kernel_rfl) (by simp) ?_
    refine AllReadyH.cons rfl (fun K hK => ?_) AllReadyH.nil
    have hOld := hHeld; clear hHeld
    go_simp
    (try go_wp2_with (fail))
    refine hK.out _ _ ⟨(by first | exact mv_cell hM (by first | (dsimp only; omega) | (simp; omega)) hOld.1 | exact cell_later hM hOld.1 | exact HT.cb | exact HT.cc | (simp (maxDischargeDepth := 6) [go_sem, *]; done)), (by first | exact mv_cell hM (by first | (dsimp only; omega) | (simp; omega)) hOld.2.1 | exact cell_later hM hOld.2.1 | exact HT.cb | exact HT.cc | (simp (maxDischargeDepth := 6) [go_sem, *]; done)), (by first | exact mv_cell hM (by first | (dsimp only; omega) | (simp; omega)) hOld.2.2.1 | exact cell_later hM hOld.2.2.1 | exact HT.cb | exact HT.cc | (simp (maxDischargeDepth := 6) [go_sem, *]; done)), (by first | exact mv_cell hM (by first | (dsimp only; omega) | (simp; omega)) hOld.2.2.2 | exact cell_later hM hOld.2.2.2 | exact HT.cb | exact HT.cc | (simp (maxDischargeDepth := 6) [go_sem, *]; done))⟩ (fun hHeld => ?_)
    clear hK K hOld
    try simp only [Act.put, List.setIfInBounds_toArray, List.set_cons_zero, List.set_cons_succ]
    refine wpAnyH_ready (rs := [5]) (by kernel_rfl) (by simp) ?_
    refine AllReadyH.cons rfl (fun K hK => ?_) AllReadyH.nil
    have hOld := hHeld; clear hHeld
    go_simp
    (try go_wp2_with (fail))
    refine hK.out _ _ ⟨(by first | exact mv_cell hM (by first | (dsimp only; omega) | (simp; omega)) hOld.1 | exact cell_later hM hOld.1 | exact HT.cb | exact HT.cc | (simp (maxDischargeDepth := 6) [go_sem, *]; done)), (by first | exact mv_cell hM (by first | (dsimp only; omega) | (simp; omega)) hOld.2.1 | exact cell_later hM hOld.2.1 | exact HT.cb | exact HT.cc | (simp (maxDischargeDepth := 6) [go_sem, *]; done)), (by first | exact mv_cell hM (by first | (dsimp only; omega) | (simp; omega)) hOld.2.2.1 | exact cell_later hM hOld.2.2.1 | exact HT.cb | exact HT.cc | (simp (maxDischargeDepth := 6) [go_sem, *]; done)), (by first | exact mv_cell hM (by first | (dsimp only; omega) | (simp; omega)) hOld.2.2.2 | exact cell_later hM hOld.2.2.2 | exact HT.cb | exact HT.cc | (simp (maxDischargeDepth := 6) [go_sem, *]; done))⟩ (fun hHeld => ?_)
    clear hK K hOld
    try simp only [Act.put, List.setIfInBounds_toArray, List.set_cons_zero, List.set_cons_succ]
    refine wpAnyH_take (i := 6) (v := ?_) (by simp only [List.getElem?_toArray, List.getElem?_cons_succ, List.getElem?_cons_zero]; rfl) (by kernel_rfl) (by kernel_rfl) (by kernel_rfl) (fun _ _ _ h => h) (Or.inl ⟨by rfl, ?_⟩) (by assumption) ?_
    rotate_left
    · intro w hSw; (try dsimp only at hSw); go_simp; try with_reducible rfl
    try simp only [Act.put, List.setIfInBounds_toArray, List.set_cons_zero, List.set_cons_succ]
    refine wpAnyH_done (by kernel_rfl) ?_ _
    (try refine NoPanic.normal ?_)
    (try clear q0); (try clear q1); (try clear q2); (try clear q3); obtain ⟨q0, q1, q2, q3⟩ := hHeld
    all_goals go_wp2
    all_goals simp (maxDischargeDepth := 8) [bodyPost, results, Try.results14, go_sem, *]
    all_goals (repeat (first | with_reducible assumption | with_reducible exact Mv.refl (by assumption) (by assumption) | with_reducible apply Mv.alloc | with_reducible apply Mv.drew | with_reducible apply Mv.drewN | ((with_reducible apply Mv.setCell); rotate_left; (first | (dsimp only; omega) | omega | (simp; omega)); (first | (dsimp only; omega) | omega | (simp; omega))) | ((with_reducible apply Mv.below); rotate_left; (with_reducible assumption)) | ((with_reducible apply Mv.trans); rotate_left; (with_reducible assumption))))
  · simp only [Bool.false_eq_true, if_false, if_true] at kR1 kR2
    clear h
    go_enter Try.func14, Try.ntmps14
    go_wp2_with (fail)
    (go_at_call 11; (with_reducible refine (kR1 _).mono ?_); rintro e w1 ⟨rfl, hM⟩)
    have A : Bk (w.heap.size) 0 [.int .i64 ax, .int .i64 ay, .int .i64 vx, .int .i64 vy, .int .i64 s1, .int .i64 m1] w1 := Bk.later (by simp [Bk, go_sem]; done) hM
    have B : Bk (w.heap.size + 1) 0 [.int .i64 bx, .int .i64 bY, .int .i64 wx, .int .i64 wy, .int .i64 s2, .int .i64 m2] w1 := Bk.later (by simp [Bk, go_sem]; done) hM
    have R : Bk (w.heap.size + 1 + 1) 0 [.int .i64 0, .int .i64 0] w1 := Bk.later (by simp [Bk, go_sem]; done) hM
    have T : Bk (w.heap.size + 1 + 1 + 1) 0 [.int .i64 0, .int .i64 0] w1 := Bk.later (by simp [Bk, go_sem]; done) hM
    have HB : Below w.heap.size w w1 := by (repeat (first | with_reducible assumption | with_reducible exact Below.refl _ _ | ((with_reducible refine Below.setCell ?_ ?_ _); rotate_left; (first | exact Nat.le_refl _ | (dsimp only; omega) | (simp; done) | (simp; omega))) | with_reducible refine below_alloc ?_ _ | with_reducible apply below_drewN | with_reducible apply Below.drew | with_reducible refine below_step ?_ (by assumption)))
    have C_A := A; simp only [Bk] at C_A
    have C_B := B; simp only [Bk] at C_B
    have C_R := R; simp only [Bk] at C_R
    have C_T := T; simp only [Bk] at C_T
    have HM : Mv b o w w1 := by (repeat (first | with_reducible assumption | with_reducible exact Mv.refl (by assumption) (by assumption) | with_reducible apply Mv.alloc | with_reducible apply Mv.drew | with_reducible apply Mv.drewN | ((with_reducible apply Mv.setCell); rotate_left; (first | (dsimp only; omega) | omega | (simp; omega)); (first | (dsimp only; omega) | omega | (simp; omega))) | ((with_reducible apply Mv.below); rotate_left; (with_reducible assumption)) | ((with_reducible apply Mv.trans); rotate_left; (with_reducible assumption))))
    clear hM kR1
    go_upto_region 2 with (first | ((go_at_call 11; (with_reducible refine (kR2 _).mono ?_); rintro e9 w1 ⟨rfl, hM⟩; (first | have HB : Below w.heap.size w _ := below_step HB hM | have HB : Below w.heap.size w _ := below_step (W := _) (by (repeat (first | with_reducible assumption | with_reducible exact Below.refl _ _ | ((with_reducible refine Below.setCell ?_ ?_ _); rotate_left; (first | exact Nat.le_refl _ | (dsimp only; omega) | (simp; done) | (simp; omega))) | with_reducible refine below_alloc ?_ _ | with_reducible apply below_drewN | with_reducible apply Below.drew | with_reducible refine below_step ?_ (by assumption)))) hM); (first | have A := Bk.later A hM | have A := Bk.later (Bk.alloc A _) hM | have A := Bk.later (Bk.alloc (Bk.alloc A _) _) hM); have C_A := A; simp only [Bk] at C_A; (first | have B := Bk.later B hM | have B := Bk.later (Bk.alloc B _) hM | have B := Bk.later (Bk.alloc (Bk.alloc B _) _) hM); have C_B := B; simp only [Bk] at C_B; (first | have R := Bk.later R hM | have R := Bk.later (Bk.alloc R _) hM | have R := Bk.later (Bk.alloc (Bk.alloc R _) _) hM); have C_R := R; simp only [Bk] at C_R; (first | have T := Bk.later T hM | have T := Bk.later (Bk.alloc T _) hM | have T := Bk.later (Bk.alloc (Bk.alloc T _) _) hM); have C_T := T; simp only [Bk] at C_T); have HM : Mv b o w w1 := by (repeat (first | with_reducible assumption | with_reducible exact Mv.refl (by assumption) (by assumption) | with_reducible apply Mv.alloc | with_reducible apply Mv.drew | with_reducible apply Mv.drewN | ((with_reducible apply Mv.setCell); rotate_left; (first | (dsimp only; omega) | omega | (simp; omega)); (first | (dsimp only; omega) | omega | (simp; omega))) | ((with_reducible apply Mv.below); rotate_left; (with_reducible assumption)) | ((with_reducible apply Mv.trans); rotate_left; (with_reducible assumption))))))
    (try refine wp_region_noPanic ?_)
    refine wp_region_held_drew (S := (fun (w' : World) => w'.cell? ⟨w.heap.size, 2, none⟩ = some (.int .i64 vx) ∧ w'.cell? ⟨w.heap.size, 3, none⟩ = some (.int .i64 vy) ∧ w'.cell? ⟨w.heap.size + 1, 2, none⟩ = some (.int .i64 wx) ∧ w'.cell? ⟨w.heap.size + 1, 3, none⟩ = some (.int .i64 wy))) (by kernel_rfl) ⟨(by first | (simp (maxDischargeDepth := 6) [go_sem, *]; done)), (by first | (simp (maxDischargeDepth := 6) [go_sem, *]; done)), (by first | (simp (maxDischargeDepth := 6) [go_sem, *]; done)), (by first | (simp (maxDischargeDepth := 6) [go_sem, *]; done))⟩ (fun hHeld => ?_)
    refine wpAnyH_take (i := 0) (v := ?_) (by simp only [List.getElem?_toArray, List.getElem?_cons_succ, List.getElem?_cons_zero]; rfl) (by kernel_rfl) (by kernel_rfl) (by kernel_rfl) (fun _ _ _ h => h) (Or.inl ⟨by rfl, ?_⟩) (by assumption) ?_
    rotate_left
    · intro w hSw; (try dsimp only at hSw); go_simp; try with_reducible rfl
    try simp only [Act.put, List.setIfInBounds_toArray, List.set_cons_zero, List.set_cons_succ]
    refine wpAnyH_take (i := 2) (v := ?_) (by simp only [List.getElem?_toArray, List.getElem?_cons_succ, List.getElem?_cons_zero]; rfl) (by kernel_rfl) (by kernel_rfl) (by kernel_rfl) (fun _ _ _ h => h) (Or.inl ⟨by rfl, ?_⟩) (by assumption) ?_
    rotate_left
    · intro w hSw; (try dsimp only at hSw); go_simp; try with_reducible rfl
    try simp only [Act.put, List.setIfInBounds_toArray, List.set_cons_zero, List.set_cons_succ]
    refine wpAnyH_take (i := 1) (v := ?_) (by simp only [List.getElem?_toArray, List.getElem?_cons_succ, List.getElem?_cons_zero]; rfl) (by kernel_rfl) (by kernel_rfl) (by kernel_rfl) (fun _ _ _ h => h) (Or.inl ⟨by rfl, ?_⟩) (by assumption) ?_
    rotate_left
    · intro w hSw; (try dsimp only at hSw); go_simp; try with_reducible rfl
    try simp only [Act.put, List.setIfInBounds_toArray, List.set_cons_zero, List.set_cons_succ]
    refine wpAnyH_take (i := 3) (v := ?_) (by simp only [List.getElem?_toArray, List.getElem?_cons_succ, List.getElem?_cons_zero]; rfl) (by kernel_rfl) (by kernel_rfl) (by kernel_rfl) (fun _ _ _ h => h) (Or.inl ⟨by rfl, ?_⟩) (by assumption) ?_
    rotate_left
    · intro w hSw; (try dsimp only at hSw); go_simp; try with_reducible rfl
    try simp only [Act.put, List.setIfInBounds_toArray, List.set_cons_zero, List.set_cons_succ]
    refine wpAnyH_ready (rs := [4]) (by kernel_rfl) (by simp) ?_
    refine AllReadyH.cons rfl (fun K hK => ?_) AllReadyH.nil
    have hOld := hHeld; clear hHeld
    go_simp
    (try go_wp2_with (fail))
    refine hK.out _ _ ⟨(by first | exact mv_cell hM (by first | (dsimp only; omega) | (simp; omega)) hOld.1 | exact cell_later hM hOld.1 | exact HT.cb | exact HT.cc | (simp (maxDischargeDepth := 6) [go_sem, *]; done)), (by first | exact mv_cell hM (by first | (dsimp only; omega) | (simp; omega)) hOld.2.1 | exact cell_later hM hOld.2.1 | exact HT.cb | exact HT.cc | (simp (maxDischargeDepth := 6) [go_sem, *]; done)), (by first | exact mv_cell hM (by first | (dsimp only; omega) | (simp; omega)) hOld.2.2.1 | exact cell_later hM hOld.2.2.1 | exact HT.cb | exact HT.cc | (simp (maxDischargeDepth := 6) [go_sem, *]; done)), (by first | exact mv_cell hM (by first | (dsimp only; omega) | (simp; omega)) hOld.2.2.2 | exact cell_later hM hOld.2.2.2 | exact HT.cb | exact HT.cc | (simp (maxDischargeDepth := 6) [go_sem, *]; done))⟩ (fun hHeld => ?_)
    clear hK K hOld
    try simp only [Act.put, List.setIfInBounds_toArray, List.set_cons_zero, List.set_cons_succ]
    refine wpAnyH_ready (rs := [5]) (by kernel_rfl) (by simp) ?_
    refine AllReadyH.cons rfl (fun K hK => ?_) AllReadyH.nil
    have hOld := hHeld; clear hHeld
    go_simp
    (try go_wp2_with (fail))
    refine hK.out _ _ ⟨(by first | exact mv_cell hM (by first | (dsimp only; omega) | (simp; omega)) hOld.1 | exact cell_later hM hOld.1 | exact HT.cb | exact HT.cc | (simp (maxDischargeDepth := 6) [go_sem, *]; done)), (by first | exact mv_cell hM (by first | (dsimp only; omega) | (simp; omega)) hOld.2.1 | exact cell_later hM hOld.2.1 | exact HT.cb | exact HT.cc | (simp (maxDischargeDepth := 6) [go_sem, *]; done)), (by first | exact mv_cell hM (by first | (dsimp only; omega) | (simp; omega)) hOld.2.2.1 | exact cell_later hM hOld.2.2.1 | exact HT.cb | exact HT.cc | (simp (maxDischargeDepth := 6) [go_sem, *]; done)), (by first | exact mv_cell hM (by first | (dsimp only; omega) | (simp; omega)) hOld.2.2.2 | exact cell_later hM hOld.2.2.2 | exact HT.cb | exact HT.cc | (simp (maxDischargeDepth := 6) [go_sem, *]; done))⟩ (fun hHeld => ?_)
    clear hK K hOld
    try simp only [Act.put, List.setIfInBounds_toArray, List.set_cons_zero, List.set_cons_succ]
    refine wpAnyH_take (i := 6) (v := ?_) (by simp only [List.getElem?_toArray, List.getElem?_cons_succ, List.getElem?_cons_zero]; rfl) (by kernel_rfl) (by kernel_rfl) (by kernel_rfl) (fun _ _ _ h => h) (Or.inl ⟨by rfl, ?_⟩) (by assumption) ?_
    rotate_left
    · intro w hSw; (try dsimp only at hSw); go_simp; try with_reducible rfl
    try simp only [Act.put, List.setIfInBounds_toArray, List.set_cons_zero, List.set_cons_succ]
    refine wpAnyH_done (by kernel_rfl) ?_ _
    (try refine NoPanic.normal ?_)
    (try clear q0); (try clear q1); (try clear q2); (try clear q3); obtain ⟨q0, q1, q2, q3⟩ := hHeld
    all_goals go_wp2
    all_goals simp (maxDischargeDepth := 8) [bodyPost, results, Try.results14, go_sem, *]
    all_goals (repeat (first | with_reducible assumption | with_reducible exact Mv.refl (by assumption) (by assumption) | with_reducible apply Mv.alloc | with_reducible apply Mv.drew | with_reducible apply Mv.drewN | ((with_reducible apply Mv.setCell); rotate_left; (first | (dsimp only; omega) | omega | (simp; omega)); (first | (dsimp only; omega) | omega | (simp; omega))) | ((with_reducible apply Mv.below); rotate_left; (with_reducible assumption)) | ((with_reducible apply Mv.trans); rotate_left; (with_reducible assumption))))
  · simp only [if_true] at kR1 kR2
    clear h
    go_enter Try.func14, Try.ntmps14
    go_wp2_with (fail)
    (go_at_call 11; (with_reducible refine (kR1 _).mono ?_); rintro e w1 ⟨rfl, hM⟩)
    have A : Bk (w.heap.size) 0 [.int .i64 ax, .int .i64 ay, .int .i64 vx, .int .i64 vy, .int .i64 s1, .int .i64 m1] w1 := Bk.later (by simp [Bk, go_sem]; done) hM
    have B : Bk (w.heap.size + 1) 0 [.int .i64 bx, .int .i64 bY, .int .i64 wx, .int .i64 wy, .int .i64 s2, .int .i64 m2] w1 := Bk.later (by simp [Bk, go_sem]; done) hM
    have R : Bk (w.heap.size + 1 + 1) 0 [.int .i64 0, .int .i64 0] w1 := Bk.later (by simp [Bk, go_sem]; done) hM
    have T : Bk (w.heap.size + 1 + 1 + 1) 0 [.int .i64 0, .int .i64 0] w1 := Bk.later (by simp [Bk, go_sem]; done) hM
    have HB : Below w.heap.size w w1 := by (repeat (first | with_reducible assumption | with_reducible exact Below.refl _ _ | ((with_reducible refine Below.setCell ?_ ?_ _); rotate_left; (first | exact Nat.le_refl _ | (dsimp only; omega) | (simp; done) | (simp; omega))) | with_reducible refine below_alloc ?_ _ | with_reducible apply below_drewN | with_reducible apply Below.drew | with_reducible refine below_step ?_ (by assumption)))
    have C_A := A; simp only [Bk] at C_A
    have C_B := B; simp only [Bk] at C_B
    have C_R := R; simp only [Bk] at C_R
    have C_T := T; simp only [Bk] at C_T
    have HM : Mv b o w w1 := by (repeat (first | with_reducible assumption | with_reducible exact Mv.refl (by assumption) (by assumption) | with_reducible apply Mv.alloc | with_reducible apply Mv.drew | with_reducible apply Mv.drewN | ((with_reducible apply Mv.setCell); rotate_left; (first | (dsimp only; omega) | omega | (simp; omega)); (first | (dsimp only; omega) | omega | (simp; omega))) | ((with_reducible apply Mv.below); rotate_left; (with_reducible assumption)) | ((with_reducible apply Mv.trans); rotate_left; (with_reducible assumption))))
    clear hM kR1
    go_upto_region 2 with (first | ((go_at_call 11; (with_reducible refine (kR2 _).mono ?_); rintro e9 w1 ⟨rfl, hM⟩; (first | have HB : Below w.heap.size w _ := below_step HB hM | have HB : Below w.heap.size w _ := below_step (W := _) (by (repeat (first | with_reducible assumption | with_reducible exact Below.refl _ _ | ((with_reducible refine Below.setCell ?_ ?_ _); rotate_left; (first | exact Nat.le_refl _ | (dsimp only; omega) | (simp; done) | (simp; omega))) | with_reducible refine below_alloc ?_ _ | with_reducible apply below_drewN | with_reducible apply Below.drew | with_reducible refine below_step ?_ (by assumption)))) hM); (first | have A := Bk.later A hM | have A := Bk.later (Bk.alloc A _) hM | have A := Bk.later (Bk.alloc (Bk.alloc A _) _) hM); have C_A := A; simp only [Bk] at C_A; (first | have B := Bk.later B hM | have B := Bk.later (Bk.alloc B _) hM | have B := Bk.later (Bk.alloc (Bk.alloc B _) _) hM); have C_B := B; simp only [Bk] at C_B; (first | have R := Bk.later R hM | have R := Bk.later (Bk.alloc R _) hM | have R := Bk.later (Bk.alloc (Bk.alloc R _) _) hM); have C_R := R; simp only [Bk] at C_R; (first | have T := Bk.later T hM | have T := Bk.later (Bk.alloc T _) hM | have T := Bk.later (Bk.alloc (Bk.alloc T _) _) hM); have C_T := T; simp only [Bk] at C_T); have HM : Mv b o w w1 := by (repeat (first | with_reducible assumption | with_reducible exact Mv.refl (by assumption) (by assumption) | with_reducible apply Mv.alloc | with_reducible apply Mv.drew | with_reducible apply Mv.drewN | ((with_reducible apply Mv.setCell); rotate_left; (first | (dsimp only; omega) | omega | (simp; omega)); (first | (dsimp only; omega) | omega | (simp; omega))) | ((with_reducible apply Mv.below); rotate_left; (with_reducible assumption)) | ((with_reducible apply Mv.trans); rotate_left; (with_reducible assumption))))))
    (try refine wp_region_noPanic ?_)
    refine wp_region_held_drew (S := (fun (w' : World) => w'.cell? ⟨w.heap.size, 2, none⟩ = some (.int .i64 vx) ∧ w'.cell? ⟨w.heap.size, 3, none⟩ = some (.int .i64 vy) ∧ w'.cell? ⟨w.heap.size + 1, 2, none⟩ = some (.int .i64 wx) ∧ w'.cell? ⟨w.heap.size + 1, 3, none⟩ = some (.int .i64 wy))) (by kernel_rfl) ⟨(by first | (simp (maxDischargeDepth := 6) [go_sem, *]; done)), (by first | (simp (maxDischargeDepth := 6) [go_sem, *]; done)), (by first | (simp (maxDischargeDepth := 6) [go_sem, *]; done)), (by first | (simp (maxDischargeDepth := 6) [go_sem, *]; done))⟩ (fun hHeld => ?_)
    refine wpAnyH_take (i := 0) (v := ?_) (by simp only [List.getElem?_toArray, List.getElem?_cons_succ, List.getElem?_cons_zero]; rfl) (by kernel_rfl) (by kernel_rfl) (by kernel_rfl) (fun _ _ _ h => h) (Or.inl ⟨by rfl, ?_⟩) (by assumption) ?_
    rotate_left
    · intro w hSw; (try dsimp only at hSw); go_simp; try with_reducible rfl
    try simp only [Act.put, List.setIfInBounds_toArray, List.set_cons_zero, List.set_cons_succ]
    refine wpAnyH_take (i := 2) (v := ?_) (by simp only [List.getElem?_toArray, List.getElem?_cons_succ, List.getElem?_cons_zero]; rfl) (by kernel_rfl) (by kernel_rfl) (by kernel_rfl) (fun _ _ _ h => h) (Or.inl ⟨by rfl, ?_⟩) (by assumption) ?_
    rotate_left
    · intro w hSw; (try dsimp only at hSw); go_simp; try with_reducible rfl
    try simp only [Act.put, List.setIfInBounds_toArray, List.set_cons_zero, List.set_cons_succ]
    refine wpAnyH_take (i := 1) (v := ?_) (by simp only [List.getElem?_toArray, List.getElem?_cons_succ, List.getElem?_cons_zero]; rfl) (by kernel_rfl) (by kernel_rfl) (by kernel_rfl) (fun _ _ _ h => h) (Or.inl ⟨by rfl, ?_⟩) (by assumption) ?_
    rotate_left
    · intro w hSw; (try dsimp only at hSw); go_simp; try with_reducible rfl
    try simp only [Act.put, List.setIfInBounds_toArray, List.set_cons_zero, List.set_cons_succ]
    refine wpAnyH_take (i := 3) (v := ?_) (by simp only [List.getElem?_toArray, List.getElem?_cons_succ, List.getElem?_cons_zero]; rfl) (by kernel_rfl) (by kernel_rfl) (by kernel_rfl) (fun _ _ _ h => h) (Or.inl ⟨by rfl, ?_⟩) (by assumption) ?_
    rotate_left
    · intro w hSw; (try dsimp only at hSw); go_simp; try with_reducible rfl
    try simp only [Act.put, List.setIfInBounds_toArray, List.set_cons_zero, List.set_cons_succ]
    refine wpAnyH_ready (rs := [4]) (by kernel_rfl) (by simp) ?_
    refine AllReadyH.cons rfl (fun K hK => ?_) AllReadyH.nil
    have hOld := hHeld; clear hHeld
    go_simp
    (try go_wp2_with (fail))
    refine hK.out _ _ ⟨(by first | exact mv_cell hM (by first | (dsimp only; omega) | (simp; omega)) hOld.1 | exact cell_later hM hOld.1 | exact HT.cb | exact HT.cc | (simp (maxDischargeDepth := 6) [go_sem, *]; done)), (by first | exact mv_cell hM (by first | (dsimp only; omega) | (simp; omega)) hOld.2.1 | exact cell_later hM hOld.2.1 | exact HT.cb | exact HT.cc | (simp (maxDischargeDepth := 6) [go_sem, *]; done)), (by first | exact mv_cell hM (by first | (dsimp only; omega) | (simp; omega)) hOld.2.2.1 | exact cell_later hM hOld.2.2.1 | exact HT.cb | exact HT.cc | (simp (maxDischargeDepth := 6) [go_sem, *]; done)), (by first | exact mv_cell hM (by first | (dsimp only; omega) | (simp; omega)) hOld.2.2.2 | exact cell_later hM hOld.2.2.2 | exact HT.cb | exact HT.cc | (simp (maxDischargeDepth := 6) [go_sem, *]; done))⟩ (fun hHeld => ?_)
    clear hK K hOld
    try simp only [Act.put, List.setIfInBounds_toArray, List.set_cons_zero, List.set_cons_succ]
    refine wpAnyH_ready (rs := [5]) (by kernel_rfl) (by simp) ?_
    refine AllReadyH.cons rfl (fun K hK => ?_) AllReadyH.nil
    have hOld := hHeld; clear hHeld
    go_simp
    (try go_wp2_with (fail))
    refine hK.out _ _ ⟨(by first | exact mv_cell hM (by first | (dsimp only; omega) | (simp; omega)) hOld.1 | exact cell_later hM hOld.1 | exact HT.cb | exact HT.cc | (simp (maxDischargeDepth := 6) [go_sem, *]; done)), (by first | exact mv_cell hM (by first | (dsimp only; omega) | (simp; omega)) hOld.2.1 | exact cell_later hM hOld.2.1 | exact HT.cb | exact HT.cc | (simp (maxDischargeDepth := 6) [go_sem, *]; done)), (by first | exact mv_cell hM (by first | (dsimp only; omega) | (simp; omega)) hOld.2.2.1 | exact cell_later hM hOld.2.2.1 | exact HT.cb | exact HT.cc | (simp (maxDischargeDepth := 6) [go_sem, *]; done)), (by first | exact mv_cell hM (by first | (dsimp only; omega) | (simp; omega)) hOld.2.2.2 | exact cell_later hM hOld.2.2.2 | exact HT.cb | exact HT.cc | (simp (maxDischargeDepth := 6) [go_sem, *]; done))⟩ (fun hHeld => ?_)
    clear hK K hOld
    try simp only [Act.put, List.setIfInBounds_toArray, List.set_cons_zero, List.set_cons_succ]
    refine wpAnyH_take (i := 6) (v := ?_) (by simp only [List.getElem?_toArray, List.getElem?_cons_succ, List.getElem?_cons_zero]; rfl) (by kernel_rfl) (by kernel_rfl) (by kernel_rfl) (fun _ _ _ h => h) (Or.inl ⟨by rfl, ?_⟩) (by assumption) ?_
    rotate_left
    · intro w hSw; (try dsimp only at hSw); go_simp; try with_reducible rfl
    try simp only [Act.put, List.setIfInBounds_toArray, List.set_cons_zero, List.set_cons_succ]
    refine wpAnyH_done (by kernel_rfl) ?_ _
    (try refine NoPanic.normal ?_)
    (try clear q0); (try clear q1); (try clear q2); (try clear q3); obtain ⟨q0, q1, q2, q3⟩ := hHeld
    all_goals go_wp2
    all_goals simp (maxDischargeDepth := 8) [bodyPost, results, Try.results14, go_sem, *]
    all_goals (repeat (first | with_reducible assumption | with_reducible exact Mv.refl (by assumption) (by assumption) | with_reducible apply Mv.alloc | with_reducible apply Mv.drew | with_reducible apply Mv.drewN | ((with_reducible apply Mv.setCell); rotate_left; (first | (dsimp only; omega) | omega | (simp; omega)); (first | (dsimp only; omega) | omega | (simp; omega))) | ((with_reducible apply Mv.below); rotate_left; (with_reducible assumption)) | ((with_reducible apply Mv.trans); rotate_left; (with_reducible assumption))))
  · simp only [if_true] at kR1 kR2
    clear h
    go_enter Try.func14, Try.ntmps14
    go_wp2_with (fail)
    (go_at_call 11; (with_reducible refine (kR1 _).mono ?_); rintro e w1 ⟨rfl, hM⟩)
    have A : Bk (w.heap.size) 0 [.int .i64 ax, .int .i64 ay, .int .i64 vx, .int .i64 vy, .int .i64 s1, .int .i64 m1] w1 := Bk.later (by simp [Bk, go_sem]; done) hM
    have B : Bk (w.heap.size + 1) 0 [.int .i64 bx, .int .i64 bY, .int .i64 wx, .int .i64 wy, .int .i64 s2, .int .i64 m2] w1 := Bk.later (by simp [Bk, go_sem]; done) hM
    have R : Bk (w.heap.size + 1 + 1) 0 [.int .i64 0, .int .i64 0] w1 := Bk.later (by simp [Bk, go_sem]; done) hM
    have T : Bk (w.heap.size + 1 + 1 + 1) 0 [.int .i64 0, .int .i64 0] w1 := Bk.later (by simp [Bk, go_sem]; done) hM
    have HB : Below w.heap.size w w1 := by (repeat (first | with_reducible assumption | with_reducible exact Below.refl _ _ | ((with_reducible refine Below.setCell ?_ ?_ _); rotate_left; (first | exact Nat.le_refl _ | (dsimp only; omega) | (simp; done) | (simp; omega))) | with_reducible refine below_alloc ?_ _ | with_reducible apply below_drewN | with_reducible apply Below.drew | with_reducible refine below_step ?_ (by assumption)))
    have C_A := A; simp only [Bk] at C_A
    have C_B := B; simp only [Bk] at C_B
    have C_R := R; simp only [Bk] at C_R
    have C_T := T; simp only [Bk] at C_T
    have HM : Mv b o w w1 := by (repeat (first | with_reducible assumption | with_reducible exact Mv.refl (by assumption) (by assumption) | with_reducible apply Mv.alloc | with_reducible apply Mv.drew | with_reducible apply Mv.drewN | ((with_reducible apply Mv.setCell); rotate_left; (first | (dsimp only; omega) | omega | (simp; omega)); (first | (dsimp only; omega) | omega | (simp; omega))) | ((with_reducible apply Mv.below); rotate_left; (with_reducible assumption)) | ((with_reducible apply Mv.trans); rotate_left; (with_reducible assumption))))
    clear hM kR1
    go_upto_region 2 with (first | ((go_at_call 11; (with_reducible refine (kR2 _).mono ?_); rintro e9 w1 ⟨rfl, hM⟩; (first | have HB : Below w.heap.size w _ := below_step HB hM | have HB : Below w.heap.size w _ := below_step (W := _) (by (repeat (first | with_reducible assumption | with_reducible exact Below.refl _ _ | ((with_reducible refine Below.setCell ?_ ?_ _); rotate_left; (first | exact Nat.le_refl _ | (dsimp only; omega) | (simp; done) | (simp; omega))) | with_reducible refine below_alloc ?_ _ | with_reducible apply below_drewN | with_reducible apply Below.drew | with_reducible refine below_step ?_ (by assumption)))) hM); (first | have A := Bk.later A hM | have A := Bk.later (Bk.alloc A _) hM | have A := Bk.later (Bk.alloc (Bk.alloc A _) _) hM); have C_A := A; simp only [Bk] at C_A; (first | have B := Bk.later B hM | have B := Bk.later (Bk.alloc B _) hM | have B := Bk.later (Bk.alloc (Bk.alloc B _) _) hM); have C_B := B; simp only [Bk] at C_B; (first | have R := Bk.later R hM | have R := Bk.later (Bk.alloc R _) hM | have R := Bk.later (Bk.alloc (Bk.alloc R _) _) hM); have C_R := R; simp only [Bk] at C_R; (first | have T := Bk.later T hM | have T := Bk.later (Bk.alloc T _) hM | have T := Bk.later (Bk.alloc (Bk.alloc T _) _) hM); have C_T := T; simp only [Bk] at C_T); have HM : Mv b o w w1 := by (repeat (first | with_reducible assumption | with_reducible exact Mv.refl (by assumption) (by assumption) | with_reducible apply Mv.alloc | with_reducible apply Mv.drew | with_reducible apply Mv.drewN | ((with_reducible apply Mv.setCell); rotate_left; (first | (dsimp only; omega) | omega | (simp; omega)); (first | (dsimp only; omega) | omega | (simp; omega))) | ((with_reducible apply Mv.below); rotate_left; (with_reducible assumption)) | ((with_reducible apply Mv.trans); rotate_left; (with_reducible assumption))))))
    (try refine wp_region_noPanic ?_)
    refine wp_region_held_drew (S := (fun (w' : World) => w'.cell? ⟨w.heap.size, 2, none⟩ = some (.int .i64 vx) ∧ w'.cell? ⟨w.heap.size, 3, none⟩ = some (.int .i64 vy) ∧ w'.cell? ⟨w.heap.size + 1, 2, none⟩ = some (.int .i64 wx) ∧ w'.cell? ⟨w.heap.size + 1, 3, none⟩ = some (.int .i64 wy))) (by kernel_rfl) ⟨(by first | (simp (maxDischargeDepth := 6) [go_sem, *]; done)), (by first | (simp (maxDischargeDepth := 6) [go_sem, *]; done)), (by first | (simp (maxDischargeDepth := 6) [go_sem, *]; done)), (by first | (simp (maxDischargeDepth := 6) [go_sem, *]; done))⟩ (fun hHeld => ?_)
    refine wpAnyH_take (i := 0) (v := ?_) (by simp only [List.getElem?_toArray, List.getElem?_cons_succ, List.getElem?_cons_zero]; rfl) (by kernel_rfl) (by kernel_rfl) (by kernel_rfl) (fun _ _ _ h => h) (Or.inl ⟨by rfl, ?_⟩) (by assumption) ?_
    rotate_left
    · intro w hSw; (try dsimp only at hSw); go_simp; try with_reducible rfl
    try simp only [Act.put, List.setIfInBounds_toArray, List.set_cons_zero, List.set_cons_succ]
    refine wpAnyH_take (i := 2) (v := ?_) (by simp only [List.getElem?_toArray, List.getElem?_cons_succ, List.getElem?_cons_zero]; rfl) (by kernel_rfl) (by kernel_rfl) (by kernel_rfl) (fun _ _ _ h => h) (Or.inl ⟨by rfl, ?_⟩) (by assumption) ?_
    rotate_left
    · intro w hSw; (try dsimp only at hSw); go_simp; try with_reducible rfl
    try simp only [Act.put, List.setIfInBounds_toArray, List.set_cons_zero, List.set_cons_succ]
    refine wpAnyH_take (i := 1) (v := ?_) (by simp only [List.getElem?_toArray, List.getElem?_cons_succ, List.getElem?_cons_zero]; rfl) (by kernel_rfl) (by kernel_rfl) (by kernel_rfl) (fun _ _ _ h => h) (Or.inl ⟨by rfl, ?_⟩) (by assumption) ?_
    rotate_left
    · intro w hSw; (try dsimp only at hSw); go_simp; try with_reducible rfl
    try simp only [Act.put, List.setIfInBounds_toArray, List.set_cons_zero, List.set_cons_succ]
    refine wpAnyH_take (i := 3) (v := ?_) (by simp only [List.getElem?_toArray, List.getElem?_cons_succ, List.getElem?_cons_zero]; rfl) (by kernel_rfl) (by kernel_rfl) (by kernel_rfl) (fun _ _ _ h => h) (Or.inl ⟨by rfl, ?_⟩) (by assumption) ?_
    rotate_left
    · intro w hSw; (try dsimp only at hSw); go_simp; try with_reducible rfl
    try simp only [Act.put, List.setIfInBounds_toArray, List.set_cons_zero, List.set_cons_succ]
    refine wpAnyH_ready (rs := [4]) (by kernel_rfl) (by simp) ?_
    refine AllReadyH.cons rfl (fun K hK => ?_) AllReadyH.nil
    have hOld := hHeld; clear hHeld
    go_simp
    (try go_wp2_with (fail))
    refine hK.out _ _ ⟨(by first | exact mv_cell hM (by first | (dsimp only; omega) | (simp; omega)) hOld.1 | exact cell_later hM hOld.1 | exact HT.cb | exact HT.cc | (simp (maxDischargeDepth := 6) [go_sem, *]; done)), (by first | exact mv_cell hM (by first | (dsimp only; omega) | (simp; omega)) hOld.2.1 | exact cell_later hM hOld.2.1 | exact HT.cb | exact HT.cc | (simp (maxDischargeDepth := 6) [go_sem, *]; done)), (by first | exact mv_cell hM (by first | (dsimp only; omega) | (simp; omega)) hOld.2.2.1 | exact cell_later hM hOld.2.2.1 | exact HT.cb | exact HT.cc | (simp (maxDischargeDepth := 6) [go_sem, *]; done)), (by first | exact mv_cell hM (by first | (dsimp only; omega) | (simp; omega)) hOld.2.2.2 | exact cell_later hM hOld.2.2.2 | exact HT.cb | exact HT.cc | (simp (maxDischargeDepth := 6) [go_sem, *]; done))⟩ (fun hHeld => ?_)
    clear hK K hOld
    try simp only [Act.put, List.setIfInBounds_toArray, List.set_cons_zero, List.set_cons_succ]
    refine wpAnyH_ready (rs := [5]) (by kernel_rfl) (by simp) ?_
    refine AllReadyH.cons rfl (fun K hK => ?_) AllReadyH.nil
    have hOld := hHeld; clear hHeld
    go_simp
    (try go_wp2_with (fail))
    refine hK.out _ _ ⟨(by first | exact mv_cell hM (by first | (dsimp only; omega) | (simp; omega)) hOld.1 | exact cell_later hM hOld.1 | exact HT.cb | exact HT.cc | (simp (maxDischargeDepth := 6) [go_sem, *]; done)), (by first | exact mv_cell hM (by first | (dsimp only; omega) | (simp; omega)) hOld.2.1 | exact cell_later hM hOld.2.1 | exact HT.cb | exact HT.cc | (simp (maxDischargeDepth := 6) [go_sem, *]; done)), (by first | exact mv_cell hM (by first | (dsimp only; omega) | (simp; omega)) hOld.2.2.1 | exact cell_later hM hOld.2.2.1 | exact HT.cb | exact HT.cc | (simp (maxDischargeDepth := 6) [go_sem, *]; done)), (by first | exact mv_cell hM (by first | (dsimp only; omega) | (simp; omega)) hOld.2.2.2 | exact cell_later hM hOld.2.2.2 | exact HT.cb | exact HT.cc | (simp (maxDischargeDepth := 6) [go_sem, *]; done))⟩ (fun hHeld => ?_)
    clear hK K hOld
    try simp only [Act.put, List.setIfInBounds_toArray, List.set_cons_zero, List.set_cons_succ]
    refine wpAnyH_take (i := 6) (v := ?_) (by simp only [List.getElem?_toArray, List.getElem?_cons_succ, List.getElem?_cons_zero]; rfl) (by kernel_rfl) (by kernel_rfl) (by kernel_rfl) (fun _ _ _ h => h) (Or.inl ⟨by rfl, ?_⟩) (by assumption) ?_
    rotate_left
    · intro w hSw; (try dsimp only at hSw); go_simp; try with_reducible rfl
    try simp only [Act.put, List.setIfInBounds_toArray, List.set_cons_zero, List.set_cons_succ]
    refine wpAnyH_done (by kernel_rfl) ?_ _
    (try refine NoPanic.normal ?_)
    (try clear q0); (try clear q1); (try clear q2); (try clear q3); obtain ⟨q0, q1, q2, q3⟩ := hHeld
    all_goals go_wp2
    all_goals simp (maxDischargeDepth := 8) [bodyPost, results, Try.results14, go_sem, *]
    all_goals (repeat (first | with_reducible assumption | with_reducible exact Mv.refl (by assumption) (by assumption) | with_reducible apply Mv.alloc | with_reducible apply Mv.drew | with_reducible apply Mv.drewN | ((with_reducible apply Mv.setCell); rotate_left; (first | (dsimp only; omega) | omega | (simp; omega)); (first | (dsimp only; omega) | omega | (simp; omega))) | ((with_reducible apply Mv.below); rotate_left; (with_reducible assumption)) | ((with_reducible apply Mv.trans); rotate_left; (with_reducible assumption))))
end Go.Proofs.Ytgdoaibgcjdklaa
