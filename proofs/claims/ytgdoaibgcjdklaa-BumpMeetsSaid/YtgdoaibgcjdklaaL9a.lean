/- The walk of BumpMeets. -/
import Derived.Test.YtgdoaibgcjdklaaN6
set_option linter.unusedSimpArgs false
set_option linter.unusedVariables false
namespace Go.Proofs.Ytgdoaibgcjdklaa
open Go.RowKit
set_option maxHeartbeats 8000000 in
theorem walk_BumpMeets (ax ay vx vy s1 m1 bx bY wx wy s2 m2 : Int) (w : World) (ax_0 : -9223372036854775808 ≤ ax) (ax_1 : ax ≤ 9223372036854775807) (ay_0 : -9223372036854775808 ≤ ay) (ay_1 : ay ≤ 9223372036854775807) (vx_0 : -9223372036854775808 ≤ vx) (vx_1 : vx ≤ 9223372036854775807) (vy_0 : -9223372036854775808 ≤ vy) (vy_1 : vy ≤ 9223372036854775807) (s1_0 : -9223372036854775808 ≤ s1) (s1_1 : s1 ≤ 9223372036854775807) (m1_0 : -9223372036854775808 ≤ m1) (m1_1 : m1 ≤ 9223372036854775807) (bx_0 : -9223372036854775808 ≤ bx) (bx_1 : bx ≤ 9223372036854775807) (bY_0 : -9223372036854775808 ≤ bY) (bY_1 : bY ≤ 9223372036854775807) (wx_0 : -9223372036854775808 ≤ wx) (wx_1 : wx ≤ 9223372036854775807) (wy_0 : -9223372036854775808 ≤ wy) (wy_1 : wy ≤ 9223372036854775807) (s2_0 : -9223372036854775808 ≤ s2) (s2_1 : s2 ≤ 9223372036854775807) (m2_0 : -9223372036854775808 ≤ m2) (m2_1 : m2 ≤ 9223372036854775807) :
    Calls Try.prog 3 #[.agg #[.int .i64 ax, .int .i64 ay, .int .i64 vx, .int .i64 vy, .int .i64 s1, .int .i64 m1], .agg #[.int .i64 bx, .int .i64 bY, .int .i64 wx, .int .i64 wy, .int .i64 s2, .int .i64 m2]] w fun e w' => e = .returned (.bool true) ∧ Below w.heap.size w w' := by
  have k1 := fun c O W => cApart ax ay vx vy s1 m1 bx bY wx wy s2 m2 c O W ax_0 ax_1 ay_0 ay_1 bx_0 bx_1 bY_0 bY_1 s1_0 s1_1 s2_0 s2_1
  have k2 := fun c O W => r9Apart ax ay vx vy s1 m1 bx bY wx wy s2 m2 c O W ax_0 ax_1 ay_0 ay_1 bx_0 bx_1 bY_0 bY_1 s1_0 s1_1 s2_0 s2_1
  have kP1 := fun W => cPlain9 ax ay vx vy s1 m1 W
  have kP2 := fun W => cPlain9 bx bY wx wy s2 m2 W
  have kR := fun W => cBRight ax ay vx vy s1 m1 W s1_0 s1_1 m1_0 m1_1
  have k9 := fun W => r9Right ax ay vx vy s1 m1 W s1_0 s1_1 m1_0 m1_1
  generalize drn ax ay vx vy s1 m1 = R at *
  generalize tou (sqs (sat (bx - ax)) (sat (bY - ay))) s1 s2 = t at *
  generalize uq (sat (bx - ax)) (sqs (sat (bx - ax)) (sat (bY - ay))) = ux at *
  generalize uq (sat (bY - ay)) (sqs (sat (bx - ax)) (sat (bY - ay))) = uy at *
  generalize sqs (sat (bx - ax)) (sat (bY - ay)) = n at *
  generalize apok ax ay bx bY s1 s2 = f at *
  go_enter Try.func3, Try.ntmps3
  go_wp2_with (fail)
  (go_at_call 7; (with_reducible refine (k1 _ false _ (by simp [go_sem, *]) (by simp [go_sem, *])).mono ?_); rintro e w1 ⟨rfl, hM⟩; have HT := Tw.start (w := w) (c := w.heap.size + 1 + 1 + 1) (p := false) (by (repeat (first | with_reducible assumption | with_reducible exact Below.refl _ _ | ((with_reducible refine Below.setCell ?_ ?_ _); rotate_left; (first | exact Nat.le_refl _ | (dsimp only; omega) | (simp; done) | (simp; omega))) | with_reducible refine below_alloc ?_ _ | with_reducible apply below_drewN | with_reducible apply Below.drew | with_reducible refine below_step ?_ (by assumption)))) hM (by omega) (by omega) (by omega) (by simp [go_sem, *]) (by simp [go_sem, *]))
  have A : Bk (w.heap.size) 0 [.int .i64 ax, .int .i64 ay, .int .i64 vx, .int .i64 vy, .int .i64 s1, .int .i64 m1] w1 := Bk.mv hM (by omega) (by simp [Bk, go_sem]; done)
  have B : Bk (w.heap.size + 1) 0 [.int .i64 bx, .int .i64 bY, .int .i64 wx, .int .i64 wy, .int .i64 s2, .int .i64 m2] w1 := Bk.mv hM (by omega) (by simp [Bk, go_sem]; done)
  rename World => g
  have hzg : w.heap.size + 1 + 1 + 1 < g.heap.size := World.block_lt_of_cell? g _ HT.cc
  clear hM k1
  go_upto_region 4 with (fail)
  generalize hW : World.alloc _ _ = W
  have U : Bk g.heap.size 0 [.int .i64 ux, .int .i64 uy] W := by rw [← hW]; simp [Bk, go_sem]
  have A : Bk (w.heap.size) 0 [.int .i64 ax, .int .i64 ay, .int .i64 vx, .int .i64 vy, .int .i64 s1, .int .i64 m1] W := by rw [← hW]; exact Bk.alloc A _
  have B : Bk (w.heap.size + 1) 0 [.int .i64 bx, .int .i64 bY, .int .i64 wx, .int .i64 wy, .int .i64 s2, .int .i64 m2] W := by rw [← hW]; exact Bk.alloc B _
  have HT : Tw (w.heap.size + 1 + 1) (w.heap.size + 1 + 1 + 1) (false || !f) false w W := by rw [← hW]; exact Tw.alloc HT _
  have hzW := World.block_lt_of_cell? W _ U.1
  dsimp only at hzW
  clear hW
  go_cut [10, 11, 12] (fun p y q wx => ∃ k : Nat, p = .pointer (some ⟨k, 0, none⟩) ∧ y = .int .i64 n ∧ q = .bool t ∧ Tw (w.heap.size + 1 + 1) (w.heap.size + 1 + 1 + 1) (false || !f) (false || !f) w wx ∧
    Bk k 0 [.int .i64 ux, .int .i64 uy] wx ∧ Bk g.heap.size 0 [.int .i64 ux, .int .i64 uy] wx ∧
    Bk (w.heap.size) 0 [.int .i64 ax, .int .i64 ay, .int .i64 vx, .int .i64 vy, .int .i64 s1, .int .i64 m1] wx)
  case first =>
    (try refine wp_region_noPanic ?_)
    refine wp_region_held_drew (S := (fun (w' : World) => Bk w.heap.size 0 [.int .i64 ax, .int .i64 ay, .int .i64 vx, .int .i64 vy, .int .i64 s1, .int .i64 m1] w' ∧ Bk (w.heap.size + 1) 0 [.int .i64 bx, .int .i64 bY, .int .i64 wx, .int .i64 wy, .int .i64 s2, .int .i64 m2] w' ∧ Bk g.heap.size 0 [.int .i64 ux, .int .i64 uy] w')) (by kernel_rfl) ⟨by (repeat (first | with_reducible assumption | with_reducible apply Bk.drew | with_reducible apply Bk.alloc | with_reducible apply Bk.later (hB := hR) | with_reducible apply Bk.later (hB := hM) | ((with_reducible apply Bk.mv hM); (focus omega)) | ((with_reducible apply Bk.later); rotate_left; (with_reducible assumption)) | ((with_reducible apply Bk.put); rotate_left; (first | (dsimp only; omega))))), by (repeat (first | with_reducible assumption | with_reducible apply Bk.drew | with_reducible apply Bk.alloc | with_reducible apply Bk.later (hB := hR) | with_reducible apply Bk.later (hB := hM) | ((with_reducible apply Bk.mv hM); (focus omega)) | ((with_reducible apply Bk.later); rotate_left; (with_reducible assumption)) | ((with_reducible apply Bk.put); rotate_left; (first | (dsimp only; omega))))), by (repeat (first | with_reducible assumption | with_reducible apply Bk.drew | with_reducible apply Bk.alloc | with_reducible apply Bk.later (hB := hR) | with_reducible apply Bk.later (hB := hM) | ((with_reducible apply Bk.mv hM); (focus omega)) | ((with_reducible apply Bk.later); rotate_left; (with_reducible assumption)) | ((with_reducible apply Bk.put); rotate_left; (first | (dsimp only; omega)))))⟩ (fun hHeld => ?_)
    refine wpAnyH_take (i := 0) (v := ?_) (by simp only [List.getElem?_toArray, List.getElem?_cons_succ, List.getElem?_cons_zero]; rfl) (by kernel_rfl) (by kernel_rfl) (by kernel_rfl) (fun _ _ _ h => h) (Or.inl ⟨by rfl, ?_⟩) (by assumption) ?_
    rotate_left
    · intro w hSw; (try dsimp only at hSw); simp only [Bk] at hSw; go_simp; try with_reducible rfl
    try simp only [Act.put, List.setIfInBounds_toArray, List.set_cons_zero, List.set_cons_succ]
    refine wpAnyH_take (i := 1) (v := ?_) (by simp only [List.getElem?_toArray, List.getElem?_cons_succ, List.getElem?_cons_zero]; rfl) (by kernel_rfl) (by kernel_rfl) (by kernel_rfl) (fun _ _ _ h => h) (Or.inl ⟨by rfl, ?_⟩) (by assumption) ?_
    rotate_left
    · intro w hSw; (try dsimp only at hSw); simp only [Bk] at hSw; go_simp; try with_reducible rfl
    try simp only [Act.put, List.setIfInBounds_toArray, List.set_cons_zero, List.set_cons_succ]
    refine wpAnyH_take (i := 3) (v := ?_) (by simp only [List.getElem?_toArray, List.getElem?_cons_succ, List.getElem?_cons_zero]; rfl) (by kernel_rfl) (by kernel_rfl) (by kernel_rfl) (fun _ _ _ h => h) (Or.inl ⟨by rfl, ?_⟩) (by assumption) ?_
    rotate_left
    · intro w hSw; (try dsimp only at hSw); simp only [Bk] at hSw; go_simp; try with_reducible rfl
    try simp only [Act.put, List.setIfInBounds_toArray, List.set_cons_zero, List.set_cons_succ]
    refine wpAnyH_ready (rs := [2, 10]) (by kernel_rfl) (by simp) ?_
    refine AllReadyH.cons rfl (fun K hK => ?_) ?_
    · have hOld := hHeld; clear hHeld
      have B0 := hOld.1
      have B1 := hOld.2.1
      have B2 := hOld.2.2
      go_simp
      (go_at_call 9; (with_reducible refine (kP1 _).mono ?_); rintro e wz1 ⟨rfl, hR⟩)
      have hRwz1 := hR
      have hzR := hR.size
      (try simp at hzR)
      (try go_wp2_with (fail))
      refine hK.out _ _ ⟨by (repeat (first | with_reducible assumption | with_reducible apply Bk.drew | with_reducible apply Bk.alloc | with_reducible apply Bk.later (hB := hRwz1) | ((with_reducible apply Bk.mv hRwz1); (focus omega)) | with_reducible apply Bk.later (hB := hM) | ((with_reducible apply Bk.mv hM); (focus omega)) | ((with_reducible apply Bk.later); rotate_left; (with_reducible assumption)) | ((with_reducible apply Bk.put); rotate_left; (first | (dsimp only; omega))))), by (repeat (first | with_reducible assumption | with_reducible apply Bk.drew | with_reducible apply Bk.alloc | with_reducible apply Bk.later (hB := hRwz1) | ((with_reducible apply Bk.mv hRwz1); (focus omega)) | with_reducible apply Bk.later (hB := hM) | ((with_reducible apply Bk.mv hM); (focus omega)) | ((with_reducible apply Bk.later); rotate_left; (with_reducible assumption)) | ((with_reducible apply Bk.put); rotate_left; (first | (dsimp only; omega))))), by (repeat (first | with_reducible assumption | with_reducible apply Bk.drew | with_reducible apply Bk.alloc | with_reducible apply Bk.later (hB := hRwz1) | ((with_reducible apply Bk.mv hRwz1); (focus omega)) | with_reducible apply Bk.later (hB := hM) | ((with_reducible apply Bk.mv hM); (focus omega)) | ((with_reducible apply Bk.later); rotate_left; (with_reducible assumption)) | ((with_reducible apply Bk.put); rotate_left; (first | (dsimp only; omega)))))⟩ (fun hHeld => ?_)
      clear hK K hOld B0 B1 B2
      try simp only [Act.put, List.setIfInBounds_toArray, List.set_cons_zero, List.set_cons_succ]
      refine wpAnyH_ready (rs := [4, 10]) (by kernel_rfl) (by simp) ?_
      refine AllReadyH.cons rfl (fun K hK => ?_) ?_
      · have hOld := hHeld; clear hHeld
        have B0 := hOld.1
        have B1 := hOld.2.1
        have B2 := hOld.2.2
        go_simp
        (go_at_call 9; (with_reducible refine (kP2 _).mono ?_); rintro e wz2 ⟨rfl, hR⟩)
        have hRwz2 := hR
        have hzR := hR.size
        (try simp at hzR)
        (try go_wp2_with (fail))
        refine hK.out _ _ ⟨by (repeat (first | with_reducible assumption | with_reducible apply Bk.drew | with_reducible apply Bk.alloc | with_reducible apply Bk.later (hB := hRwz2) | ((with_reducible apply Bk.mv hRwz2); (focus omega)) | with_reducible apply Bk.later (hB := hRwz1) | ((with_reducible apply Bk.mv hRwz1); (focus omega)) | with_reducible apply Bk.later (hB := hM) | ((with_reducible apply Bk.mv hM); (focus omega)) | ((with_reducible apply Bk.later); rotate_left; (with_reducible assumption)) | ((with_reducible apply Bk.put); rotate_left; (first | (dsimp only; omega))))), by (repeat (first | with_reducible assumption | with_reducible apply Bk.drew | with_reducible apply Bk.alloc | with_reducible apply Bk.later (hB := hRwz2) | ((with_reducible apply Bk.mv hRwz2); (focus omega)) | with_reducible apply Bk.later (hB := hRwz1) | ((with_reducible apply Bk.mv hRwz1); (focus omega)) | with_reducible apply Bk.later (hB := hM) | ((with_reducible apply Bk.mv hM); (focus omega)) | ((with_reducible apply Bk.later); rotate_left; (with_reducible assumption)) | ((with_reducible apply Bk.put); rotate_left; (first | (dsimp only; omega))))), by (repeat (first | with_reducible assumption | with_reducible apply Bk.drew | with_reducible apply Bk.alloc | with_reducible apply Bk.later (hB := hRwz2) | ((with_reducible apply Bk.mv hRwz2); (focus omega)) | with_reducible apply Bk.later (hB := hRwz1) | ((with_reducible apply Bk.mv hRwz1); (focus omega)) | with_reducible apply Bk.later (hB := hM) | ((with_reducible apply Bk.mv hM); (focus omega)) | ((with_reducible apply Bk.later); rotate_left; (with_reducible assumption)) | ((with_reducible apply Bk.put); rotate_left; (first | (dsimp only; omega)))))⟩ (fun hHeld => ?_)
        clear hK K hOld B0 B1 B2
        try simp only [Act.put, List.setIfInBounds_toArray, List.set_cons_zero, List.set_cons_succ]
        refine wpAnyH_ready (rs := [5, 10]) (by kernel_rfl) (by simp) ?_
        refine AllReadyH.cons rfl (fun K hK => ?_) ?_
        · have hOld := hHeld; clear hHeld
          have B0 := hOld.1
          have B1 := hOld.2.1
          have B2 := hOld.2.2
          go_simp
          (go_at_call 8; (with_reducible refine (Tw.call2 (by (repeat (first | with_reducible assumption | with_reducible apply Tw.alloc | with_reducible apply Tw.drew | ((with_reducible apply Tw.after); rotate_left; (with_reducible assumption)) | ((with_reducible apply Tw.setCell); rotate_left; (first | (dsimp only; omega) | omega | (simp; omega)); (first | (dsimp only; omega) | omega | (simp; omega)); (first | (dsimp only; omega) | omega | (simp; omega)))))) (k2 _ _ _)).mono ?_); rintro e wz3 ⟨rfl, hR, HT⟩)
          have hRwz3 := hR
          have hzR := hR.size
          (try simp at hzR)
          (try go_wp2_with (fail))
          refine hK.out _ _ ⟨by (repeat (first | with_reducible assumption | with_reducible apply Bk.drew | with_reducible apply Bk.alloc | with_reducible apply Bk.later (hB := hRwz3) | ((with_reducible apply Bk.mv hRwz3); (focus omega)) | with_reducible apply Bk.later (hB := hRwz2) | ((with_reducible apply Bk.mv hRwz2); (focus omega)) | with_reducible apply Bk.later (hB := hRwz1) | ((with_reducible apply Bk.mv hRwz1); (focus omega)) | with_reducible apply Bk.later (hB := hM) | ((with_reducible apply Bk.mv hM); (focus omega)) | ((with_reducible apply Bk.later); rotate_left; (with_reducible assumption)) | ((with_reducible apply Bk.put); rotate_left; (first | (dsimp only; omega))))), by (repeat (first | with_reducible assumption | with_reducible apply Bk.drew | with_reducible apply Bk.alloc | with_reducible apply Bk.later (hB := hRwz3) | ((with_reducible apply Bk.mv hRwz3); (focus omega)) | with_reducible apply Bk.later (hB := hRwz2) | ((with_reducible apply Bk.mv hRwz2); (focus omega)) | with_reducible apply Bk.later (hB := hRwz1) | ((with_reducible apply Bk.mv hRwz1); (focus omega)) | with_reducible apply Bk.later (hB := hM) | ((with_reducible apply Bk.mv hM); (focus omega)) | ((with_reducible apply Bk.later); rotate_left; (with_reducible assumption)) | ((with_reducible apply Bk.put); rotate_left; (first | (dsimp only; omega))))), by (repeat (first | with_reducible assumption | with_reducible apply Bk.drew | with_reducible apply Bk.alloc | with_reducible apply Bk.later (hB := hRwz3) | ((with_reducible apply Bk.mv hRwz3); (focus omega)) | with_reducible apply Bk.later (hB := hRwz2) | ((with_reducible apply Bk.mv hRwz2); (focus omega)) | with_reducible apply Bk.later (hB := hRwz1) | ((with_reducible apply Bk.mv hRwz1); (focus omega)) | with_reducible apply Bk.later (hB := hM) | ((with_reducible apply Bk.mv hM); (focus omega)) | ((with_reducible apply Bk.later); rotate_left; (with_reducible assumption)) | ((with_reducible apply Bk.put); rotate_left; (first | (dsimp only; omega)))))⟩ (fun hHeld => ?_)
          clear hK K hOld B0 B1 B2
          try simp only [Act.put, List.setIfInBounds_toArray, List.set_cons_zero, List.set_cons_succ]
          refine wpAnyH_take (i := 6) (v := ?_) (by simp only [List.getElem?_toArray, List.getElem?_cons_succ, List.getElem?_cons_zero]; rfl) (by kernel_rfl) (by kernel_rfl) (by kernel_rfl) (fun _ _ _ h => h) (Or.inl ⟨by rfl, ?_⟩) (by assumption) ?_
          rotate_left
          · intro w hSw; (try dsimp only at hSw); simp only [Bk] at hSw; go_simp; try with_reducible rfl
          try simp only [Act.put, List.setIfInBounds_toArray, List.set_cons_zero, List.set_cons_succ]
          refine wpAnyH_take (i := 7) (v := ?_) (by simp only [List.getElem?_toArray, List.getElem?_cons_succ, List.getElem?_cons_zero]; rfl) (by kernel_rfl) (by kernel_rfl) (by kernel_rfl) (fun _ _ _ h => h) (Or.inl ⟨by rfl, ?_⟩) (by assumption) ?_
          rotate_left
          · intro w hSw; (try dsimp only at hSw); simp only [Bk] at hSw; go_simp; try with_reducible rfl
          try simp only [Act.put, List.setIfInBounds_toArray, List.set_cons_zero, List.set_cons_succ]
          refine wpAnyH_take (i := 8) (v := ?_) (by simp only [List.getElem?_toArray, List.getElem?_cons_succ, List.getElem?_cons_zero]; rfl) (by kernel_rfl) (by kernel_rfl) (by kernel_rfl) (fun _ _ _ h => h) (Or.inl ⟨by rfl, ?_⟩) (by assumption) ?_
          rotate_left
          · intro w hSw; (try dsimp only at hSw); simp only [Bk] at hSw; go_simp; try with_reducible rfl
          try simp only [Act.put, List.setIfInBounds_toArray, List.set_cons_zero, List.set_cons_succ]
          refine wpAnyH_take (i := 9) (v := ?_) (by simp only [List.getElem?_toArray, List.getElem?_cons_succ, List.getElem?_cons_zero]; rfl) (by kernel_rfl) (by kernel_rfl) (by kernel_rfl) (fun _ _ _ h => h) (Or.inl ⟨by rfl, ?_⟩) (by assumption) ?_
          rotate_left
          · intro w hSw; (try dsimp only at hSw); simp only [Bk] at hSw; go_simp; try with_reducible rfl
          try simp only [Act.put, List.setIfInBounds_toArray, List.set_cons_zero, List.set_cons_succ]
          refine wpAnyH_ready (rs := [10]) (by kernel_rfl) (by simp) ?_
          refine AllReadyH.cons rfl (fun K hK => ?_) ?_
          · have hOld := hHeld; clear hHeld
            have B0 := hOld.1
            have B1 := hOld.2.1
            have B2 := hOld.2.2
            go_simp
            refine hK.out _ _ ⟨by (repeat (first | with_reducible assumption | with_reducible apply Bk.drew | with_reducible apply Bk.alloc | with_reducible apply Bk.later (hB := hRwz3) | ((with_reducible apply Bk.mv hRwz3); (focus omega)) | with_reducible apply Bk.later (hB := hRwz2) | ((with_reducible apply Bk.mv hRwz2); (focus omega)) | with_reducible apply Bk.later (hB := hRwz1) | ((with_reducible apply Bk.mv hRwz1); (focus omega)) | with_reducible apply Bk.later (hB := hM) | ((with_reducible apply Bk.mv hM); (focus omega)) | ((with_reducible apply Bk.later); rotate_left; (with_reducible assumption)) | ((with_reducible apply Bk.put); rotate_left; (first | (dsimp only; omega))))), by (repeat (first | with_reducible assumption | with_reducible apply Bk.drew | with_reducible apply Bk.alloc | with_reducible apply Bk.later (hB := hRwz3) | ((with_reducible apply Bk.mv hRwz3); (focus omega)) | with_reducible apply Bk.later (hB := hRwz2) | ((with_reducible apply Bk.mv hRwz2); (focus omega)) | with_reducible apply Bk.later (hB := hRwz1) | ((with_reducible apply Bk.mv hRwz1); (focus omega)) | with_reducible apply Bk.later (hB := hM) | ((with_reducible apply Bk.mv hM); (focus omega)) | ((with_reducible apply Bk.later); rotate_left; (with_reducible assumption)) | ((with_reducible apply Bk.put); rotate_left; (first | (dsimp only; omega))))), by (repeat (first | with_reducible assumption | with_reducible apply Bk.drew | with_reducible apply Bk.alloc | with_reducible apply Bk.later (hB := hRwz3) | ((with_reducible apply Bk.mv hRwz3); (focus omega)) | with_reducible apply Bk.later (hB := hRwz2) | ((with_reducible apply Bk.mv hRwz2); (focus omega)) | with_reducible apply Bk.later (hB := hRwz1) | ((with_reducible apply Bk.mv hRwz1); (focus omega)) | with_reducible apply Bk.later (hB := hM) | ((with_reducible apply Bk.mv hM); (focus omega)) | ((with_reducible apply Bk.later); rotate_left; (with_reducible assumption)) | ((with_reducible apply Bk.put); rotate_left; (first | (dsimp only; omega)))))⟩ (fun hHeld => ?_)
            clear hK K hOld B0 B1 B2
            try simp only [Act.put, List.setIfInBounds_toArray, List.set_cons_zero, List.set_cons_succ]
            refine wpAnyH_ready (rs := [11]) (by kernel_rfl) (by simp) ?_
            refine AllReadyH.cons rfl (fun K hK => ?_) ?_
            · have hOld := hHeld; clear hHeld
              have B0 := hOld.1
              have B1 := hOld.2.1
              have B2 := hOld.2.2
              have G0 : Bk (wz3.heap.size) 0 [.int .i64 0, .int .i64 0] ((wz3).alloc (Obj.cells #[.int .i64 0, .int .i64 0] 24)) := by first | (simp [Bk, go_sem]; done) | (repeat (first | with_reducible assumption | with_reducible apply Bk.drew | with_reducible apply Bk.alloc | with_reducible apply Bk.later (hB := hRwz3) | ((with_reducible apply Bk.mv hRwz3); (focus omega)) | with_reducible apply Bk.later (hB := hRwz2) | ((with_reducible apply Bk.mv hRwz2); (focus omega)) | with_reducible apply Bk.later (hB := hRwz1) | ((with_reducible apply Bk.mv hRwz1); (focus omega)) | with_reducible apply Bk.later (hB := hM) | ((with_reducible apply Bk.mv hM); (focus omega)) | ((with_reducible apply Bk.later); rotate_left; (with_reducible assumption)) | ((with_reducible apply Bk.put); rotate_left; (first | (dsimp only; omega)))))
              simp only [Bk] at G0
              go_simp
              refine hK.out _ _ ⟨by (repeat (first | with_reducible assumption | with_reducible apply Bk.drew | with_reducible apply Bk.alloc | with_reducible apply Bk.later (hB := hRwz3) | ((with_reducible apply Bk.mv hRwz3); (focus omega)) | with_reducible apply Bk.later (hB := hRwz2) | ((with_reducible apply Bk.mv hRwz2); (focus omega)) | with_reducible apply Bk.later (hB := hRwz1) | ((with_reducible apply Bk.mv hRwz1); (focus omega)) | with_reducible apply Bk.later (hB := hM) | ((with_reducible apply Bk.mv hM); (focus omega)) | ((with_reducible apply Bk.later); rotate_left; (with_reducible assumption)) | ((with_reducible apply Bk.put); rotate_left; (first | (dsimp only; omega))))), by (repeat (first | with_reducible assumption | with_reducible apply Bk.drew | with_reducible apply Bk.alloc | with_reducible apply Bk.later (hB := hRwz3) | ((with_reducible apply Bk.mv hRwz3); (focus omega)) | with_reducible apply Bk.later (hB := hRwz2) | ((with_reducible apply Bk.mv hRwz2); (focus omega)) | with_reducible apply Bk.later (hB := hRwz1) | ((with_reducible apply Bk.mv hRwz1); (focus omega)) | with_reducible apply Bk.later (hB := hM) | ((with_reducible apply Bk.mv hM); (focus omega)) | ((with_reducible apply Bk.later); rotate_left; (with_reducible assumption)) | ((with_reducible apply Bk.put); rotate_left; (first | (dsimp only; omega))))), by (repeat (first | with_reducible assumption | with_reducible apply Bk.drew | with_reducible apply Bk.alloc | with_reducible apply Bk.later (hB := hRwz3) | ((with_reducible apply Bk.mv hRwz3); (focus omega)) | with_reducible apply Bk.later (hB := hRwz2) | ((with_reducible apply Bk.mv hRwz2); (focus omega)) | with_reducible apply Bk.later (hB := hRwz1) | ((with_reducible apply Bk.mv hRwz1); (focus omega)) | with_reducible apply Bk.later (hB := hM) | ((with_reducible apply Bk.mv hM); (focus omega)) | ((with_reducible apply Bk.later); rotate_left; (with_reducible assumption)) | ((with_reducible apply Bk.put); rotate_left; (first | (dsimp only; omega)))))⟩ (fun hHeld => ?_)
              clear hK K hOld B0 B1 B2
              try simp only [Act.put, List.setIfInBounds_toArray, List.set_cons_zero, List.set_cons_succ]
              refine wpAnyH_take (i := 12) (v := ?_) (by simp only [List.getElem?_toArray, List.getElem?_cons_succ, List.getElem?_cons_zero]; rfl) (by kernel_rfl) (by kernel_rfl) (by kernel_rfl) (fun _ _ _ h => h) (Or.inl ⟨by rfl, ?_⟩) (by assumption) ?_
              rotate_left
              · intro w hSw; (try dsimp only at hSw); simp only [Bk] at hSw; go_simp; try with_reducible rfl
              try simp only [Act.put, List.setIfInBounds_toArray, List.set_cons_zero, List.set_cons_succ]
              refine wpAnyH_take (i := 13) (v := ?_) (by simp only [List.getElem?_toArray, List.getElem?_cons_succ, List.getElem?_cons_zero]; rfl) (by kernel_rfl) (by kernel_rfl) (by kernel_rfl) (fun _ _ _ h => h) (Or.inl ⟨by rfl, ?_⟩) (by assumption) ?_
              rotate_left
              · intro w hSw; (try dsimp only at hSw); simp only [Bk] at hSw; go_simp; try with_reducible rfl
              try simp only [Act.put, List.setIfInBounds_toArray, List.set_cons_zero, List.set_cons_succ]
              refine wpAnyH_done (by kernel_rfl) ?_ _
              (try refine NoPanic.normal ?_)
              go_wp2
              go_meet
              exact ⟨_, rfl, rfl, rfl, by (repeat (first | with_reducible assumption | with_reducible apply Tw.alloc | with_reducible apply Tw.drew | ((with_reducible apply Tw.after); rotate_left; (with_reducible assumption)) | ((with_reducible apply Tw.setCell); rotate_left; (first | (dsimp only; omega) | omega | (simp; omega)); (first | (dsimp only; omega) | omega | (simp; omega)); (first | (dsimp only; omega) | omega | (simp; omega))))), by simp (maxDischargeDepth := 8) [Bk, go_sem, *], hHeld.2.2, hHeld.1⟩
            exact AllReadyH.nil
          exact AllReadyH.nil
        refine AllReadyH.cons rfl (fun K hK => ?_) ?_
        · have hOld := hHeld; clear hHeld
          have B0 := hOld.1
          have B1 := hOld.2.1
          have B2 := hOld.2.2
          go_simp
          refine hK.out _ _ ⟨by (repeat (first | with_reducible assumption | with_reducible apply Bk.drew | with_reducible apply Bk.alloc | with_reducible apply Bk.later (hB := hRwz2) | ((with_reducible apply Bk.mv hRwz2); (focus omega)) | with_reducible apply Bk.later (hB := hRwz1) | ((with_reducible apply Bk.mv hRwz1); (focus omega)) | with_reducible apply Bk.later (hB := hM) | ((with_reducible apply Bk.mv hM); (focus omega)) | ((with_reducible apply Bk.later); rotate_left; (with_reducible assumption)) | ((with_reducible apply Bk.put); rotate_left; (first | (dsimp only; omega))))), by (repeat (first | with_reducible assumption | with_reducible apply Bk.drew | with_reducible apply Bk.alloc | with_reducible apply Bk.later (hB := hRwz2) | ((with_reducible apply Bk.mv hRwz2); (focus omega)) | with_reducible apply Bk.later (hB := hRwz1) | ((with_reducible apply Bk.mv hRwz1); (focus omega)) | with_reducible apply Bk.later (hB := hM) | ((with_reducible apply Bk.mv hM); (focus omega)) | ((with_reducible apply Bk.later); rotate_left; (with_reducible assumption)) | ((with_reducible apply Bk.put); rotate_left; (first | (dsimp only; omega))))), by (repeat (first | with_reducible assumption | with_reducible apply Bk.drew | with_reducible apply Bk.alloc | with_reducible apply Bk.later (hB := hRwz2) | ((with_reducible apply Bk.mv hRwz2); (focus omega)) | with_reducible apply Bk.later (hB := hRwz1) | ((with_reducible apply Bk.mv hRwz1); (focus omega)) | with_reducible apply Bk.later (hB := hM) | ((with_reducible apply Bk.mv hM); (focus omega)) | ((with_reducible apply Bk.later); rotate_left; (with_reducible assumption)) | ((with_reducible apply Bk.put); rotate_left; (first | (dsimp only; omega)))))⟩ (fun hHeld => ?_)
          clear hK K hOld B0 B1 B2
          try simp only [Act.put, List.setIfInBounds_toArray, List.set_cons_zero, List.set_cons_succ]
          refine wpAnyH_ready (rs := [5]) (by kernel_rfl) (by simp) ?_
          refine AllReadyH.cons rfl (fun K hK => ?_) ?_
          · have hOld := hHeld; clear hHeld
            have B0 := hOld.1
            have B1 := hOld.2.1
            have B2 := hOld.2.2
            go_simp
            (go_at_call 8; (with_reducible refine (Tw.call2 (by (repeat (first | with_reducible assumption | with_reducible apply Tw.alloc | with_reducible apply Tw.drew | ((with_reducible apply Tw.after); rotate_left; (with_reducible assumption)) | ((with_reducible apply Tw.setCell); rotate_left; (first | (dsimp only; omega) | omega | (simp; omega)); (first | (dsimp only; omega) | omega | (simp; omega)); (first | (dsimp only; omega) | omega | (simp; omega)))))) (k2 _ _ _)).mono ?_); rintro e wz4 ⟨rfl, hR, HT⟩)
            have hRwz4 := hR
            have hzR := hR.size
            (try simp at hzR)
            have GR0 : Bk (wz2.heap.size) 0 [.int .i64 0, .int .i64 0] wz4 := Bk.mv hR (by omega) (by first | (simp [Bk, go_sem]; done) | (repeat (first | with_reducible assumption | with_reducible apply Bk.drew | with_reducible apply Bk.alloc | with_reducible apply Bk.later (hB := hRwz4) | ((with_reducible apply Bk.mv hRwz4); (focus omega)) | with_reducible apply Bk.later (hB := hRwz2) | ((with_reducible apply Bk.mv hRwz2); (focus omega)) | with_reducible apply Bk.later (hB := hRwz1) | ((with_reducible apply Bk.mv hRwz1); (focus omega)) | with_reducible apply Bk.later (hB := hM) | ((with_reducible apply Bk.mv hM); (focus omega)) | ((with_reducible apply Bk.later); rotate_left; (with_reducible assumption)) | ((with_reducible apply Bk.put); rotate_left; (first | (dsimp only; omega))))))
            have GS0 := GR0; simp only [Bk] at GS0
            have nl0 : wz2.heap.size < wz4.heap.size := by omega
            (try go_wp2_with (fail))
            refine hK.out _ _ ⟨by (repeat (first | with_reducible assumption | with_reducible apply Bk.drew | with_reducible apply Bk.alloc | with_reducible apply Bk.later (hB := hRwz4) | ((with_reducible apply Bk.mv hRwz4); (focus omega)) | with_reducible apply Bk.later (hB := hRwz2) | ((with_reducible apply Bk.mv hRwz2); (focus omega)) | with_reducible apply Bk.later (hB := hRwz1) | ((with_reducible apply Bk.mv hRwz1); (focus omega)) | with_reducible apply Bk.later (hB := hM) | ((with_reducible apply Bk.mv hM); (focus omega)) | ((with_reducible apply Bk.later); rotate_left; (with_reducible assumption)) | ((with_reducible apply Bk.put); rotate_left; (first | (dsimp only; omega))))), by (repeat (first | with_reducible assumption | with_reducible apply Bk.drew | with_reducible apply Bk.alloc | with_reducible apply Bk.later (hB := hRwz4) | ((with_reducible apply Bk.mv hRwz4); (focus omega)) | with_reducible apply Bk.later (hB := hRwz2) | ((with_reducible apply Bk.mv hRwz2); (focus omega)) | with_reducible apply Bk.later (hB := hRwz1) | ((with_reducible apply Bk.mv hRwz1); (focus omega)) | with_reducible apply Bk.later (hB := hM) | ((with_reducible apply Bk.mv hM); (focus omega)) | ((with_reducible apply Bk.later); rotate_left; (with_reducible assumption)) | ((with_reducible apply Bk.put); rotate_left; (first | (dsimp only; omega))))), by (repeat (first | with_reducible assumption | with_reducible apply Bk.drew | with_reducible apply Bk.alloc | with_reducible apply Bk.later (hB := hRwz4) | ((with_reducible apply Bk.mv hRwz4); (focus omega)) | with_reducible apply Bk.later (hB := hRwz2) | ((with_reducible apply Bk.mv hRwz2); (focus omega)) | with_reducible apply Bk.later (hB := hRwz1) | ((with_reducible apply Bk.mv hRwz1); (focus omega)) | with_reducible apply Bk.later (hB := hM) | ((with_reducible apply Bk.mv hM); (focus omega)) | ((with_reducible apply Bk.later); rotate_left; (with_reducible assumption)) | ((with_reducible apply Bk.put); rotate_left; (first | (dsimp only; omega)))))⟩ (fun hHeld => ?_)
            clear hK K hOld B0 B1 B2
            try simp only [Act.put, List.setIfInBounds_toArray, List.set_cons_zero, List.set_cons_succ]
            refine wpAnyH_take (i := 6) (v := ?_) (by simp only [List.getElem?_toArray, List.getElem?_cons_succ, List.getElem?_cons_zero]; rfl) (by kernel_rfl) (by kernel_rfl) (by kernel_rfl) (fun _ _ _ h => h) (Or.inl ⟨by rfl, ?_⟩) (by assumption) ?_
            rotate_left
            · intro w hSw; (try dsimp only at hSw); simp only [Bk] at hSw; go_simp; try with_reducible rfl
            try simp only [Act.put, List.setIfInBounds_toArray, List.set_cons_zero, List.set_cons_succ]
            refine wpAnyH_take (i := 7) (v := ?_) (by simp only [List.getElem?_toArray, List.getElem?_cons_succ, List.getElem?_cons_zero]; rfl) (by kernel_rfl) (by kernel_rfl) (by kernel_rfl) (fun _ _ _ h => h) (Or.inl ⟨by rfl, ?_⟩) (by assumption) ?_
            rotate_left
            · intro w hSw; (try dsimp only at hSw); simp only [Bk] at hSw; go_simp; try with_reducible rfl
            try simp only [Act.put, List.setIfInBounds_toArray, List.set_cons_zero, List.set_cons_succ]
            refine wpAnyH_take (i := 8) (v := ?_) (by simp only [List.getElem?_toArray, List.getElem?_cons_succ, List.getElem?_cons_zero]; rfl) (by kernel_rfl) (by kernel_rfl) (by kernel_rfl) (fun _ _ _ h => h) (Or.inl ⟨by rfl, ?_⟩) (by assumption) ?_
            rotate_left
            · intro w hSw; (try dsimp only at hSw); simp only [Bk] at hSw; go_simp; try with_reducible rfl
            try simp only [Act.put, List.setIfInBounds_toArray, List.set_cons_zero, List.set_cons_succ]
            refine wpAnyH_take (i := 9) (v := ?_) (by simp only [List.getElem?_toArray, List.getElem?_cons_succ, List.getElem?_cons_zero]; rfl) (by kernel_rfl) (by kernel_rfl) (by kernel_rfl) (fun _ _ _ h => h) (Or.inl ⟨by rfl, ?_⟩) (by assumption) ?_
            rotate_left
            · intro w hSw; (try dsimp only at hSw); simp only [Bk] at hSw; go_simp; try with_reducible rfl
            try simp only [Act.put, List.setIfInBounds_toArray, List.set_cons_zero, List.set_cons_succ]
            refine wpAnyH_ready (rs := [11]) (by kernel_rfl) (by simp) ?_
            refine AllReadyH.cons rfl (fun K hK => ?_) ?_
            · have hOld := hHeld; clear hHeld
              have B0 := hOld.1
              have B1 := hOld.2.1
              have B2 := hOld.2.2
              have G0 : Bk (wz2.heap.size) 0 [.int .i64 0, .int .i64 0] (wz4) := by first | (simp [Bk, go_sem]; done) | (repeat (first | with_reducible assumption | with_reducible apply Bk.drew | with_reducible apply Bk.alloc | with_reducible apply Bk.later (hB := hRwz4) | ((with_reducible apply Bk.mv hRwz4); (focus omega)) | with_reducible apply Bk.later (hB := hRwz2) | ((with_reducible apply Bk.mv hRwz2); (focus omega)) | with_reducible apply Bk.later (hB := hRwz1) | ((with_reducible apply Bk.mv hRwz1); (focus omega)) | with_reducible apply Bk.later (hB := hM) | ((with_reducible apply Bk.mv hM); (focus omega)) | ((with_reducible apply Bk.later); rotate_left; (with_reducible assumption)) | ((with_reducible apply Bk.put); rotate_left; (first | (dsimp only; omega)))))
              simp only [Bk] at G0
              go_simp
              refine hK.out _ _ ⟨by (repeat (first | with_reducible assumption | with_reducible apply Bk.drew | with_reducible apply Bk.alloc | with_reducible apply Bk.later (hB := hRwz4) | ((with_reducible apply Bk.mv hRwz4); (focus omega)) | with_reducible apply Bk.later (hB := hRwz2) | ((with_reducible apply Bk.mv hRwz2); (focus omega)) | with_reducible apply Bk.later (hB := hRwz1) | ((with_reducible apply Bk.mv hRwz1); (focus omega)) | with_reducible apply Bk.later (hB := hM) | ((with_reducible apply Bk.mv hM); (focus omega)) | ((with_reducible apply Bk.later); rotate_left; (with_reducible assumption)) | ((with_reducible apply Bk.put); rotate_left; (first | (dsimp only; omega))))), by (repeat (first | with_reducible assumption | with_reducible apply Bk.drew | with_reducible apply Bk.alloc | with_reducible apply Bk.later (hB := hRwz4) | ((with_reducible apply Bk.mv hRwz4); (focus omega)) | with_reducible apply Bk.later (hB := hRwz2) | ((with_reducible apply Bk.mv hRwz2); (focus omega)) | with_reducible apply Bk.later (hB := hRwz1) | ((with_reducible apply Bk.mv hRwz1); (focus omega)) | with_reducible apply Bk.later (hB := hM) | ((with_reducible apply Bk.mv hM); (focus omega)) | ((with_reducible apply Bk.later); rotate_left; (with_reducible assumption)) | ((with_reducible apply Bk.put); rotate_left; (first | (dsimp only; omega))))), by (repeat (first | with_reducible assumption | with_reducible apply Bk.drew | with_reducible apply Bk.alloc | with_reducible apply Bk.later (hB := hRwz4) | ((with_reducible apply Bk.mv hRwz4); (focus omega)) | with_reducible apply Bk.later (hB := hRwz2) | ((with_reducible apply Bk.mv hRwz2); (focus omega)) | with_reducible apply Bk.later (hB := hRwz1) | ((with_reducible apply Bk.mv hRwz1); (focus omega)) | with_reducible apply Bk.later (hB := hM) | ((with_reducible apply Bk.mv hM); (focus omega)) | ((with_reducible apply Bk.later); rotate_left; (with_reducible assumption)) | ((with_reducible apply Bk.put); rotate_left; (first | (dsimp only; omega)))))⟩ (fun hHeld => ?_)
              clear hK K hOld B0 B1 B2
              try simp only [Act.put, List.setIfInBounds_toArray, List.set_cons_zero, List.set_cons_succ]
              refine wpAnyH_take (i := 12) (v := ?_) (by simp only [List.getElem?_toArray, List.getElem?_cons_succ, List.getElem?_cons_zero]; rfl) (by kernel_rfl) (by kernel_rfl) (by kernel_rfl) (fun _ _ _ h => h) (Or.inl ⟨by rfl, ?_⟩) (by assumption) ?_
              rotate_left
              · intro w hSw; (try dsimp only at hSw); simp only [Bk] at hSw; go_simp; try with_reducible rfl
              try simp only [Act.put, List.setIfInBounds_toArray, List.set_cons_zero, List.set_cons_succ]
              refine wpAnyH_take (i := 13) (v := ?_) (by simp only [List.getElem?_toArray, List.getElem?_cons_succ, List.getElem?_cons_zero]; rfl) (by kernel_rfl) (by kernel_rfl) (by kernel_rfl) (fun _ _ _ h => h) (Or.inl ⟨by rfl, ?_⟩) (by assumption) ?_
              rotate_left
              · intro w hSw; (try dsimp only at hSw); simp only [Bk] at hSw; go_simp; try with_reducible rfl
              try simp only [Act.put, List.setIfInBounds_toArray, List.set_cons_zero, List.set_cons_succ]
              refine wpAnyH_done (by kernel_rfl) ?_ _
              (try refine NoPanic.normal ?_)
              go_wp2
              go_meet
              exact ⟨_, rfl, rfl, rfl, by (repeat (first | with_reducible assumption | with_reducible apply Tw.alloc | with_reducible apply Tw.drew | ((with_reducible apply Tw.after); rotate_left; (with_reducible assumption)) | ((with_reducible apply Tw.setCell); rotate_left; (first | (dsimp only; omega) | omega | (simp; omega)); (first | (dsimp only; omega) | omega | (simp; omega)); (first | (dsimp only; omega) | omega | (simp; omega))))), by simp (maxDischargeDepth := 8) [Bk, go_sem, *], hHeld.2.2, hHeld.1⟩
            exact AllReadyH.nil
          exact AllReadyH.nil
        exact AllReadyH.nil
      refine AllReadyH.cons rfl (fun K hK => ?_) ?_
      · have hOld := hHeld; clear hHeld
        have B0 := hOld.1
        have B1 := hOld.2.1
        have B2 := hOld.2.2
        go_simp
        refine hK.out _ _ ⟨by (repeat (first | with_reducible assumption | with_reducible apply Bk.drew | with_reducible apply Bk.alloc | with_reducible apply Bk.later (hB := hRwz1) | ((with_reducible apply Bk.mv hRwz1); (focus omega)) | with_reducible apply Bk.later (hB := hM) | ((with_reducible apply Bk.mv hM); (focus omega)) | ((with_reducible apply Bk.later); rotate_left; (with_reducible assumption)) | ((with_reducible apply Bk.put); rotate_left; (first | (dsimp only; omega))))), by (repeat (first | with_reducible assumption | with_reducible apply Bk.drew | with_reducible apply Bk.alloc | with_reducible apply Bk.later (hB := hRwz1) | ((with_reducible apply Bk.mv hRwz1); (focus omega)) | with_reducible apply Bk.later (hB := hM) | ((with_reducible apply Bk.mv hM); (focus omega)) | ((with_reducible apply Bk.later); rotate_left; (with_reducible assumption)) | ((with_reducible apply Bk.put); rotate_left; (first | (dsimp only; omega))))), by (repeat (first | with_reducible assumption | with_reducible apply Bk.drew | with_reducible apply Bk.alloc | with_reducible apply Bk.later (hB := hRwz1) | ((with_reducible apply Bk.mv hRwz1); (focus omega)) | with_reducible apply Bk.later (hB := hM) | ((with_reducible apply Bk.mv hM); (focus omega)) | ((with_reducible apply Bk.later); rotate_left; (with_reducible assumption)) | ((with_reducible apply Bk.put); rotate_left; (first | (dsimp only; omega)))))⟩ (fun hHeld => ?_)
        clear hK K hOld B0 B1 B2
        try simp only [Act.put, List.setIfInBounds_toArray, List.set_cons_zero, List.set_cons_succ]
        refine wpAnyH_ready (rs := [4]) (by kernel_rfl) (by simp) ?_
        refine AllReadyH.cons rfl (fun K hK => ?_) ?_
        · have hOld := hHeld; clear hHeld
          have B0 := hOld.1
          have B1 := hOld.2.1
          have B2 := hOld.2.2
          go_simp
          (go_at_call 9; (with_reducible refine (kP2 _).mono ?_); rintro e wz5 ⟨rfl, hR⟩)
          have hRwz5 := hR
          have hzR := hR.size
          (try simp at hzR)
          have GR0 : Bk (wz1.heap.size) 0 [.int .i64 0, .int .i64 0] wz5 := Bk.later (by first | (simp [Bk, go_sem]; done) | (repeat (first | with_reducible assumption | with_reducible apply Bk.drew | with_reducible apply Bk.alloc | with_reducible apply Bk.later (hB := hRwz5) | ((with_reducible apply Bk.mv hRwz5); (focus omega)) | with_reducible apply Bk.later (hB := hRwz1) | ((with_reducible apply Bk.mv hRwz1); (focus omega)) | with_reducible apply Bk.later (hB := hM) | ((with_reducible apply Bk.mv hM); (focus omega)) | ((with_reducible apply Bk.later); rotate_left; (with_reducible assumption)) | ((with_reducible apply Bk.put); rotate_left; (first | (dsimp only; omega)))))) hR
          have GS0 := GR0; simp only [Bk] at GS0
          have nl0 : wz1.heap.size < wz5.heap.size := by omega
          (try go_wp2_with (fail))
          refine hK.out _ _ ⟨by (repeat (first | with_reducible assumption | with_reducible apply Bk.drew | with_reducible apply Bk.alloc | with_reducible apply Bk.later (hB := hRwz5) | ((with_reducible apply Bk.mv hRwz5); (focus omega)) | with_reducible apply Bk.later (hB := hRwz1) | ((with_reducible apply Bk.mv hRwz1); (focus omega)) | with_reducible apply Bk.later (hB := hM) | ((with_reducible apply Bk.mv hM); (focus omega)) | ((with_reducible apply Bk.later); rotate_left; (with_reducible assumption)) | ((with_reducible apply Bk.put); rotate_left; (first | (dsimp only; omega))))), by (repeat (first | with_reducible assumption | with_reducible apply Bk.drew | with_reducible apply Bk.alloc | with_reducible apply Bk.later (hB := hRwz5) | ((with_reducible apply Bk.mv hRwz5); (focus omega)) | with_reducible apply Bk.later (hB := hRwz1) | ((with_reducible apply Bk.mv hRwz1); (focus omega)) | with_reducible apply Bk.later (hB := hM) | ((with_reducible apply Bk.mv hM); (focus omega)) | ((with_reducible apply Bk.later); rotate_left; (with_reducible assumption)) | ((with_reducible apply Bk.put); rotate_left; (first | (dsimp only; omega))))), by (repeat (first | with_reducible assumption | with_reducible apply Bk.drew | with_reducible apply Bk.alloc | with_reducible apply Bk.later (hB := hRwz5) | ((with_reducible apply Bk.mv hRwz5); (focus omega)) | with_reducible apply Bk.later (hB := hRwz1) | ((with_reducible apply Bk.mv hRwz1); (focus omega)) | with_reducible apply Bk.later (hB := hM) | ((with_reducible apply Bk.mv hM); (focus omega)) | ((with_reducible apply Bk.later); rotate_left; (with_reducible assumption)) | ((with_reducible apply Bk.put); rotate_left; (first | (dsimp only; omega)))))⟩ (fun hHeld => ?_)
          clear hK K hOld B0 B1 B2
          try simp only [Act.put, List.setIfInBounds_toArray, List.set_cons_zero, List.set_cons_succ]
          refine wpAnyH_ready (rs := [5]) (by kernel_rfl) (by simp) ?_
          refine AllReadyH.cons rfl (fun K hK => ?_) ?_
          · have hOld := hHeld; clear hHeld
            have B0 := hOld.1
            have B1 := hOld.2.1
            have B2 := hOld.2.2
            go_simp
            (go_at_call 8; (with_reducible refine (Tw.call2 (by (repeat (first | with_reducible assumption | with_reducible apply Tw.alloc | with_reducible apply Tw.drew | ((with_reducible apply Tw.after); rotate_left; (with_reducible assumption)) | ((with_reducible apply Tw.setCell); rotate_left; (first | (dsimp only; omega) | omega | (simp; omega)); (first | (dsimp only; omega) | omega | (simp; omega)); (first | (dsimp only; omega) | omega | (simp; omega)))))) (k2 _ _ _)).mono ?_); rintro e wz6 ⟨rfl, hR, HT⟩)
            have hRwz6 := hR
            have hzR := hR.size
            (try simp at hzR)
            have GR0 : Bk (wz1.heap.size) 0 [.int .i64 0, .int .i64 0] wz6 := Bk.mv hR (by omega) (by first | (simp [Bk, go_sem]; done) | (repeat (first | with_reducible assumption | with_reducible apply Bk.drew | with_reducible apply Bk.alloc | with_reducible apply Bk.later (hB := hRwz6) | ((with_reducible apply Bk.mv hRwz6); (focus omega)) | with_reducible apply Bk.later (hB := hRwz5) | ((with_reducible apply Bk.mv hRwz5); (focus omega)) | with_reducible apply Bk.later (hB := hRwz1) | ((with_reducible apply Bk.mv hRwz1); (focus omega)) | with_reducible apply Bk.later (hB := hM) | ((with_reducible apply Bk.mv hM); (focus omega)) | ((with_reducible apply Bk.later); rotate_left; (with_reducible assumption)) | ((with_reducible apply Bk.put); rotate_left; (first | (dsimp only; omega))))))
            have GS0 := GR0; simp only [Bk] at GS0
            have nl0 : wz1.heap.size < wz6.heap.size := by omega
            (try go_wp2_with (fail))
            refine hK.out _ _ ⟨by (repeat (first | with_reducible assumption | with_reducible apply Bk.drew | with_reducible apply Bk.alloc | with_reducible apply Bk.later (hB := hRwz6) | ((with_reducible apply Bk.mv hRwz6); (focus omega)) | with_reducible apply Bk.later (hB := hRwz5) | ((with_reducible apply Bk.mv hRwz5); (focus omega)) | with_reducible apply Bk.later (hB := hRwz1) | ((with_reducible apply Bk.mv hRwz1); (focus omega)) | with_reducible apply Bk.later (hB := hM) | ((with_reducible apply Bk.mv hM); (focus omega)) | ((with_reducible apply Bk.later); rotate_left; (with_reducible assumption)) | ((with_reducible apply Bk.put); rotate_left; (first | (dsimp only; omega))))), by (repeat (first | with_reducible assumption | with_reducible apply Bk.drew | with_reducible apply Bk.alloc | with_reducible apply Bk.later (hB := hRwz6) | ((with_reducible apply Bk.mv hRwz6); (focus omega)) | with_reducible apply Bk.later (hB := hRwz5) | ((with_reducible apply Bk.mv hRwz5); (focus omega)) | with_reducible apply Bk.later (hB := hRwz1) | ((with_reducible apply Bk.mv hRwz1); (focus omega)) | with_reducible apply Bk.later (hB := hM) | ((with_reducible apply Bk.mv hM); (focus omega)) | ((with_reducible apply Bk.later); rotate_left; (with_reducible assumption)) | ((with_reducible apply Bk.put); rotate_left; (first | (dsimp only; omega))))), by (repeat (first | with_reducible assumption | with_reducible apply Bk.drew | with_reducible apply Bk.alloc | with_reducible apply Bk.later (hB := hRwz6) | ((with_reducible apply Bk.mv hRwz6); (focus omega)) | with_reducible apply Bk.later (hB := hRwz5) | ((with_reducible apply Bk.mv hRwz5); (focus omega)) | with_reducible apply Bk.later (hB := hRwz1) | ((with_reducible apply Bk.mv hRwz1); (focus omega)) | with_reducible apply Bk.later (hB := hM) | ((with_reducible apply Bk.mv hM); (focus omega)) | ((with_reducible apply Bk.later); rotate_left; (with_reducible assumption)) | ((with_reducible apply Bk.put); rotate_left; (first | (dsimp only; omega)))))⟩ (fun hHeld => ?_)
            clear hK K hOld B0 B1 B2
            try simp only [Act.put, List.setIfInBounds_toArray, List.set_cons_zero, List.set_cons_succ]
            refine wpAnyH_take (i := 6) (v := ?_) (by simp only [List.getElem?_toArray, List.getElem?_cons_succ, List.getElem?_cons_zero]; rfl) (by kernel_rfl) (by kernel_rfl) (by kernel_rfl) (fun _ _ _ h => h) (Or.inl ⟨by rfl, ?_⟩) (by assumption) ?_
            rotate_left
            · intro w hSw; (try dsimp only at hSw); simp only [Bk] at hSw; go_simp; try with_reducible rfl
            try simp only [Act.put, List.setIfInBounds_toArray, List.set_cons_zero, List.set_cons_succ]
            refine wpAnyH_take (i := 7) (v := ?_) (by simp only [List.getElem?_toArray, List.getElem?_cons_succ, List.getElem?_cons_zero]; rfl) (by kernel_rfl) (by kernel_rfl) (by kernel_rfl) (fun _ _ _ h => h) (Or.inl ⟨by rfl, ?_⟩) (by assumption) ?_
            rotate_left
            · intro w hSw; (try dsimp only at hSw); simp only [Bk] at hSw; go_simp; try with_reducible rfl
            try simp only [Act.put, List.setIfInBounds_toArray, List.set_cons_zero, List.set_cons_succ]
            refine wpAnyH_take (i := 8) (v := ?_) (by simp only [List.getElem?_toArray, List.getElem?_cons_succ, List.getElem?_cons_zero]; rfl) (by kernel_rfl) (by kernel_rfl) (by kernel_rfl) (fun _ _ _ h => h) (Or.inl ⟨by rfl, ?_⟩) (by assumption) ?_
            rotate_left
            · intro w hSw; (try dsimp only at hSw); simp only [Bk] at hSw; go_simp; try with_reducible rfl
            try simp only [Act.put, List.setIfInBounds_toArray, List.set_cons_zero, List.set_cons_succ]
            refine wpAnyH_take (i := 9) (v := ?_) (by simp only [List.getElem?_toArray, List.getElem?_cons_succ, List.getElem?_cons_zero]; rfl) (by kernel_rfl) (by kernel_rfl) (by kernel_rfl) (fun _ _ _ h => h) (Or.inl ⟨by rfl, ?_⟩) (by assumption) ?_
            rotate_left
            · intro w hSw; (try dsimp only at hSw); simp only [Bk] at hSw; go_simp; try with_reducible rfl
            try simp only [Act.put, List.setIfInBounds_toArray, List.set_cons_zero, List.set_cons_succ]
            refine wpAnyH_ready (rs := [11]) (by kernel_rfl) (by simp) ?_
            refine AllReadyH.cons rfl (fun K hK => ?_) ?_
            · have hOld := hHeld; clear hHeld
              have B0 := hOld.1
              have B1 := hOld.2.1
              have B2 := hOld.2.2
              have G0 : Bk (wz1.heap.size) 0 [.int .i64 0, .int .i64 0] (wz6) := by first | (simp [Bk, go_sem]; done) | (repeat (first | with_reducible assumption | with_reducible apply Bk.drew | with_reducible apply Bk.alloc | with_reducible apply Bk.later (hB := hRwz6) | ((with_reducible apply Bk.mv hRwz6); (focus omega)) | with_reducible apply Bk.later (hB := hRwz5) | ((with_reducible apply Bk.mv hRwz5); (focus omega)) | with_reducible apply Bk.later (hB := hRwz1) | ((with_reducible apply Bk.mv hRwz1); (focus omega)) | with_reducible apply Bk.later (hB := hM) | ((with_reducible apply Bk.mv hM); (focus omega)) | ((with_reducible apply Bk.later); rotate_left; (with_reducible assumption)) | ((with_reducible apply Bk.put); rotate_left; (first | (dsimp only; omega)))))
              simp only [Bk] at G0
              go_simp
              refine hK.out _ _ ⟨by (repeat (first | with_reducible assumption | with_reducible apply Bk.drew | with_reducible apply Bk.alloc | with_reducible apply Bk.later (hB := hRwz6) | ((with_reducible apply Bk.mv hRwz6); (focus omega)) | with_reducible apply Bk.later (hB := hRwz5) | ((with_reducible apply Bk.mv hRwz5); (focus omega)) | with_reducible apply Bk.later (hB := hRwz1) | ((with_reducible apply Bk.mv hRwz1); (focus omega)) | with_reducible apply Bk.later (hB := hM) | ((with_reducible apply Bk.mv hM); (focus omega)) | ((with_reducible apply Bk.later); rotate_left; (with_reducible assumption)) | ((with_reducible apply Bk.put); rotate_left; (first | (dsimp only; omega))))), by (repeat (first | with_reducible assumption | with_reducible apply Bk.drew | with_reducible apply Bk.alloc | with_reducible apply Bk.later (hB := hRwz6) | ((with_reducible apply Bk.mv hRwz6); (focus omega)) | with_reducible apply Bk.later (hB := hRwz5) | ((with_reducible apply Bk.mv hRwz5); (focus omega)) | with_reducible apply Bk.later (hB := hRwz1) | ((with_reducible apply Bk.mv hRwz1); (focus omega)) | with_reducible apply Bk.later (hB := hM) | ((with_reducible apply Bk.mv hM); (focus omega)) | ((with_reducible apply Bk.later); rotate_left; (with_reducible assumption)) | ((with_reducible apply Bk.put); rotate_left; (first | (dsimp only; omega))))), by (repeat (first | with_reducible assumption | with_reducible apply Bk.drew | with_reducible apply Bk.alloc | with_reducible apply Bk.later (hB := hRwz6) | ((with_reducible apply Bk.mv hRwz6); (focus omega)) | with_reducible apply Bk.later (hB := hRwz5) | ((with_reducible apply Bk.mv hRwz5); (focus omega)) | with_reducible apply Bk.later (hB := hRwz1) | ((with_reducible apply Bk.mv hRwz1); (focus omega)) | with_reducible apply Bk.later (hB := hM) | ((with_reducible apply Bk.mv hM); (focus omega)) | ((with_reducible apply Bk.later); rotate_left; (with_reducible assumption)) | ((with_reducible apply Bk.put); rotate_left; (first | (dsimp only; omega)))))⟩ (fun hHeld => ?_)
              clear hK K hOld B0 B1 B2
              try simp only [Act.put, List.setIfInBounds_toArray, List.set_cons_zero, List.set_cons_succ]
              refine wpAnyH_take (i := 12) (v := ?_) (by simp only [List.getElem?_toArray, List.getElem?_cons_succ, List.getElem?_cons_zero]; rfl) (by kernel_rfl) (by kernel_rfl) (by kernel_rfl) (fun _ _ _ h => h) (Or.inl ⟨by rfl, ?_⟩) (by assumption) ?_
              rotate_left
              · intro w hSw; (try dsimp only at hSw); simp only [Bk] at hSw; go_simp; try with_reducible rfl
              try simp only [Act.put, List.setIfInBounds_toArray, List.set_cons_zero, List.set_cons_succ]
              refine wpAnyH_take (i := 13) (v := ?_) (by simp only [List.getElem?_toArray, List.getElem?_cons_succ, List.getElem?_cons_zero]; rfl) (by kernel_rfl) (by kernel_rfl) (by kernel_rfl) (fun _ _ _ h => h) (Or.inl ⟨by rfl, ?_⟩) (by assumption) ?_
              rotate_left
              · intro w hSw; (try dsimp only at hSw); simp only [Bk] at hSw; go_simp; try with_reducible rfl
              try simp only [Act.put, List.setIfInBounds_toArray, List.set_cons_zero, List.set_cons_succ]
              refine wpAnyH_done (by kernel_rfl) ?_ _
              (try refine NoPanic.normal ?_)
              go_wp2
              go_meet
              exact ⟨_, rfl, rfl, rfl, by (repeat (first | with_reducible assumption | with_reducible apply Tw.alloc | with_reducible apply Tw.drew | ((with_reducible apply Tw.after); rotate_left; (with_reducible assumption)) | ((with_reducible apply Tw.setCell); rotate_left; (first | (dsimp only; omega) | omega | (simp; omega)); (first | (dsimp only; omega) | omega | (simp; omega)); (first | (dsimp only; omega) | omega | (simp; omega))))), by simp (maxDischargeDepth := 8) [Bk, go_sem, *], hHeld.2.2, hHeld.1⟩
            exact AllReadyH.nil
          exact AllReadyH.nil
        exact AllReadyH.nil
      exact AllReadyH.nil
    refine AllReadyH.cons rfl (fun K hK => ?_) ?_
    · have hOld := hHeld; clear hHeld
      have B0 := hOld.1
      have B1 := hOld.2.1
      have B2 := hOld.2.2
      go_simp
      refine hK.out _ _ ⟨by (repeat (first | with_reducible assumption | with_reducible apply Bk.drew | with_reducible apply Bk.alloc | with_reducible apply Bk.later (hB := hM) | ((with_reducible apply Bk.mv hM); (focus omega)) | ((with_reducible apply Bk.later); rotate_left; (with_reducible assumption)) | ((with_reducible apply Bk.put); rotate_left; (first | (dsimp only; omega))))), by (repeat (first | with_reducible assumption | with_reducible apply Bk.drew | with_reducible apply Bk.alloc | with_reducible apply Bk.later (hB := hM) | ((with_reducible apply Bk.mv hM); (focus omega)) | ((with_reducible apply Bk.later); rotate_left; (with_reducible assumption)) | ((with_reducible apply Bk.put); rotate_left; (first | (dsimp only; omega))))), by (repeat (first | with_reducible assumption | with_reducible apply Bk.drew | with_reducible apply Bk.alloc | with_reducible apply Bk.later (hB := hM) | ((with_reducible apply Bk.mv hM); (focus omega)) | ((with_reducible apply Bk.later); rotate_left; (with_reducible assumption)) | ((with_reducible apply Bk.put); rotate_left; (first | (dsimp only; omega)))))⟩ (fun hHeld => ?_)
      clear hK K hOld B0 B1 B2
      try simp only [Act.put, List.setIfInBounds_toArray, List.set_cons_zero, List.set_cons_succ]
      refine wpAnyH_ready (rs := [2]) (by kernel_rfl) (by simp) ?_
      refine AllReadyH.cons rfl (fun K hK => ?_) ?_
      · have hOld := hHeld; clear hHeld
        have B0 := hOld.1
        have B1 := hOld.2.1
        have B2 := hOld.2.2
        go_simp
        (go_at_call 9; (with_reducible refine (kP1 _).mono ?_); rintro e wz7 ⟨rfl, hR⟩)
        have hRwz7 := hR
        have hzR := hR.size
        (try simp at hzR)
        have GR0 : Bk (W.heap.size) 0 [.int .i64 0, .int .i64 0] wz7 := Bk.later (by first | (simp [Bk, go_sem]; done) | (repeat (first | with_reducible assumption | with_reducible apply Bk.drew | with_reducible apply Bk.alloc | with_reducible apply Bk.later (hB := hRwz7) | ((with_reducible apply Bk.mv hRwz7); (focus omega)) | with_reducible apply Bk.later (hB := hM) | ((with_reducible apply Bk.mv hM); (focus omega)) | ((with_reducible apply Bk.later); rotate_left; (with_reducible assumption)) | ((with_reducible apply Bk.put); rotate_left; (first | (dsimp only; omega)))))) hR
        have GS0 := GR0; simp only [Bk] at GS0
        have nl0 : W.heap.size < wz7.heap.size := by omega
        (try go_wp2_with (fail))
        refine hK.out _ _ ⟨by (repeat (first | with_reducible assumption | with_reducible apply Bk.drew | with_reducible apply Bk.alloc | with_reducible apply Bk.later (hB := hRwz7) | ((with_reducible apply Bk.mv hRwz7); (focus omega)) | with_reducible apply Bk.later (hB := hM) | ((with_reducible apply Bk.mv hM); (focus omega)) | ((with_reducible apply Bk.later); rotate_left; (with_reducible assumption)) | ((with_reducible apply Bk.put); rotate_left; (first | (dsimp only; omega))))), by (repeat (first | with_reducible assumption | with_reducible apply Bk.drew | with_reducible apply Bk.alloc | with_reducible apply Bk.later (hB := hRwz7) | ((with_reducible apply Bk.mv hRwz7); (focus omega)) | with_reducible apply Bk.later (hB := hM) | ((with_reducible apply Bk.mv hM); (focus omega)) | ((with_reducible apply Bk.later); rotate_left; (with_reducible assumption)) | ((with_reducible apply Bk.put); rotate_left; (first | (dsimp only; omega))))), by (repeat (first | with_reducible assumption | with_reducible apply Bk.drew | with_reducible apply Bk.alloc | with_reducible apply Bk.later (hB := hRwz7) | ((with_reducible apply Bk.mv hRwz7); (focus omega)) | with_reducible apply Bk.later (hB := hM) | ((with_reducible apply Bk.mv hM); (focus omega)) | ((with_reducible apply Bk.later); rotate_left; (with_reducible assumption)) | ((with_reducible apply Bk.put); rotate_left; (first | (dsimp only; omega)))))⟩ (fun hHeld => ?_)
        clear hK K hOld B0 B1 B2
        try simp only [Act.put, List.setIfInBounds_toArray, List.set_cons_zero, List.set_cons_succ]
        refine wpAnyH_ready (rs := [4]) (by kernel_rfl) (by simp) ?_
        refine AllReadyH.cons rfl (fun K hK => ?_) ?_
        · have hOld := hHeld; clear hHeld
          have B0 := hOld.1
          have B1 := hOld.2.1
          have B2 := hOld.2.2
          go_simp
          (go_at_call 9; (with_reducible refine (kP2 _).mono ?_); rintro e wz8 ⟨rfl, hR⟩)
          have hRwz8 := hR
          have hzR := hR.size
          (try simp at hzR)
          have GR0 : Bk (W.heap.size) 0 [.int .i64 0, .int .i64 0] wz8 := Bk.later (by first | (simp [Bk, go_sem]; done) | (repeat (first | with_reducible assumption | with_reducible apply Bk.drew | with_reducible apply Bk.alloc | with_reducible apply Bk.later (hB := hRwz8) | ((with_reducible apply Bk.mv hRwz8); (focus omega)) | with_reducible apply Bk.later (hB := hRwz7) | ((with_reducible apply Bk.mv hRwz7); (focus omega)) | with_reducible apply Bk.later (hB := hM) | ((with_reducible apply Bk.mv hM); (focus omega)) | ((with_reducible apply Bk.later); rotate_left; (with_reducible assumption)) | ((with_reducible apply Bk.put); rotate_left; (first | (dsimp only; omega)))))) hR
          have GS0 := GR0; simp only [Bk] at GS0
          have nl0 : W.heap.size < wz8.heap.size := by omega
          (try go_wp2_with (fail))
          refine hK.out _ _ ⟨by (repeat (first | with_reducible assumption | with_reducible apply Bk.drew | with_reducible apply Bk.alloc | with_reducible apply Bk.later (hB := hRwz8) | ((with_reducible apply Bk.mv hRwz8); (focus omega)) | with_reducible apply Bk.later (hB := hRwz7) | ((with_reducible apply Bk.mv hRwz7); (focus omega)) | with_reducible apply Bk.later (hB := hM) | ((with_reducible apply Bk.mv hM); (focus omega)) | ((with_reducible apply Bk.later); rotate_left; (with_reducible assumption)) | ((with_reducible apply Bk.put); rotate_left; (first | (dsimp only; omega))))), by (repeat (first | with_reducible assumption | with_reducible apply Bk.drew | with_reducible apply Bk.alloc | with_reducible apply Bk.later (hB := hRwz8) | ((with_reducible apply Bk.mv hRwz8); (focus omega)) | with_reducible apply Bk.later (hB := hRwz7) | ((with_reducible apply Bk.mv hRwz7); (focus omega)) | with_reducible apply Bk.later (hB := hM) | ((with_reducible apply Bk.mv hM); (focus omega)) | ((with_reducible apply Bk.later); rotate_left; (with_reducible assumption)) | ((with_reducible apply Bk.put); rotate_left; (first | (dsimp only; omega))))), by (repeat (first | with_reducible assumption | with_reducible apply Bk.drew | with_reducible apply Bk.alloc | with_reducible apply Bk.later (hB := hRwz8) | ((with_reducible apply Bk.mv hRwz8); (focus omega)) | with_reducible apply Bk.later (hB := hRwz7) | ((with_reducible apply Bk.mv hRwz7); (focus omega)) | with_reducible apply Bk.later (hB := hM) | ((with_reducible apply Bk.mv hM); (focus omega)) | ((with_reducible apply Bk.later); rotate_left; (with_reducible assumption)) | ((with_reducible apply Bk.put); rotate_left; (first | (dsimp only; omega)))))⟩ (fun hHeld => ?_)
          clear hK K hOld B0 B1 B2
          try simp only [Act.put, List.setIfInBounds_toArray, List.set_cons_zero, List.set_cons_succ]
          refine wpAnyH_ready (rs := [5]) (by kernel_rfl) (by simp) ?_
          refine AllReadyH.cons rfl (fun K hK => ?_) ?_
          · have hOld := hHeld; clear hHeld
            have B0 := hOld.1
            have B1 := hOld.2.1
            have B2 := hOld.2.2
            go_simp
            (go_at_call 8; (with_reducible refine (Tw.call2 (by (repeat (first | with_reducible assumption | with_reducible apply Tw.alloc | with_reducible apply Tw.drew | ((with_reducible apply Tw.after); rotate_left; (with_reducible assumption)) | ((with_reducible apply Tw.setCell); rotate_left; (first | (dsimp only; omega) | omega | (simp; omega)); (first | (dsimp only; omega) | omega | (simp; omega)); (first | (dsimp only; omega) | omega | (simp; omega)))))) (k2 _ _ _)).mono ?_); rintro e wz9 ⟨rfl, hR, HT⟩)
            have hRwz9 := hR
            have hzR := hR.size
            (try simp at hzR)
            have GR0 : Bk (W.heap.size) 0 [.int .i64 0, .int .i64 0] wz9 := Bk.mv hR (by omega) (by first | (simp [Bk, go_sem]; done) | (repeat (first | with_reducible assumption | with_reducible apply Bk.drew | with_reducible apply Bk.alloc | with_reducible apply Bk.later (hB := hRwz9) | ((with_reducible apply Bk.mv hRwz9); (focus omega)) | with_reducible apply Bk.later (hB := hRwz8) | ((with_reducible apply Bk.mv hRwz8); (focus omega)) | with_reducible apply Bk.later (hB := hRwz7) | ((with_reducible apply Bk.mv hRwz7); (focus omega)) | with_reducible apply Bk.later (hB := hM) | ((with_reducible apply Bk.mv hM); (focus omega)) | ((with_reducible apply Bk.later); rotate_left; (with_reducible assumption)) | ((with_reducible apply Bk.put); rotate_left; (first | (dsimp only; omega))))))
            have GS0 := GR0; simp only [Bk] at GS0
            have nl0 : W.heap.size < wz9.heap.size := by omega
            (try go_wp2_with (fail))
            refine hK.out _ _ ⟨by (repeat (first | with_reducible assumption | with_reducible apply Bk.drew | with_reducible apply Bk.alloc | with_reducible apply Bk.later (hB := hRwz9) | ((with_reducible apply Bk.mv hRwz9); (focus omega)) | with_reducible apply Bk.later (hB := hRwz8) | ((with_reducible apply Bk.mv hRwz8); (focus omega)) | with_reducible apply Bk.later (hB := hRwz7) | ((with_reducible apply Bk.mv hRwz7); (focus omega)) | with_reducible apply Bk.later (hB := hM) | ((with_reducible apply Bk.mv hM); (focus omega)) | ((with_reducible apply Bk.later); rotate_left; (with_reducible assumption)) | ((with_reducible apply Bk.put); rotate_left; (first | (dsimp only; omega))))), by (repeat (first | with_reducible assumption | with_reducible apply Bk.drew | with_reducible apply Bk.alloc | with_reducible apply Bk.later (hB := hRwz9) | ((with_reducible apply Bk.mv hRwz9); (focus omega)) | with_reducible apply Bk.later (hB := hRwz8) | ((with_reducible apply Bk.mv hRwz8); (focus omega)) | with_reducible apply Bk.later (hB := hRwz7) | ((with_reducible apply Bk.mv hRwz7); (focus omega)) | with_reducible apply Bk.later (hB := hM) | ((with_reducible apply Bk.mv hM); (focus omega)) | ((with_reducible apply Bk.later); rotate_left; (with_reducible assumption)) | ((with_reducible apply Bk.put); rotate_left; (first | (dsimp only; omega))))), by (repeat (first | with_reducible assumption | with_reducible apply Bk.drew | with_reducible apply Bk.alloc | with_reducible apply Bk.later (hB := hRwz9) | ((with_reducible apply Bk.mv hRwz9); (focus omega)) | with_reducible apply Bk.later (hB := hRwz8) | ((with_reducible apply Bk.mv hRwz8); (focus omega)) | with_reducible apply Bk.later (hB := hRwz7) | ((with_reducible apply Bk.mv hRwz7); (focus omega)) | with_reducible apply Bk.later (hB := hM) | ((with_reducible apply Bk.mv hM); (focus omega)) | ((with_reducible apply Bk.later); rotate_left; (with_reducible assumption)) | ((with_reducible apply Bk.put); rotate_left; (first | (dsimp only; omega)))))⟩ (fun hHeld => ?_)
            clear hK K hOld B0 B1 B2
            try simp only [Act.put, List.setIfInBounds_toArray, List.set_cons_zero, List.set_cons_succ]
            refine wpAnyH_take (i := 6) (v := ?_) (by simp only [List.getElem?_toArray, List.getElem?_cons_succ, List.getElem?_cons_zero]; rfl) (by kernel_rfl) (by kernel_rfl) (by kernel_rfl) (fun _ _ _ h => h) (Or.inl ⟨by rfl, ?_⟩) (by assumption) ?_
            rotate_left
            · intro w hSw; (try dsimp only at hSw); simp only [Bk] at hSw; go_simp; try with_reducible rfl
            try simp only [Act.put, List.setIfInBounds_toArray, List.set_cons_zero, List.set_cons_succ]
            refine wpAnyH_take (i := 7) (v := ?_) (by simp only [List.getElem?_toArray, List.getElem?_cons_succ, List.getElem?_cons_zero]; rfl) (by kernel_rfl) (by kernel_rfl) (by kernel_rfl) (fun _ _ _ h => h) (Or.inl ⟨by rfl, ?_⟩) (by assumption) ?_
            rotate_left
            · intro w hSw; (try dsimp only at hSw); simp only [Bk] at hSw; go_simp; try with_reducible rfl
            try simp only [Act.put, List.setIfInBounds_toArray, List.set_cons_zero, List.set_cons_succ]
            refine wpAnyH_take (i := 8) (v := ?_) (by simp only [List.getElem?_toArray, List.getElem?_cons_succ, List.getElem?_cons_zero]; rfl) (by kernel_rfl) (by kernel_rfl) (by kernel_rfl) (fun _ _ _ h => h) (Or.inl ⟨by rfl, ?_⟩) (by assumption) ?_
            rotate_left
            · intro w hSw; (try dsimp only at hSw); simp only [Bk] at hSw; go_simp; try with_reducible rfl
            try simp only [Act.put, List.setIfInBounds_toArray, List.set_cons_zero, List.set_cons_succ]
            refine wpAnyH_take (i := 9) (v := ?_) (by simp only [List.getElem?_toArray, List.getElem?_cons_succ, List.getElem?_cons_zero]; rfl) (by kernel_rfl) (by kernel_rfl) (by kernel_rfl) (fun _ _ _ h => h) (Or.inl ⟨by rfl, ?_⟩) (by assumption) ?_
            rotate_left
            · intro w hSw; (try dsimp only at hSw); simp only [Bk] at hSw; go_simp; try with_reducible rfl
            try simp only [Act.put, List.setIfInBounds_toArray, List.set_cons_zero, List.set_cons_succ]
            refine wpAnyH_ready (rs := [11]) (by kernel_rfl) (by simp) ?_
            refine AllReadyH.cons rfl (fun K hK => ?_) ?_
            · have hOld := hHeld; clear hHeld
              have B0 := hOld.1
              have B1 := hOld.2.1
              have B2 := hOld.2.2
              have G0 : Bk (W.heap.size) 0 [.int .i64 0, .int .i64 0] (wz9) := by first | (simp [Bk, go_sem]; done) | (repeat (first | with_reducible assumption | with_reducible apply Bk.drew | with_reducible apply Bk.alloc | with_reducible apply Bk.later (hB := hRwz9) | ((with_reducible apply Bk.mv hRwz9); (focus omega)) | with_reducible apply Bk.later (hB := hRwz8) | ((with_reducible apply Bk.mv hRwz8); (focus omega)) | with_reducible apply Bk.later (hB := hRwz7) | ((with_reducible apply Bk.mv hRwz7); (focus omega)) | with_reducible apply Bk.later (hB := hM) | ((with_reducible apply Bk.mv hM); (focus omega)) | ((with_reducible apply Bk.later); rotate_left; (with_reducible assumption)) | ((with_reducible apply Bk.put); rotate_left; (first | (dsimp only; omega)))))
              simp only [Bk] at G0
              go_simp
              refine hK.out _ _ ⟨by (repeat (first | with_reducible assumption | with_reducible apply Bk.drew | with_reducible apply Bk.alloc | with_reducible apply Bk.later (hB := hRwz9) | ((with_reducible apply Bk.mv hRwz9); (focus omega)) | with_reducible apply Bk.later (hB := hRwz8) | ((with_reducible apply Bk.mv hRwz8); (focus omega)) | with_reducible apply Bk.later (hB := hRwz7) | ((with_reducible apply Bk.mv hRwz7); (focus omega)) | with_reducible apply Bk.later (hB := hM) | ((with_reducible apply Bk.mv hM); (focus omega)) | ((with_reducible apply Bk.later); rotate_left; (with_reducible assumption)) | ((with_reducible apply Bk.put); rotate_left; (first | (dsimp only; omega))))), by (repeat (first | with_reducible assumption | with_reducible apply Bk.drew | with_reducible apply Bk.alloc | with_reducible apply Bk.later (hB := hRwz9) | ((with_reducible apply Bk.mv hRwz9); (focus omega)) | with_reducible apply Bk.later (hB := hRwz8) | ((with_reducible apply Bk.mv hRwz8); (focus omega)) | with_reducible apply Bk.later (hB := hRwz7) | ((with_reducible apply Bk.mv hRwz7); (focus omega)) | with_reducible apply Bk.later (hB := hM) | ((with_reducible apply Bk.mv hM); (focus omega)) | ((with_reducible apply Bk.later); rotate_left; (with_reducible assumption)) | ((with_reducible apply Bk.put); rotate_left; (first | (dsimp only; omega))))), by (repeat (first | with_reducible assumption | with_reducible apply Bk.drew | with_reducible apply Bk.alloc | with_reducible apply Bk.later (hB := hRwz9) | ((with_reducible apply Bk.mv hRwz9); (focus omega)) | with_reducible apply Bk.later (hB := hRwz8) | ((with_reducible apply Bk.mv hRwz8); (focus omega)) | with_reducible apply Bk.later (hB := hRwz7) | ((with_reducible apply Bk.mv hRwz7); (focus omega)) | with_reducible apply Bk.later (hB := hM) | ((with_reducible apply Bk.mv hM); (focus omega)) | ((with_reducible apply Bk.later); rotate_left; (with_reducible assumption)) | ((with_reducible apply Bk.put); rotate_left; (first | (dsimp only; omega)))))⟩ (fun hHeld => ?_)
              clear hK K hOld B0 B1 B2
              try simp only [Act.put, List.setIfInBounds_toArray, List.set_cons_zero, List.set_cons_succ]
              refine wpAnyH_take (i := 12) (v := ?_) (by simp only [List.getElem?_toArray, List.getElem?_cons_succ, List.getElem?_cons_zero]; rfl) (by kernel_rfl) (by kernel_rfl) (by kernel_rfl) (fun _ _ _ h => h) (Or.inl ⟨by rfl, ?_⟩) (by assumption) ?_
              rotate_left
              · intro w hSw; (try dsimp only at hSw); simp only [Bk] at hSw; go_simp; try with_reducible rfl
              try simp only [Act.put, List.setIfInBounds_toArray, List.set_cons_zero, List.set_cons_succ]
              refine wpAnyH_take (i := 13) (v := ?_) (by simp only [List.getElem?_toArray, List.getElem?_cons_succ, List.getElem?_cons_zero]; rfl) (by kernel_rfl) (by kernel_rfl) (by kernel_rfl) (fun _ _ _ h => h) (Or.inl ⟨by rfl, ?_⟩) (by assumption) ?_
              rotate_left
              · intro w hSw; (try dsimp only at hSw); simp only [Bk] at hSw; go_simp; try with_reducible rfl
              try simp only [Act.put, List.setIfInBounds_toArray, List.set_cons_zero, List.set_cons_succ]
              refine wpAnyH_done (by kernel_rfl) ?_ _
              (try refine NoPanic.normal ?_)
              go_wp2
              go_meet
              exact ⟨_, rfl, rfl, rfl, by (repeat (first | with_reducible assumption | with_reducible apply Tw.alloc | with_reducible apply Tw.drew | ((with_reducible apply Tw.after); rotate_left; (with_reducible assumption)) | ((with_reducible apply Tw.setCell); rotate_left; (first | (dsimp only; omega) | omega | (simp; omega)); (first | (dsimp only; omega) | omega | (simp; omega)); (first | (dsimp only; omega) | omega | (simp; omega))))), by simp (maxDischargeDepth := 8) [Bk, go_sem, *], hHeld.2.2, hHeld.1⟩
            exact AllReadyH.nil
          exact AllReadyH.nil
        exact AllReadyH.nil
      exact AllReadyH.nil
    exact AllReadyH.nil
  case rest =>
    obtain ⟨k, rfl, rfl, rfl, HT, K, U, A⟩ := hcut
    rename World => wt
    generalize (false || !f) = ov at *
    have HB := HT.below
    have Q1 : Bk (w.heap.size + 1 + 1) 0 [.bool ov] wt := ⟨HT.cb, HT.fb, trivial⟩
    have Q2 : Bk (w.heap.size + 1 + 1 + 1) 0 [.bool ov] wt := ⟨HT.cc, HT.fc, trivial⟩
    have C_K := K; simp only [Bk] at C_K
    have C_U := U; simp only [Bk] at C_U
    have C_A := A; simp only [Bk] at C_A
    have C_Q1 := Q1; simp only [Bk] at C_Q1
    have C_Q2 := Q2; simp only [Bk] at C_Q2
    go_upto_region 5 with (fail)
    (try refine wp_region_noPanic ?_)
    refine wp_region_held_drew (S := (fun (w' : World) => w'.cell? ⟨w.heap.size, 0, none⟩ = some (.int .i64 ax) ∧ w'.cell? ⟨w.heap.size, 1, none⟩ = some (.int .i64 ay) ∧ w'.cell? ⟨w.heap.size, 2, none⟩ = some (.int .i64 vx) ∧ w'.cell? ⟨w.heap.size, 3, none⟩ = some (.int .i64 vy) ∧ w'.cell? ⟨w.heap.size, 4, none⟩ = some (.int .i64 s1) ∧ w'.cell? ⟨w.heap.size, 5, none⟩ = some (.int .i64 m1) ∧ w'.cell? ⟨g.heap.size, 0, none⟩ = some (.int .i64 ux) ∧ w'.cell? ⟨g.heap.size, 1, none⟩ = some (.int .i64 uy) ∧ w'.cell? ⟨k, 0, none⟩ = some (.int .i64 ux) ∧ w'.cell? ⟨k, 1, none⟩ = some (.int .i64 uy) ∧ w'.cell? ⟨w.heap.size + 1 + 1, 0, none⟩ = some (.bool ov) ∧ w'.cell? ⟨w.heap.size + 1 + 1 + 1, 0, none⟩ = some (.bool ov))) (by kernel_rfl) ⟨(by first | (simp (maxDischargeDepth := 6) [go_sem, *]; done)), (by first | (simp (maxDischargeDepth := 6) [go_sem, *]; done)), (by first | (simp (maxDischargeDepth := 6) [go_sem, *]; done)), (by first | (simp (maxDischargeDepth := 6) [go_sem, *]; done)), (by first | (simp (maxDischargeDepth := 6) [go_sem, *]; done)), (by first | (simp (maxDischargeDepth := 6) [go_sem, *]; done)), (by first | (simp (maxDischargeDepth := 6) [go_sem, *]; done)), (by first | (simp (maxDischargeDepth := 6) [go_sem, *]; done)), (by first | (simp (maxDischargeDepth := 6) [go_sem, *]; done)), (by first | (simp (maxDischargeDepth := 6) [go_sem, *]; done)), (by first | (simp (maxDischargeDepth := 6) [go_sem, *]; done)), (by first | (simp (maxDischargeDepth := 6) [go_sem, *]; done))⟩ (fun hHeld => ?_)
    refine wpAnyH_take (i := 0) (v := ?_) (by simp only [List.getElem?_toArray, List.getElem?_cons_succ, List.getElem?_cons_zero]; rfl) (by kernel_rfl) (by kernel_rfl) (by kernel_rfl) (fun _ _ _ h => h) (Or.inl ⟨by rfl, ?_⟩) (by assumption) ?_
    rotate_left
    · intro w hSw; (try dsimp only at hSw); go_simp; try with_reducible rfl
    try simp only [Act.put, List.setIfInBounds_toArray, List.set_cons_zero, List.set_cons_succ]
    refine wpAnyH_take (i := 1) (v := ?_) (by simp only [List.getElem?_toArray, List.getElem?_cons_succ, List.getElem?_cons_zero]; rfl) (by kernel_rfl) (by kernel_rfl) (by kernel_rfl) (fun _ _ _ h => h) (Or.inl ⟨by rfl, ?_⟩) (by assumption) ?_
    rotate_left
    · intro w hSw; (try dsimp only at hSw); go_simp; try with_reducible rfl
    try simp only [Act.put, List.setIfInBounds_toArray, List.set_cons_zero, List.set_cons_succ]
    refine wpAnyH_take (i := 2) (v := ?_) (by simp only [List.getElem?_toArray, List.getElem?_cons_succ, List.getElem?_cons_zero]; rfl) (by kernel_rfl) (by kernel_rfl) (by kernel_rfl) (fun _ _ _ h => h) (Or.inl ⟨by rfl, ?_⟩) (by assumption) ?_
    rotate_left
    · intro w hSw; (try dsimp only at hSw); go_simp; try with_reducible rfl
    try simp only [Act.put, List.setIfInBounds_toArray, List.set_cons_zero, List.set_cons_succ]
    refine wpAnyH_take (i := 3) (v := ?_) (by simp only [List.getElem?_toArray, List.getElem?_cons_succ, List.getElem?_cons_zero]; rfl) (by kernel_rfl) (by kernel_rfl) (by kernel_rfl) (fun _ _ _ h => h) (Or.inl ⟨by rfl, ?_⟩) (by assumption) ?_
    rotate_left
    · intro w hSw; (try dsimp only at hSw); go_simp; try with_reducible rfl
    try simp only [Act.put, List.setIfInBounds_toArray, List.set_cons_zero, List.set_cons_succ]
    refine wpAnyH_take (i := 4) (v := ?_) (by simp only [List.getElem?_toArray, List.getElem?_cons_succ, List.getElem?_cons_zero]; rfl) (by kernel_rfl) (by kernel_rfl) (by kernel_rfl) (fun _ _ _ h => h) (Or.inl ⟨by rfl, ?_⟩) (by assumption) ?_
    rotate_left
    · intro w hSw; (try dsimp only at hSw); go_simp; try with_reducible rfl
    try simp only [Act.put, List.setIfInBounds_toArray, List.set_cons_zero, List.set_cons_succ]
    refine wpAnyH_take (i := 5) (v := ?_) (by simp only [List.getElem?_toArray, List.getElem?_cons_succ, List.getElem?_cons_zero]; rfl) (by kernel_rfl) (by kernel_rfl) (by kernel_rfl) (fun _ _ _ h => h) (Or.inl ⟨by rfl, ?_⟩) (by assumption) ?_
    rotate_left
    · intro w hSw; (try dsimp only at hSw); go_simp; try with_reducible rfl
    try simp only [Act.put, List.setIfInBounds_toArray, List.set_cons_zero, List.set_cons_succ]
    refine wpAnyH_take (i := 6) (v := ?_) (by simp only [List.getElem?_toArray, List.getElem?_cons_succ, List.getElem?_cons_zero]; rfl) (by kernel_rfl) (by kernel_rfl) (by kernel_rfl) (fun _ _ _ h => h) (Or.inl ⟨by rfl, ?_⟩) (by assumption) ?_
    rotate_left
    · intro w hSw; (try dsimp only at hSw); go_simp; try with_reducible rfl
    try simp only [Act.put, List.setIfInBounds_toArray, List.set_cons_zero, List.set_cons_succ]
    refine wpAnyH_take (i := 7) (v := ?_) (by simp only [List.getElem?_toArray, List.getElem?_cons_succ, List.getElem?_cons_zero]; rfl) (by kernel_rfl) (by kernel_rfl) (by kernel_rfl) (fun _ _ _ h => h) (Or.inl ⟨by rfl, ?_⟩) (by assumption) ?_
    rotate_left
    · intro w hSw; (try dsimp only at hSw); go_simp; try with_reducible rfl
    try simp only [Act.put, List.setIfInBounds_toArray, List.set_cons_zero, List.set_cons_succ]
    refine wpAnyH_take (i := 8) (v := ?_) (by simp only [List.getElem?_toArray, List.getElem?_cons_succ, List.getElem?_cons_zero]; rfl) (by kernel_rfl) (by kernel_rfl) (by kernel_rfl) (fun _ _ _ h => h) (Or.inl ⟨by rfl, ?_⟩) (by assumption) ?_
    rotate_left
    · intro w hSw; (try dsimp only at hSw); go_simp; try with_reducible rfl
    try simp only [Act.put, List.setIfInBounds_toArray, List.set_cons_zero, List.set_cons_succ]
    refine wpAnyH_take (i := 9) (v := ?_) (by simp only [List.getElem?_toArray, List.getElem?_cons_succ, List.getElem?_cons_zero]; rfl) (by kernel_rfl) (by kernel_rfl) (by kernel_rfl) (fun _ _ _ h => h) (Or.inl ⟨by rfl, ?_⟩) (by assumption) ?_
    rotate_left
    · intro w hSw; (try dsimp only at hSw); go_simp; try with_reducible rfl
    try simp only [Act.put, List.setIfInBounds_toArray, List.set_cons_zero, List.set_cons_succ]
    refine wpAnyH_take (i := 10) (v := ?_) (by simp only [List.getElem?_toArray, List.getElem?_cons_succ, List.getElem?_cons_zero]; rfl) (by kernel_rfl) (by kernel_rfl) (by kernel_rfl) (fun _ _ _ h => h) (Or.inl ⟨by rfl, ?_⟩) (by assumption) ?_
    rotate_left
    · intro w hSw; (try dsimp only at hSw); go_simp; try with_reducible rfl
    try simp only [Act.put, List.setIfInBounds_toArray, List.set_cons_zero, List.set_cons_succ]
    refine wpAnyH_take (i := 11) (v := ?_) (by simp only [List.getElem?_toArray, List.getElem?_cons_succ, List.getElem?_cons_zero]; rfl) (by kernel_rfl) (by kernel_rfl) (by kernel_rfl) (fun _ _ _ h => h) (Or.inl ⟨by rfl, ?_⟩) (by assumption) ?_
    rotate_left
    · intro w hSw; (try dsimp only at hSw); go_simp; try with_reducible rfl
    try simp only [Act.put, List.setIfInBounds_toArray, List.set_cons_zero, List.set_cons_succ]
    refine wpAnyH_take (i := 12) (v := ?_) (by simp only [List.getElem?_toArray, List.getElem?_cons_succ, List.getElem?_cons_zero]; rfl) (by kernel_rfl) (by kernel_rfl) (by kernel_rfl) (fun _ _ _ h => h) (Or.inl ⟨by rfl, ?_⟩) (by assumption) ?_
    rotate_left
    · intro w hSw; (try dsimp only at hSw); go_simp; try with_reducible rfl
    try simp only [Act.put, List.setIfInBounds_toArray, List.set_cons_zero, List.set_cons_succ]
    refine wpAnyH_take (i := 13) (v := ?_) (by simp only [List.getElem?_toArray, List.getElem?_cons_succ, List.getElem?_cons_zero]; rfl) (by kernel_rfl) (by kernel_rfl) (by kernel_rfl) (fun _ _ _ h => h) (Or.inl ⟨by rfl, ?_⟩) (by assumption) ?_
    rotate_left
    · intro w hSw; (try dsimp only at hSw); go_simp; try with_reducible rfl
    try simp only [Act.put, List.setIfInBounds_toArray, List.set_cons_zero, List.set_cons_succ]
    refine wpAnyH_take (i := 14) (v := ?_) (by simp only [List.getElem?_toArray, List.getElem?_cons_succ, List.getElem?_cons_zero]; rfl) (by kernel_rfl) (by kernel_rfl) (by kernel_rfl) (fun _ _ _ h => h) (Or.inl ⟨by rfl, ?_⟩) (by assumption) ?_
    rotate_left
    · intro w hSw; (try dsimp only at hSw); go_simp; try with_reducible rfl
    try simp only [Act.put, List.setIfInBounds_toArray, List.set_cons_zero, List.set_cons_succ]
    refine wpAnyH_take (i := 15) (v := ?_) (by simp only [List.getElem?_toArray, List.getElem?_cons_succ, List.getElem?_cons_zero]; rfl) (by kernel_rfl) (by kernel_rfl) (by kernel_rfl) (fun _ _ _ h => h) (Or.inl ⟨by rfl, ?_⟩) (by assumption) ?_
    rotate_left
    · intro w hSw; (try dsimp only at hSw); go_simp; try with_reducible rfl
    try simp only [Act.put, List.setIfInBounds_toArray, List.set_cons_zero, List.set_cons_succ]
    refine wpAnyH_take (i := 16) (v := ?_) (by simp only [List.getElem?_toArray, List.getElem?_cons_succ, List.getElem?_cons_zero]; rfl) (by kernel_rfl) (by kernel_rfl) (by kernel_rfl) (fun _ _ _ h => h) (Or.inl ⟨by rfl, ?_⟩) (by assumption) ?_
    rotate_left
    · intro w hSw; (try dsimp only at hSw); go_simp; try with_reducible rfl
    try simp only [Act.put, List.setIfInBounds_toArray, List.set_cons_zero, List.set_cons_succ]
    refine wpAnyH_take (i := 18) (v := ?_) (by simp only [List.getElem?_toArray, List.getElem?_cons_succ, List.getElem?_cons_zero]; rfl) (by kernel_rfl) (by kernel_rfl) (by kernel_rfl) (fun _ _ _ h => h) (Or.inl ⟨by rfl, ?_⟩) (by assumption) ?_
    rotate_left
    · intro w hSw; (try dsimp only at hSw); go_simp; try with_reducible rfl
    try simp only [Act.put, List.setIfInBounds_toArray, List.set_cons_zero, List.set_cons_succ]
    refine wpAnyH_take (i := 19) (v := ?_) (by simp only [List.getElem?_toArray, List.getElem?_cons_succ, List.getElem?_cons_zero]; rfl) (by kernel_rfl) (by kernel_rfl) (by kernel_rfl) (fun _ _ _ h => h) (Or.inl ⟨by rfl, ?_⟩) (by assumption) ?_
    rotate_left
    · intro w hSw; (try dsimp only at hSw); go_simp; try with_reducible rfl
    try simp only [Act.put, List.setIfInBounds_toArray, List.set_cons_zero, List.set_cons_succ]
    refine wpAnyH_take (i := 20) (v := ?_) (by simp only [List.getElem?_toArray, List.getElem?_cons_succ, List.getElem?_cons_zero]; rfl) (by kernel_rfl) (by kernel_rfl) (by kernel_rfl) (fun _ _ _ h => h) (Or.inl ⟨by rfl, ?_⟩) (by assumption) ?_
    rotate_left
    · intro w hSw; (try dsimp only at hSw); go_simp; try with_reducible rfl
    try simp only [Act.put, List.setIfInBounds_toArray, List.set_cons_zero, List.set_cons_succ]
    refine wpAnyH_take (i := 17) (v := ?_) (by simp only [List.getElem?_toArray, List.getElem?_cons_succ, List.getElem?_cons_zero]; rfl) (by kernel_rfl) (by kernel_rfl) (by kernel_rfl) (fun _ _ _ h => h) (Or.inl ⟨by rfl, ?_⟩) (by assumption) ?_
    rotate_left
    · intro w hSw; (try dsimp only at hSw); go_simp; try with_reducible rfl
    try simp only [Act.put, List.setIfInBounds_toArray, List.set_cons_zero, List.set_cons_succ]
    refine wpAnyH_take (i := 21) (v := ?_) (by simp only [List.getElem?_toArray, List.getElem?_cons_succ, List.getElem?_cons_zero]; rfl) (by kernel_rfl) (by kernel_rfl) (by kernel_rfl) (fun _ _ _ h => h) (Or.inl ⟨by rfl, ?_⟩) (by assumption) ?_
    rotate_left
    · intro w hSw; (try dsimp only at hSw); go_simp; try with_reducible rfl
    try simp only [Act.put, List.setIfInBounds_toArray, List.set_cons_zero, List.set_cons_succ]
    refine wpAnyH_take (i := 22) (v := ?_) (by simp only [List.getElem?_toArray, List.getElem?_cons_succ, List.getElem?_cons_zero]; rfl) (by kernel_rfl) (by kernel_rfl) (by kernel_rfl) (fun _ _ _ h => h) (Or.inl ⟨by rfl, ?_⟩) (by assumption) ?_
    rotate_left
    · intro w hSw; (try dsimp only at hSw); go_simp; try with_reducible rfl
    try simp only [Act.put, List.setIfInBounds_toArray, List.set_cons_zero, List.set_cons_succ]
    refine wpAnyH_take (i := 23) (v := ?_) (by simp only [List.getElem?_toArray, List.getElem?_cons_succ, List.getElem?_cons_zero]; rfl) (by kernel_rfl) (by kernel_rfl) (by kernel_rfl) (fun _ _ _ h => h) (Or.inl ⟨by rfl, ?_⟩) (by assumption) ?_
    rotate_left
    · intro w hSw; (try dsimp only at hSw); go_simp; try with_reducible rfl
    try simp only [Act.put, List.setIfInBounds_toArray, List.set_cons_zero, List.set_cons_succ]
    refine wpAnyH_take (i := 24) (v := ?_) (by simp only [List.getElem?_toArray, List.getElem?_cons_succ, List.getElem?_cons_zero]; rfl) (by kernel_rfl) (by kernel_rfl) (by kernel_rfl) (fun _ _ _ h => h) (Or.inl ⟨by rfl, ?_⟩) (by assumption) ?_
    rotate_left
    · intro w hSw; (try dsimp only at hSw); go_simp; try with_reducible rfl
    try simp only [Act.put, List.setIfInBounds_toArray, List.set_cons_zero, List.set_cons_succ]
    refine wpAnyH_take (i := 25) (v := ?_) (by simp only [List.getElem?_toArray, List.getElem?_cons_succ, List.getElem?_cons_zero]; rfl) (by kernel_rfl) (by kernel_rfl) (by kernel_rfl) (fun _ _ _ h => h) (Or.inl ⟨by rfl, ?_⟩) (by assumption) ?_
    rotate_left
    · intro w hSw; (try dsimp only at hSw); go_simp; try with_reducible rfl
    try simp only [Act.put, List.setIfInBounds_toArray, List.set_cons_zero, List.set_cons_succ]
    refine wpAnyH_take (i := 27) (v := ?_) (by simp only [List.getElem?_toArray, List.getElem?_cons_succ, List.getElem?_cons_zero]; rfl) (by kernel_rfl) (by kernel_rfl) (by kernel_rfl) (fun _ _ _ h => h) (Or.inl ⟨by rfl, ?_⟩) (by assumption) ?_
    rotate_left
    · intro w hSw; (try dsimp only at hSw); go_simp; try with_reducible rfl
    try simp only [Act.put, List.setIfInBounds_toArray, List.set_cons_zero, List.set_cons_succ]
    refine wpAnyH_ready (rs := [26]) (by kernel_rfl) (by simp) ?_
    refine AllReadyH.cons rfl (fun K hK => ?_) AllReadyH.nil
    have hOld := hHeld; clear hHeld
    go_simp
    (go_at_call 10; (with_reducible refine (kR _).mono ?_); rintro e w1 ⟨rfl, hM⟩)
    (try go_wp2_with (fail))
    refine hK.out _ _ ⟨(by first | exact mv_cell hM (by first | (dsimp only; omega) | (simp; omega)) hOld.1 | exact cell_later hM hOld.1 | exact HT.cb | exact HT.cc | (simp (maxDischargeDepth := 6) [go_sem, *]; done)), (by first | exact mv_cell hM (by first | (dsimp only; omega) | (simp; omega)) hOld.2.1 | exact cell_later hM hOld.2.1 | exact HT.cb | exact HT.cc | (simp (maxDischargeDepth := 6) [go_sem, *]; done)), (by first | exact mv_cell hM (by first | (dsimp only; omega) | (simp; omega)) hOld.2.2.1 | exact cell_later hM hOld.2.2.1 | exact HT.cb | exact HT.cc | (simp (maxDischargeDepth := 6) [go_sem, *]; done)), (by first | exact mv_cell hM (by first | (dsimp only; omega) | (simp; omega)) hOld.2.2.2.1 | exact cell_later hM hOld.2.2.2.1 | exact HT.cb | exact HT.cc | (simp (maxDischargeDepth := 6) [go_sem, *]; done)), (by first | exact mv_cell hM (by first | (dsimp only; omega) | (simp; omega)) hOld.2.2.2.2.1 | exact cell_later hM hOld.2.2.2.2.1 | exact HT.cb | exact HT.cc | (simp (maxDischargeDepth := 6) [go_sem, *]; done)), (by first | exact mv_cell hM (by first | (dsimp only; omega) | (simp; omega)) hOld.2.2.2.2.2.1 | exact cell_later hM hOld.2.2.2.2.2.1 | exact HT.cb | exact HT.cc | (simp (maxDischargeDepth := 6) [go_sem, *]; done)), (by first | exact mv_cell hM (by first | (dsimp only; omega) | (simp; omega)) hOld.2.2.2.2.2.2.1 | exact cell_later hM hOld.2.2.2.2.2.2.1 | exact HT.cb | exact HT.cc | (simp (maxDischargeDepth := 6) [go_sem, *]; done)), (by first | exact mv_cell hM (by first | (dsimp only; omega) | (simp; omega)) hOld.2.2.2.2.2.2.2.1 | exact cell_later hM hOld.2.2.2.2.2.2.2.1 | exact HT.cb | exact HT.cc | (simp (maxDischargeDepth := 6) [go_sem, *]; done)), (by first | exact mv_cell hM (by first | (dsimp only; omega) | (simp; omega)) hOld.2.2.2.2.2.2.2.2.1 | exact cell_later hM hOld.2.2.2.2.2.2.2.2.1 | exact HT.cb | exact HT.cc | (simp (maxDischargeDepth := 6) [go_sem, *]; done)), (by first | exact mv_cell hM (by first | (dsimp only; omega) | (simp; omega)) hOld.2.2.2.2.2.2.2.2.2.1 | exact cell_later hM hOld.2.2.2.2.2.2.2.2.2.1 | exact HT.cb | exact HT.cc | (simp (maxDischargeDepth := 6) [go_sem, *]; done)), (by first | exact mv_cell hM (by first | (dsimp only; omega) | (simp; omega)) hOld.2.2.2.2.2.2.2.2.2.2.1 | exact cell_later hM hOld.2.2.2.2.2.2.2.2.2.2.1 | exact HT.cb | exact HT.cc | (simp (maxDischargeDepth := 6) [go_sem, *]; done)), (by first | exact mv_cell hM (by first | (dsimp only; omega) | (simp; omega)) hOld.2.2.2.2.2.2.2.2.2.2.2 | exact cell_later hM hOld.2.2.2.2.2.2.2.2.2.2.2 | exact HT.cb | exact HT.cc | (simp (maxDischargeDepth := 6) [go_sem, *]; done))⟩ (fun hHeld => ?_)
    clear hK K hOld
    try simp only [Act.put, List.setIfInBounds_toArray, List.set_cons_zero, List.set_cons_succ]
    have HB := below_step (W := _) (by (repeat (first | with_reducible assumption | with_reducible exact Below.refl _ _ | ((with_reducible refine Below.setCell ?_ ?_ _); rotate_left; (first | exact Nat.le_refl _ | (dsimp only; omega) | (simp; done) | (simp; omega))) | with_reducible refine below_alloc ?_ _ | with_reducible apply below_drewN | with_reducible apply Below.drew | with_reducible refine below_step ?_ (by assumption)))) hM
    refine wpAnyH_ready (rs := [28]) (by kernel_rfl) (by simp) ?_
    refine AllReadyH.cons rfl (fun K hK => ?_) AllReadyH.nil
    have hOld := hHeld; clear hHeld
    go_simp
    (go_at_call 9; (with_reducible refine (kP1 _).mono ?_); rintro e w1 ⟨rfl, hM⟩)
    (try go_wp2_with (fail))
    refine hK.out _ _ ⟨(by first | exact mv_cell hM (by first | (dsimp only; omega) | (simp; omega)) hOld.1 | exact cell_later hM hOld.1 | exact HT.cb | exact HT.cc | (simp (maxDischargeDepth := 6) [go_sem, *]; done)), (by first | exact mv_cell hM (by first | (dsimp only; omega) | (simp; omega)) hOld.2.1 | exact cell_later hM hOld.2.1 | exact HT.cb | exact HT.cc | (simp (maxDischargeDepth := 6) [go_sem, *]; done)), (by first | exact mv_cell hM (by first | (dsimp only; omega) | (simp; omega)) hOld.2.2.1 | exact cell_later hM hOld.2.2.1 | exact HT.cb | exact HT.cc | (simp (maxDischargeDepth := 6) [go_sem, *]; done)), (by first | exact mv_cell hM (by first | (dsimp only; omega) | (simp; omega)) hOld.2.2.2.1 | exact cell_later hM hOld.2.2.2.1 | exact HT.cb | exact HT.cc | (simp (maxDischargeDepth := 6) [go_sem, *]; done)), (by first | exact mv_cell hM (by first | (dsimp only; omega) | (simp; omega)) hOld.2.2.2.2.1 | exact cell_later hM hOld.2.2.2.2.1 | exact HT.cb | exact HT.cc | (simp (maxDischargeDepth := 6) [go_sem, *]; done)), (by first | exact mv_cell hM (by first | (dsimp only; omega) | (simp; omega)) hOld.2.2.2.2.2.1 | exact cell_later hM hOld.2.2.2.2.2.1 | exact HT.cb | exact HT.cc | (simp (maxDischargeDepth := 6) [go_sem, *]; done)), (by first | exact mv_cell hM (by first | (dsimp only; omega) | (simp; omega)) hOld.2.2.2.2.2.2.1 | exact cell_later hM hOld.2.2.2.2.2.2.1 | exact HT.cb | exact HT.cc | (simp (maxDischargeDepth := 6) [go_sem, *]; done)), (by first | exact mv_cell hM (by first | (dsimp only; omega) | (simp; omega)) hOld.2.2.2.2.2.2.2.1 | exact cell_later hM hOld.2.2.2.2.2.2.2.1 | exact HT.cb | exact HT.cc | (simp (maxDischargeDepth := 6) [go_sem, *]; done)), (by first | exact mv_cell hM (by first | (dsimp only; omega) | (simp; omega)) hOld.2.2.2.2.2.2.2.2.1 | exact cell_later hM hOld.2.2.2.2.2.2.2.2.1 | exact HT.cb | exact HT.cc | (simp (maxDischargeDepth := 6) [go_sem, *]; done)), (by first | exact mv_cell hM (by first | (dsimp only; omega) | (simp; omega)) hOld.2.2.2.2.2.2.2.2.2.1 | exact cell_later hM hOld.2.2.2.2.2.2.2.2.2.1 | exact HT.cb | exact HT.cc | (simp (maxDischargeDepth := 6) [go_sem, *]; done)), (by first | exact mv_cell hM (by first | (dsimp only; omega) | (simp; omega)) hOld.2.2.2.2.2.2.2.2.2.2.1 | exact cell_later hM hOld.2.2.2.2.2.2.2.2.2.2.1 | exact HT.cb | exact HT.cc | (simp (maxDischargeDepth := 6) [go_sem, *]; done)), (by first | exact mv_cell hM (by first | (dsimp only; omega) | (simp; omega)) hOld.2.2.2.2.2.2.2.2.2.2.2 | exact cell_later hM hOld.2.2.2.2.2.2.2.2.2.2.2 | exact HT.cb | exact HT.cc | (simp (maxDischargeDepth := 6) [go_sem, *]; done))⟩ (fun hHeld => ?_)
    clear hK K hOld
    try simp only [Act.put, List.setIfInBounds_toArray, List.set_cons_zero, List.set_cons_succ]
    have HB := below_step HB hM
    refine wpAnyH_ready (rs := [29]) (by kernel_rfl) (by simp) ?_
    refine AllReadyH.cons rfl (fun K hK => ?_) AllReadyH.nil
    have hOld := hHeld; clear hHeld
    go_simp
    (go_at_call 11; (with_reducible refine (k9 _).mono ?_); rintro e w1 ⟨rfl, hM⟩)
    (try go_wp2_with (fail))
    refine hK.out _ _ ⟨(by first | exact mv_cell hM (by first | (dsimp only; omega) | (simp; omega)) hOld.1 | exact cell_later hM hOld.1 | exact HT.cb | exact HT.cc | (simp (maxDischargeDepth := 6) [go_sem, *]; done)), (by first | exact mv_cell hM (by first | (dsimp only; omega) | (simp; omega)) hOld.2.1 | exact cell_later hM hOld.2.1 | exact HT.cb | exact HT.cc | (simp (maxDischargeDepth := 6) [go_sem, *]; done)), (by first | exact mv_cell hM (by first | (dsimp only; omega) | (simp; omega)) hOld.2.2.1 | exact cell_later hM hOld.2.2.1 | exact HT.cb | exact HT.cc | (simp (maxDischargeDepth := 6) [go_sem, *]; done)), (by first | exact mv_cell hM (by first | (dsimp only; omega) | (simp; omega)) hOld.2.2.2.1 | exact cell_later hM hOld.2.2.2.1 | exact HT.cb | exact HT.cc | (simp (maxDischargeDepth := 6) [go_sem, *]; done)), (by first | exact mv_cell hM (by first | (dsimp only; omega) | (simp; omega)) hOld.2.2.2.2.1 | exact cell_later hM hOld.2.2.2.2.1 | exact HT.cb | exact HT.cc | (simp (maxDischargeDepth := 6) [go_sem, *]; done)), (by first | exact mv_cell hM (by first | (dsimp only; omega) | (simp; omega)) hOld.2.2.2.2.2.1 | exact cell_later hM hOld.2.2.2.2.2.1 | exact HT.cb | exact HT.cc | (simp (maxDischargeDepth := 6) [go_sem, *]; done)), (by first | exact mv_cell hM (by first | (dsimp only; omega) | (simp; omega)) hOld.2.2.2.2.2.2.1 | exact cell_later hM hOld.2.2.2.2.2.2.1 | exact HT.cb | exact HT.cc | (simp (maxDischargeDepth := 6) [go_sem, *]; done)), (by first | exact mv_cell hM (by first | (dsimp only; omega) | (simp; omega)) hOld.2.2.2.2.2.2.2.1 | exact cell_later hM hOld.2.2.2.2.2.2.2.1 | exact HT.cb | exact HT.cc | (simp (maxDischargeDepth := 6) [go_sem, *]; done)), (by first | exact mv_cell hM (by first | (dsimp only; omega) | (simp; omega)) hOld.2.2.2.2.2.2.2.2.1 | exact cell_later hM hOld.2.2.2.2.2.2.2.2.1 | exact HT.cb | exact HT.cc | (simp (maxDischargeDepth := 6) [go_sem, *]; done)), (by first | exact mv_cell hM (by first | (dsimp only; omega) | (simp; omega)) hOld.2.2.2.2.2.2.2.2.2.1 | exact cell_later hM hOld.2.2.2.2.2.2.2.2.2.1 | exact HT.cb | exact HT.cc | (simp (maxDischargeDepth := 6) [go_sem, *]; done)), (by first | exact mv_cell hM (by first | (dsimp only; omega) | (simp; omega)) hOld.2.2.2.2.2.2.2.2.2.2.1 | exact cell_later hM hOld.2.2.2.2.2.2.2.2.2.2.1 | exact HT.cb | exact HT.cc | (simp (maxDischargeDepth := 6) [go_sem, *]; done)), (by first | exact mv_cell hM (by first | (dsimp only; omega) | (simp; omega)) hOld.2.2.2.2.2.2.2.2.2.2.2 | exact cell_later hM hOld.2.2.2.2.2.2.2.2.2.2.2 | exact HT.cb | exact HT.cc | (simp (maxDischargeDepth := 6) [go_sem, *]; done))⟩ (fun hHeld => ?_)
    clear hK K hOld
    try simp only [Act.put, List.setIfInBounds_toArray, List.set_cons_zero, List.set_cons_succ]
    have HB := below_step HB hM
    refine wpAnyH_take (i := 30) (v := ?_) (by simp only [List.getElem?_toArray, List.getElem?_cons_succ, List.getElem?_cons_zero]; rfl) (by kernel_rfl) (by kernel_rfl) (by kernel_rfl) (fun _ _ _ h => h) (Or.inl ⟨by rfl, ?_⟩) (by assumption) ?_
    rotate_left
    · intro w hSw; (try dsimp only at hSw); go_simp; try with_reducible rfl
    try simp only [Act.put, List.setIfInBounds_toArray, List.set_cons_zero, List.set_cons_succ]
    refine wpAnyH_take (i := 31) (v := ?_) (by simp only [List.getElem?_toArray, List.getElem?_cons_succ, List.getElem?_cons_zero]; rfl) (by kernel_rfl) (by kernel_rfl) (by kernel_rfl) (fun _ _ _ h => h) (Or.inl ⟨by rfl, ?_⟩) (by assumption) ?_
    rotate_left
    · intro w hSw; (try dsimp only at hSw); go_simp; try with_reducible rfl
    try simp only [Act.put, List.setIfInBounds_toArray, List.set_cons_zero, List.set_cons_succ]
    refine wpAnyH_take (i := 32) (v := ?_) (by simp only [List.getElem?_toArray, List.getElem?_cons_succ, List.getElem?_cons_zero]; rfl) (by kernel_rfl) (by kernel_rfl) (by kernel_rfl) (fun _ _ _ h => h) (Or.inl ⟨by rfl, ?_⟩) (by assumption) ?_
    rotate_left
    · intro w hSw; (try dsimp only at hSw); go_simp; try with_reducible rfl
    try simp only [Act.put, List.setIfInBounds_toArray, List.set_cons_zero, List.set_cons_succ]
    refine wpAnyH_ready (rs := [33]) (by kernel_rfl) (by simp) ?_
    refine AllReadyH.cons rfl (fun K hK => ?_) AllReadyH.nil
    have hOld := hHeld; clear hHeld
    go_simp
    (go_at_call 12; (with_reducible refine (cAwake9 _).mono ?_); rintro e w1 ⟨rfl, hM⟩)
    (try go_wp2_with (fail))
    refine hK.out _ _ ⟨(by first | exact mv_cell hM (by first | (dsimp only; omega) | (simp; omega)) hOld.1 | exact cell_later hM hOld.1 | exact HT.cb | exact HT.cc | (simp (maxDischargeDepth := 6) [go_sem, *]; done)), (by first | exact mv_cell hM (by first | (dsimp only; omega) | (simp; omega)) hOld.2.1 | exact cell_later hM hOld.2.1 | exact HT.cb | exact HT.cc | (simp (maxDischargeDepth := 6) [go_sem, *]; done)), (by first | exact mv_cell hM (by first | (dsimp only; omega) | (simp; omega)) hOld.2.2.1 | exact cell_later hM hOld.2.2.1 | exact HT.cb | exact HT.cc | (simp (maxDischargeDepth := 6) [go_sem, *]; done)), (by first | exact mv_cell hM (by first | (dsimp only; omega) | (simp; omega)) hOld.2.2.2.1 | exact cell_later hM hOld.2.2.2.1 | exact HT.cb | exact HT.cc | (simp (maxDischargeDepth := 6) [go_sem, *]; done)), (by first | exact mv_cell hM (by first | (dsimp only; omega) | (simp; omega)) hOld.2.2.2.2.1 | exact cell_later hM hOld.2.2.2.2.1 | exact HT.cb | exact HT.cc | (simp (maxDischargeDepth := 6) [go_sem, *]; done)), (by first | exact mv_cell hM (by first | (dsimp only; omega) | (simp; omega)) hOld.2.2.2.2.2.1 | exact cell_later hM hOld.2.2.2.2.2.1 | exact HT.cb | exact HT.cc | (simp (maxDischargeDepth := 6) [go_sem, *]; done)), (by first | exact mv_cell hM (by first | (dsimp only; omega) | (simp; omega)) hOld.2.2.2.2.2.2.1 | exact cell_later hM hOld.2.2.2.2.2.2.1 | exact HT.cb | exact HT.cc | (simp (maxDischargeDepth := 6) [go_sem, *]; done)), (by first | exact mv_cell hM (by first | (dsimp only; omega) | (simp; omega)) hOld.2.2.2.2.2.2.2.1 | exact cell_later hM hOld.2.2.2.2.2.2.2.1 | exact HT.cb | exact HT.cc | (simp (maxDischargeDepth := 6) [go_sem, *]; done)), (by first | exact mv_cell hM (by first | (dsimp only; omega) | (simp; omega)) hOld.2.2.2.2.2.2.2.2.1 | exact cell_later hM hOld.2.2.2.2.2.2.2.2.1 | exact HT.cb | exact HT.cc | (simp (maxDischargeDepth := 6) [go_sem, *]; done)), (by first | exact mv_cell hM (by first | (dsimp only; omega) | (simp; omega)) hOld.2.2.2.2.2.2.2.2.2.1 | exact cell_later hM hOld.2.2.2.2.2.2.2.2.2.1 | exact HT.cb | exact HT.cc | (simp (maxDischargeDepth := 6) [go_sem, *]; done)), (by first | exact mv_cell hM (by first | (dsimp only; omega) | (simp; omega)) hOld.2.2.2.2.2.2.2.2.2.2.1 | exact cell_later hM hOld.2.2.2.2.2.2.2.2.2.2.1 | exact HT.cb | exact HT.cc | (simp (maxDischargeDepth := 6) [go_sem, *]; done)), (by first | exact mv_cell hM (by first | (dsimp only; omega) | (simp; omega)) hOld.2.2.2.2.2.2.2.2.2.2.2 | exact cell_later hM hOld.2.2.2.2.2.2.2.2.2.2.2 | exact HT.cb | exact HT.cc | (simp (maxDischargeDepth := 6) [go_sem, *]; done))⟩ (fun hHeld => ?_)
    clear hK K hOld
    try simp only [Act.put, List.setIfInBounds_toArray, List.set_cons_zero, List.set_cons_succ]
    have HB := below_step HB hM
    refine wpAnyH_take (i := 34) (v := ?_) (by simp only [List.getElem?_toArray, List.getElem?_cons_succ, List.getElem?_cons_zero]; rfl) (by kernel_rfl) (by kernel_rfl) (by kernel_rfl) (fun _ _ _ h => h) (Or.inl ⟨by rfl, ?_⟩) (by assumption) ?_
    rotate_left
    · intro w hSw; (try dsimp only at hSw); go_simp; try with_reducible rfl
    try simp only [Act.put, List.setIfInBounds_toArray, List.set_cons_zero, List.set_cons_succ]
    refine wpAnyH_take (i := 35) (v := ?_) (by simp only [List.getElem?_toArray, List.getElem?_cons_succ, List.getElem?_cons_zero]; rfl) (by kernel_rfl) (by kernel_rfl) (by kernel_rfl) (fun _ _ _ h => h) (Or.inl ⟨by rfl, ?_⟩) (by assumption) ?_
    rotate_left
    · intro w hSw; (try dsimp only at hSw); go_simp; try with_reducible rfl
    try simp only [Act.put, List.setIfInBounds_toArray, List.set_cons_zero, List.set_cons_succ]
    refine wpAnyH_done (by kernel_rfl) ?_ _
    (try refine NoPanic.normal ?_)
    (try clear q0); (try clear q1); (try clear q2); (try clear q3); (try clear q4); (try clear q5); (try clear q6); (try clear q7); (try clear q8); (try clear q9); (try clear q10); (try clear q11); obtain ⟨q0, q1, q2, q3, q4, q5, q6, q7, q8, q9, q10, q11⟩ := hHeld
    go_wp2
    go_ret
    exact ⟨rfl, by first | exact HB | (repeat (first | with_reducible assumption | with_reducible exact Below.refl _ _ | ((with_reducible refine Below.setCell ?_ ?_ _); rotate_left; (first | exact Nat.le_refl _ | (dsimp only; omega) | (simp; done) | (simp; omega))) | with_reducible refine below_alloc ?_ _ | with_reducible apply below_drewN | with_reducible apply Below.drew | with_reducible refine below_step ?_ (by assumption)))⟩
end Go.Proofs.Ytgdoaibgcjdklaa
