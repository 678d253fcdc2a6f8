/- The walk of BumpTurns. -/
import Derived.Test.YtgdoaibgcjdklaaN7
import Derived.Test.YtgdoaibgcjdklaaN8
import Derived.Test.YtgdoaibgcjdklaaW5
set_option linter.unusedSimpArgs false
set_option linter.unusedVariables false
namespace Go.Proofs.Ytgdoaibgcjdklaa
open Go.RowKit
theorem uq_bd (x n : Int) : -9223372036854775808 ≤ uq x n ∧ uq x n ≤ 9223372036854775807 := by
  unfold uq; split
  · decide
  · exact fq_lo x n
theorem cPlain9M (ax ay vx vy s m : Int) (b : Nat) (o : Bool) (w : World) (hc : w.cell? ⟨b, 0, none⟩ = some (.bool o)) (hf : w.frozen? ⟨b, 0, none⟩ = false) : Calls Try.prog 9 #[.agg #[.int .i64 ax, .int .i64 ay, .int .i64 vx, .int .i64 vy, .int .i64 s, .int .i64 m]] w fun e w' => e = .returned (.agg #[.int .i64 ax, .int .i64 ay, .int .i64 vx, .int .i64 vy, .int .i64 s, .int .i64 m]) ∧ Mv b (o || !true) w w' :=
  (cPlain9 ax ay vx vy s m w).mono fun _ _ ⟨h1, h2⟩ => ⟨h1, Mv.cast (Mv.below (Mv.refl hc hf) h2) (by cases o <;> rfl)⟩
theorem or3 (o a b c : Bool) : (o || !a || !b || c) = (o || !(a && b && !c)) := by cases o <;> cases a <;> cases b <;> cases c <;> rfl
/-- Both Bumps answer alike, whatever they are handed. -/
theorem bumps (ax ay vx vy s1 m1 bx bY wx wy s2 m2 bo : Int) (s1_0 : -9223372036854775808 ≤ s1) (s1_1 : s1 ≤ 9223372036854775807) (m1_0 : -9223372036854775808 ≤ m1) (m1_1 : m1 ≤ 9223372036854775807) (s2_0 : -9223372036854775808 ≤ s2) (s2_1 : s2 ≤ 9223372036854775807) (m2_0 : -9223372036854775808 ≤ m2) (m2_1 : m2 ≤ 9223372036854775807) (bo_0 : -9223372036854775808 ≤ bo) (bo_1 : bo ≤ 9223372036854775807) : ∃ (p1 p2 q1 q2 : Int) (z f : Bool),
    (∀ (b : Nat) (o : Bool) (w : World), w.cell? ⟨b, 0, none⟩ = some (.bool o) → w.frozen? ⟨b, 0, none⟩ = false →
      Calls Try.prog 13 #[.pointer (some ⟨b, 0, none⟩), .agg #[.int .i64 ax, .int .i64 ay, .int .i64 vx, .int .i64 vy, .int .i64 s1, .int .i64 m1], .agg #[.int .i64 bx, .int .i64 bY, .int .i64 wx, .int .i64 wy, .int .i64 s2, .int .i64 m2], .int .i64 bo] w fun e w' => e = .returned (.tuple #[.agg #[.int .i64 p1, .int .i64 p2], .agg #[.int .i64 q1, .int .i64 q2], .bool z]) ∧ Mv b (o || !f) w w') ∧
    (∀ (b : Nat) (o : Bool) (w : World), w.cell? ⟨b, 0, none⟩ = some (.bool o) → w.frozen? ⟨b, 0, none⟩ = false →
      Calls Try.prog 14 #[.pointer (some ⟨b, 0, none⟩), .agg #[.int .i64 ax, .int .i64 ay, .int .i64 vx, .int .i64 vy, .int .i64 s1, .int .i64 m1], .agg #[.int .i64 bx, .int .i64 bY, .int .i64 wx, .int .i64 wy, .int .i64 s2, .int .i64 m2], .int .i64 bo] w fun e w' => e = .returned (.tuple #[.agg #[.int .i64 p1, .int .i64 p2], .agg #[.int .i64 q1, .int .i64 q2], .bool z]) ∧ Mv b (o || !f) w w') := by
  cases h : (drt ax ay vx vy s1 m1 && drt bx bY wx wy s2 m2 && (decide (0 ≤ bo) && decide (bo ≤ 4294967296))) with
  | false =>
    refine ⟨vx, vy, wx, wy, false, true, fun b o w hc hf => ?_, fun b o w hc hf => ?_⟩
    · exact (cBumpN ax ay vx vy s1 m1 bx bY wx wy s2 m2 bo b o w s1_0 s1_1 m1_0 m1_1 s2_0 s2_1 m2_0 m2_1 bo_0 bo_1 h hc hf).mono fun _ _ ⟨h1, h2⟩ => ⟨h1, Mv.cast h2 (by cases o <;> rfl)⟩
    · exact (r9BumpN ax ay vx vy s1 m1 bx bY wx wy s2 m2 bo b o w s1_0 s1_1 m1_0 m1_1 s2_0 s2_1 m2_0 m2_1 bo_0 bo_1 h hc hf).mono fun _ _ ⟨h1, h2⟩ => ⟨h1, Mv.cast h2 (by cases o <;> rfl)⟩
  | true =>
    simp only [Bool.and_eq_true, decide_eq_true_eq] at h
    obtain ⟨⟨h1, h2⟩, h3, h4⟩ := h
    obtain ⟨ux, eux⟩ : ∃ v, uq (sat (bx - ax)) (sqs (sat (bx - ax)) (sat (bY - ay))) = v := ⟨_, rfl⟩
    obtain ⟨uy, euy⟩ : ∃ v, uq (sat (bY - ay)) (sqs (sat (bx - ax)) (sat (bY - ay))) = v := ⟨_, rfl⟩
    obtain ⟨n, en⟩ : ∃ v, sqs (sat (bx - ax)) (sat (bY - ay)) = v := ⟨_, rfl⟩
    obtain ⟨t, et⟩ : ∃ v, tou n s1 s2 = v := ⟨_, rfl⟩
    have u0 := uq_bd (sat (bx - ax)) (sqs (sat (bx - ax)) (sat (bY - ay)))
    have u2 := uq_bd (sat (bY - ay)) (sqs (sat (bx - ax)) (sat (bY - ay)))
    rw [eux] at u0; rw [euy] at u2
    have k1 := fun b o w hc hf => cBumpY ax ay vx vy s1 m1 bx bY wx wy s2 m2 bo b o w h1 h2 h3 h4 ux uy n t eux euy en et u0.1 u0.2 u2.1 u2.2 hc hf
    have k2 := fun b o w hc hf => r9BumpY ax ay vx vy s1 m1 bx bY wx wy s2 m2 bo b o w h1 h2 h3 h4 ux uy n t eux euy en et u0.1 u0.2 u2.1 u2.2 hc hf
    clear eux euy en et
    generalize (t && decide (0 < bcl ux uy vx vy wx wy)) = g at *
    cases g with
    | true =>
      simp only [if_true] at k1 k2
      exact ⟨_, _, _, _, _, _, fun b o w hc hf => (k1 b o w hc hf).mono fun _ _ ⟨h1, h2⟩ => ⟨h1, Mv.cast h2 (or3 _ _ _ _)⟩, fun b o w hc hf => (k2 b o w hc hf).mono fun _ _ ⟨h1, h2⟩ => ⟨h1, Mv.cast h2 (or3 _ _ _ _)⟩⟩
    | false =>
      simp only [Bool.false_eq_true, if_false] at k1 k2
      exact ⟨_, _, _, _, _, _, fun b o w hc hf => (k1 b o w hc hf).mono fun _ _ ⟨h1, h2⟩ => ⟨h1, Mv.cast h2 (or3 _ _ _ _)⟩, fun b o w hc hf => (k2 b o w hc hf).mono fun _ _ ⟨h1, h2⟩ => ⟨h1, Mv.cast h2 (or3 _ _ _ _)⟩⟩
set_option maxHeartbeats 8000000 in
set_option maxRecDepth 20000 in
theorem walk_BumpTurns (ax ay vx vy s1 m1 bx bY wx wy s2 m2 bo : Int) (w : World) (ax_0 : -9223372036854775808 ≤ ax) (ax_1 : ax ≤ 9223372036854775807) (ay_0 : -9223372036854775808 ≤ ay) (ay_1 : ay ≤ 9223372036854775807) (vx_0 : -9223372036854775808 ≤ vx) (vx_1 : vx ≤ 9223372036854775807) (vy_0 : -9223372036854775808 ≤ vy) (vy_1 : vy ≤ 9223372036854775807) (s1_0 : -9223372036854775808 ≤ s1) (s1_1 : s1 ≤ 9223372036854775807) (m1_0 : -9223372036854775808 ≤ m1) (m1_1 : m1 ≤ 9223372036854775807) (bx_0 : -9223372036854775808 ≤ bx) (bx_1 : bx ≤ 9223372036854775807) (bY_0 : -9223372036854775808 ≤ bY) (bY_1 : bY ≤ 9223372036854775807) (wx_0 : -9223372036854775808 ≤ wx) (wx_1 : wx ≤ 9223372036854775807) (wy_0 : -9223372036854775808 ≤ wy) (wy_1 : wy ≤ 9223372036854775807) (s2_0 : -9223372036854775808 ≤ s2) (s2_1 : s2 ≤ 9223372036854775807) (m2_0 : -9223372036854775808 ≤ m2) (m2_1 : m2 ≤ 9223372036854775807) (bo_0 : -9223372036854775808 ≤ bo) (bo_1 : bo ≤ 9223372036854775807) :
    Calls Try.prog 4 #[.agg #[.int .i64 ax, .int .i64 ay, .int .i64 vx, .int .i64 vy, .int .i64 s1, .int .i64 m1], .agg #[.int .i64 bx, .int .i64 bY, .int .i64 wx, .int .i64 wy, .int .i64 s2, .int .i64 m2], .int .i64 bo] w fun e w' => e = .returned (.bool true) ∧ Below w.heap.size w w' := by
  obtain ⟨p1, p2, q1, q2, z, f, k1, k2⟩ := bumps ax ay vx vy s1 m1 bx bY wx wy s2 m2 bo s1_0 s1_1 m1_0 m1_1 s2_0 s2_1 m2_0 m2_1 bo_0 bo_1
  have kP1 := fun W => cPlain9 ax ay vx vy s1 m1 W
  have kP2 := fun W => cPlain9 bx bY wx wy s2 m2 W
  go_enter Try.func4, Try.ntmps4
  go_wp2_with (fail)
  (go_at_call 13; (with_reducible refine (k1 _ false _ (by simp [go_sem, *]) (by simp [go_sem, *])).mono ?_); rintro e w1 ⟨rfl, hM⟩; have HT := Tw.start (w := w) (c := w.heap.size + 1 + 1 + 1) (p := false) (by (repeat (first | with_reducible assumption | with_reducible exact Below.refl _ _ | ((with_reducible refine Below.setCell ?_ ?_ _); rotate_left; (first | exact Nat.le_refl _ | (dsimp only; omega) | (simp; done) | (simp; omega))) | with_reducible refine below_alloc ?_ _ | with_reducible apply below_drewN | with_reducible apply Below.drew | with_reducible refine below_step ?_ (by assumption)))) hM (by omega) (by omega) (by omega) (by simp [go_sem, *]) (by simp [go_sem, *]))
  have A : Bk (w.heap.size) 0 [.int .i64 ax, .int .i64 ay, .int .i64 vx, .int .i64 vy, .int .i64 s1, .int .i64 m1] w1 := Bk.mv hM (by omega) (by simp [Bk, go_sem]; done)
  have B : Bk (w.heap.size + 1) 0 [.int .i64 bx, .int .i64 bY, .int .i64 wx, .int .i64 wy, .int .i64 s2, .int .i64 m2] w1 := Bk.mv hM (by omega) (by simp [Bk, go_sem]; done)
  rename World => g
  have hzg : w.heap.size + 1 + 1 + 1 < g.heap.size := World.block_lt_of_cell? g _ HT.cc
  clear hM k1
  go_upto_region 4 with (fail)
  generalize hW : World.alloc _ _ = W
  have U : Bk g.heap.size 0 [.int .i64 p1, .int .i64 p2] W := by rw [← hW]; simp [Bk, go_sem]
  have V : Bk (g.heap.size + 1) 0 [.int .i64 q1, .int .i64 q2] W := by rw [← hW]; simp [Bk, go_sem]
  have A : Bk (w.heap.size) 0 [.int .i64 ax, .int .i64 ay, .int .i64 vx, .int .i64 vy, .int .i64 s1, .int .i64 m1] W := by rw [← hW]; exact Bk.alloc (Bk.alloc A _) _
  have B : Bk (w.heap.size + 1) 0 [.int .i64 bx, .int .i64 bY, .int .i64 wx, .int .i64 wy, .int .i64 s2, .int .i64 m2] W := by rw [← hW]; exact Bk.alloc (Bk.alloc B _) _
  have HT : Tw (w.heap.size + 1 + 1) (w.heap.size + 1 + 1 + 1) (false || !f) false w W := by rw [← hW]; exact Tw.alloc (Tw.alloc HT _) _
  have hzW := World.block_lt_of_cell? W _ V.1
  dsimp only at hzW
  clear hW
  go_cut [12, 13, 14] (fun p q y wx => ∃ g0 g1 : Nat, p = .pointer (some ⟨g0, 0, none⟩) ∧ q = .pointer (some ⟨g1, 0, none⟩) ∧ y = .bool z ∧ Tw (w.heap.size + 1 + 1) (w.heap.size + 1 + 1 + 1) (false || !f) (false || !f) w wx ∧
    (Bk g0 0 [.int .i64 p1, .int .i64 p2] wx ∧ Bk g1 0 [.int .i64 q1, .int .i64 q2] wx) ∧ Bk g.heap.size 0 [.int .i64 p1, .int .i64 p2] wx ∧ Bk (g.heap.size + 1) 0 [.int .i64 q1, .int .i64 q2] wx)
  case first =>
    (try refine wp_region_noPanic ?_)
    refine wp_region_held_drew (S := (fun (w' : World) => Bk w.heap.size 0 [.int .i64 ax, .int .i64 ay, .int .i64 vx, .int .i64 vy, .int .i64 s1, .int .i64 m1] w' ∧ Bk (w.heap.size + 1) 0 [.int .i64 bx, .int .i64 bY, .int .i64 wx, .int .i64 wy, .int .i64 s2, .int .i64 m2] w' ∧ Bk g.heap.size 0 [.int .i64 p1, .int .i64 p2] w' ∧ Bk (g.heap.size + 1) 0 [.int .i64 q1, .int .i64 q2] w')) (by kernel_rfl) ⟨by (repeat (first | with_reducible assumption | with_reducible apply Bk.drew | with_reducible apply Bk.alloc | with_reducible apply Bk.later (hB := hR) | with_reducible apply Bk.later (hB := hM) | ((with_reducible apply Bk.mv hM); (focus omega)) | ((with_reducible apply Bk.later); rotate_left; (with_reducible assumption)) | ((with_reducible apply Bk.put); rotate_left; (first | (dsimp only; omega))))), by (repeat (first | with_reducible assumption | with_reducible apply Bk.drew | with_reducible apply Bk.alloc | with_reducible apply Bk.later (hB := hR) | with_reducible apply Bk.later (hB := hM) | ((with_reducible apply Bk.mv hM); (focus omega)) | ((with_reducible apply Bk.later); rotate_left; (with_reducible assumption)) | ((with_reducible apply Bk.put); rotate_left; (first | (dsimp only; omega))))), by (repeat (first | with_reducible assumption | with_reducible apply Bk.drew | with_reducible apply Bk.alloc | with_reducible apply Bk.later (hB := hR) | with_reducible apply Bk.later (hB := hM) | ((with_reducible apply Bk.mv hM); (focus omega)) | ((with_reducible apply Bk.later); rotate_left; (with_reducible assumption)) | ((with_reducible apply Bk.put); rotate_left; (first | (dsimp only; omega))))), by (repeat (first | with_reducible assumption | with_reducible apply Bk.drew | with_reducible apply Bk.alloc | with_reducible apply Bk.later (hB := hR) | with_reducible apply Bk.later (hB := hM) | ((with_reducible apply Bk.mv hM); (focus omega)) | ((with_reducible apply Bk.later); rotate_left; (with_reducible assumption)) | ((with_reducible apply Bk.put); rotate_left; (first | (dsimp only; omega)))))⟩ (fun hHeld => ?_)
    refine wpAnyH_take (i := 0) (v := ?_) (by simp only [List.getElem?_toArray, List.getElem?_cons_succ, List.getElem?_cons_zero]; rfl) (by kernel_rfl) (by kernel_rfl) (by kernel_rfl) (fun _ _ _ h => h) (Or.inl ⟨by rfl, ?_⟩) (by assumption) ?_
    rotate_left
    · intro w hSw; (try dsimp only at hSw); simp only [Bk] at hSw; go_simp; try with_reducible rfl
    try simp only [Act.put, List.setIfInBounds_toArray, List.set_cons_zero, List.set_cons_succ]
    refine wpAnyH_take (i := 5) (v := ?_) (by simp only [List.getElem?_toArray, List.getElem?_cons_succ, List.getElem?_cons_zero]; rfl) (by kernel_rfl) (by kernel_rfl) (by kernel_rfl) (fun _ _ _ h => h) (Or.inl ⟨by rfl, ?_⟩) (by assumption) ?_
    rotate_left
    · intro w hSw; (try dsimp only at hSw); simp only [Bk] at hSw; go_simp; try with_reducible rfl
    try simp only [Act.put, List.setIfInBounds_toArray, List.set_cons_zero, List.set_cons_succ]
    refine wpAnyH_take (i := 1) (v := ?_) (by simp only [List.getElem?_toArray, List.getElem?_cons_succ, List.getElem?_cons_zero]; rfl) (by kernel_rfl) (by kernel_rfl) (by kernel_rfl) (fun _ _ _ h => h) (Or.inl ⟨by rfl, ?_⟩) (by assumption) ?_
    rotate_left
    · intro w hSw; (try dsimp only at hSw); simp only [Bk] at hSw; go_simp; try with_reducible rfl
    try simp only [Act.put, List.setIfInBounds_toArray, List.set_cons_zero, List.set_cons_succ]
    refine wpAnyH_take (i := 3) (v := ?_) (by simp only [List.getElem?_toArray, List.getElem?_cons_succ, List.getElem?_cons_zero]; rfl) (by kernel_rfl) (by kernel_rfl) (by kernel_rfl) (fun _ _ _ h => h) (Or.inl ⟨by rfl, ?_⟩) (by assumption) ?_
    rotate_left
    · intro w hSw; (try dsimp only at hSw); simp only [Bk] at hSw; go_simp; try with_reducible rfl
    try simp only [Act.put, List.setIfInBounds_toArray, List.set_cons_zero, List.set_cons_succ]
    refine wpAnyH_ready (rs := [2, 11, 12]) (by kernel_rfl) (by simp) ?_
    refine AllReadyH.cons rfl (fun K hK => ?_) ?_
    · have hOld := hHeld; clear hHeld
      have B0 := hOld.1
      have B1 := hOld.2.1
      have B2 := hOld.2.2.1
      have B3 := hOld.2.2.2
      go_simp
      (go_at_call 9; (with_reducible refine (kP1 _).mono ?_); rintro e wz1 ⟨rfl, hR⟩)
      have hRwz1 := hR
      have hzR := hR.size
      (try simp at hzR)
      (try go_wp2_with (fail))
      refine hK.out _ _ (by refine ⟨?_, ?_, ?_, ?_⟩ <;> (repeat (first | with_reducible (first | assumption | apply Bk.drew | apply Bk.alloc | apply Bk.later (hB := hRwz1)) | ((with_reducible apply Bk.mv hRwz1); (focus omega)) | ((with_reducible apply Bk.later); rotate_left; (with_reducible assumption)) | ((with_reducible apply Bk.put); rotate_left; (first | (dsimp only; omega)))))) (fun hHeld => ?_)
      clear hK K hOld B0 B1 B2 B3
      try simp only [Act.put, List.setIfInBounds_toArray, List.set_cons_zero, List.set_cons_succ]
      refine wpAnyH_ready (rs := [4, 11, 12]) (by kernel_rfl) (by simp) ?_
      refine AllReadyH.cons rfl (fun K hK => ?_) ?_
      · have hOld := hHeld; clear hHeld
        have B0 := hOld.1
        have B1 := hOld.2.1
        have B2 := hOld.2.2.1
        have B3 := hOld.2.2.2
        go_simp
        (go_at_call 9; (with_reducible refine (kP2 _).mono ?_); rintro e wz2 ⟨rfl, hR⟩)
        have hRwz2 := hR
        have hzR := hR.size
        (try simp at hzR)
        (try go_wp2_with (fail))
        refine hK.out _ _ (by refine ⟨?_, ?_, ?_, ?_⟩ <;> (repeat (first | with_reducible (first | assumption | apply Bk.drew | apply Bk.alloc | apply Bk.later (hB := hRwz2) | apply Bk.later (hB := hRwz1)) | ((with_reducible apply Bk.mv hRwz2); (focus omega)) | ((with_reducible apply Bk.mv hRwz1); (focus omega)) | ((with_reducible apply Bk.later); rotate_left; (with_reducible assumption)) | ((with_reducible apply Bk.put); rotate_left; (first | (dsimp only; omega)))))) (fun hHeld => ?_)
        clear hK K hOld B0 B1 B2 B3
        try simp only [Act.put, List.setIfInBounds_toArray, List.set_cons_zero, List.set_cons_succ]
        refine wpAnyH_ready (rs := [6, 11, 12]) (by kernel_rfl) (by simp) ?_
        refine AllReadyH.cons rfl (fun K hK => ?_) ?_
        · have hOld := hHeld; clear hHeld
          have B0 := hOld.1
          have B1 := hOld.2.1
          have B2 := hOld.2.2.1
          have B3 := hOld.2.2.2
          go_simp
          (go_at_call 14; (with_reducible refine (Tw.call2 (by (repeat (first | with_reducible assumption | with_reducible apply Tw.alloc | with_reducible apply Tw.drew | ((with_reducible apply Tw.after); rotate_left; (with_reducible assumption)) | ((with_reducible apply Tw.setCell); rotate_left; (first | (dsimp only; omega) | omega | (simp; omega)); (first | (dsimp only; omega) | omega | (simp; omega)); (first | (dsimp only; omega) | omega | (simp; omega)))))) (k2 _ _ _)).mono ?_); rintro e wz3 ⟨rfl, hR, HT⟩)
          have hRwz3 := hR
          have hzR := hR.size
          (try simp at hzR)
          (try go_wp2_with (fail))
          refine hK.out _ _ (by refine ⟨?_, ?_, ?_, ?_⟩ <;> (repeat (first | with_reducible (first | assumption | apply Bk.drew | apply Bk.alloc | apply Bk.later (hB := hRwz3) | apply Bk.later (hB := hRwz2) | apply Bk.later (hB := hRwz1)) | ((with_reducible apply Bk.mv hRwz3); (focus omega)) | ((with_reducible apply Bk.mv hRwz2); (focus omega)) | ((with_reducible apply Bk.mv hRwz1); (focus omega)) | ((with_reducible apply Bk.later); rotate_left; (with_reducible assumption)) | ((with_reducible apply Bk.put); rotate_left; (first | (dsimp only; omega)))))) (fun hHeld => ?_)
          clear hK K hOld B0 B1 B2 B3
          try simp only [Act.put, List.setIfInBounds_toArray, List.set_cons_zero, List.set_cons_succ]
          refine wpAnyH_take (i := 7) (v := ?_) (by simp only [List.getElem?_toArray, List.getElem?_cons_succ, List.getElem?_cons_zero]; rfl) (by kernel_rfl) (by kernel_rfl) (by kernel_rfl) (fun _ _ _ h => h) (Or.inl ⟨by rfl, ?_⟩) (by assumption) ?_
          rotate_left
          · intro w hSw; (try dsimp only at hSw); simp only [Bk] at hSw; go_simp; try with_reducible rfl
          try simp only [Act.put, List.setIfInBounds_toArray, List.set_cons_zero, List.set_cons_succ]
          refine wpAnyH_take (i := 8) (v := ?_) (by simp only [List.getElem?_toArray, List.getElem?_cons_succ, List.getElem?_cons_zero]; rfl) (by kernel_rfl) (by kernel_rfl) (by kernel_rfl) (fun _ _ _ h => h) (Or.inl ⟨by rfl, ?_⟩) (by assumption) ?_
          rotate_left
          · intro w hSw; (try dsimp only at hSw); simp only [Bk] at hSw; go_simp; try with_reducible rfl
          try simp only [Act.put, List.setIfInBounds_toArray, List.set_cons_zero, List.set_cons_succ]
          refine wpAnyH_take (i := 9) (v := ?_) (by simp only [List.getElem?_toArray, List.getElem?_cons_succ, List.getElem?_cons_zero]; rfl) (by kernel_rfl) (by kernel_rfl) (by kernel_rfl) (fun _ _ _ h => h) (Or.inl ⟨by rfl, ?_⟩) (by assumption) ?_
          rotate_left
          · intro w hSw; (try dsimp only at hSw); simp only [Bk] at hSw; go_simp; try with_reducible rfl
          try simp only [Act.put, List.setIfInBounds_toArray, List.set_cons_zero, List.set_cons_succ]
          refine wpAnyH_take (i := 10) (v := ?_) (by simp only [List.getElem?_toArray, List.getElem?_cons_succ, List.getElem?_cons_zero]; rfl) (by kernel_rfl) (by kernel_rfl) (by kernel_rfl) (fun _ _ _ h => h) (Or.inl ⟨by rfl, ?_⟩) (by assumption) ?_
          rotate_left
          · intro w hSw; (try dsimp only at hSw); simp only [Bk] at hSw; go_simp; try with_reducible rfl
          try simp only [Act.put, List.setIfInBounds_toArray, List.set_cons_zero, List.set_cons_succ]
          refine wpAnyH_ready (rs := [11, 12]) (by kernel_rfl) (by simp) ?_
          refine AllReadyH.cons rfl (fun K hK => ?_) ?_
          · have hOld := hHeld; clear hHeld
            have B0 := hOld.1
            have B1 := hOld.2.1
            have B2 := hOld.2.2.1
            have B3 := hOld.2.2.2
            go_simp
            refine hK.out _ _ (by refine ⟨?_, ?_, ?_, ?_⟩ <;> (repeat (first | with_reducible (first | assumption | apply Bk.drew | apply Bk.alloc | apply Bk.later (hB := hRwz3) | apply Bk.later (hB := hRwz2) | apply Bk.later (hB := hRwz1)) | ((with_reducible apply Bk.mv hRwz3); (focus omega)) | ((with_reducible apply Bk.mv hRwz2); (focus omega)) | ((with_reducible apply Bk.mv hRwz1); (focus omega)) | ((with_reducible apply Bk.later); rotate_left; (with_reducible assumption)) | ((with_reducible apply Bk.put); rotate_left; (first | (dsimp only; omega)))))) (fun hHeld => ?_)
            clear hK K hOld B0 B1 B2 B3
            try simp only [Act.put, List.setIfInBounds_toArray, List.set_cons_zero, List.set_cons_succ]
            refine wpAnyH_ready (rs := [12]) (by kernel_rfl) (by simp) ?_
            refine AllReadyH.cons rfl (fun K hK => ?_) ?_
            · have hOld := hHeld; clear hHeld
              have B0 := hOld.1
              have B1 := hOld.2.1
              have B2 := hOld.2.2.1
              have B3 := hOld.2.2.2
              go_simp
              refine hK.out _ _ (by refine ⟨?_, ?_, ?_, ?_⟩ <;> (repeat (first | with_reducible (first | assumption | apply Bk.drew | apply Bk.alloc | apply Bk.later (hB := hRwz3) | apply Bk.later (hB := hRwz2) | apply Bk.later (hB := hRwz1)) | ((with_reducible apply Bk.mv hRwz3); (focus omega)) | ((with_reducible apply Bk.mv hRwz2); (focus omega)) | ((with_reducible apply Bk.mv hRwz1); (focus omega)) | ((with_reducible apply Bk.later); rotate_left; (with_reducible assumption)) | ((with_reducible apply Bk.put); rotate_left; (first | (dsimp only; omega)))))) (fun hHeld => ?_)
              clear hK K hOld B0 B1 B2 B3
              try simp only [Act.put, List.setIfInBounds_toArray, List.set_cons_zero, List.set_cons_succ]
              refine wpAnyH_ready (rs := [13]) (by kernel_rfl) (by simp) ?_
              refine AllReadyH.cons rfl (fun K hK => ?_) ?_
              · have hOld := hHeld; clear hHeld
                have B0 := hOld.1
                have B1 := hOld.2.1
                have B2 := hOld.2.2.1
                have B3 := hOld.2.2.2
                have G0 : Bk (wz3.heap.size) 0 [.int .i64 0, .int .i64 0] (((wz3).alloc (Obj.cells #[.int .i64 0, .int .i64 0] 24)).alloc (Obj.cells #[.int .i64 0, .int .i64 0] 24)) := by first | (simp [Bk, go_sem]; done) | (repeat (first | with_reducible (first | assumption | apply Bk.drew | apply Bk.alloc | apply Bk.later (hB := hRwz3) | apply Bk.later (hB := hRwz2) | apply Bk.later (hB := hRwz1)) | ((with_reducible apply Bk.mv hRwz3); (focus omega)) | ((with_reducible apply Bk.mv hRwz2); (focus omega)) | ((with_reducible apply Bk.mv hRwz1); (focus omega)) | ((with_reducible apply Bk.later); rotate_left; (with_reducible assumption)) | ((with_reducible apply Bk.put); rotate_left; (first | (dsimp only; omega)))))
                simp only [Bk] at G0
                have G1 : Bk (wz3.heap.size + 1) 0 [.int .i64 0, .int .i64 0] (((wz3).alloc (Obj.cells #[.int .i64 0, .int .i64 0] 24)).alloc (Obj.cells #[.int .i64 0, .int .i64 0] 24)) := by first | (simp [Bk, go_sem]; done) | (repeat (first | with_reducible (first | assumption | apply Bk.drew | apply Bk.alloc | apply Bk.later (hB := hRwz3) | apply Bk.later (hB := hRwz2) | apply Bk.later (hB := hRwz1)) | ((with_reducible apply Bk.mv hRwz3); (focus omega)) | ((with_reducible apply Bk.mv hRwz2); (focus omega)) | ((with_reducible apply Bk.mv hRwz1); (focus omega)) | ((with_reducible apply Bk.later); rotate_left; (with_reducible assumption)) | ((with_reducible apply Bk.put); rotate_left; (first | (dsimp only; omega)))))
                simp only [Bk] at G1
                have na01 : wz3.heap.size ≠ wz3.heap.size + 1 := by omega
                have nb01 := na01.symm
                go_simp
                refine hK.out _ _ (by refine ⟨?_, ?_, ?_, ?_⟩ <;> (repeat (first | with_reducible (first | assumption | apply Bk.drew | apply Bk.alloc | apply Bk.later (hB := hRwz3) | apply Bk.later (hB := hRwz2) | apply Bk.later (hB := hRwz1)) | ((with_reducible apply Bk.mv hRwz3); (focus omega)) | ((with_reducible apply Bk.mv hRwz2); (focus omega)) | ((with_reducible apply Bk.mv hRwz1); (focus omega)) | ((with_reducible apply Bk.later); rotate_left; (with_reducible assumption)) | ((with_reducible apply Bk.put); rotate_left; (first | (dsimp only; omega)))))) (fun hHeld => ?_)
                clear hK K hOld B0 B1 B2 B3
                try simp only [Act.put, List.setIfInBounds_toArray, List.set_cons_zero, List.set_cons_succ]
                refine wpAnyH_ready (rs := [14]) (by kernel_rfl) (by simp) ?_
                refine AllReadyH.cons rfl (fun K hK => ?_) ?_
                · have hOld := hHeld; clear hHeld
                  have B0 := hOld.1
                  have B1 := hOld.2.1
                  have B2 := hOld.2.2.1
                  have B3 := hOld.2.2.2
                  go_simp
                  refine hK.out _ _ (by refine ⟨?_, ?_, ?_, ?_⟩ <;> (repeat (first | with_reducible (first | assumption | apply Bk.drew | apply Bk.alloc | apply Bk.later (hB := hRwz3) | apply Bk.later (hB := hRwz2) | apply Bk.later (hB := hRwz1)) | ((with_reducible apply Bk.mv hRwz3); (focus omega)) | ((with_reducible apply Bk.mv hRwz2); (focus omega)) | ((with_reducible apply Bk.mv hRwz1); (focus omega)) | ((with_reducible apply Bk.later); rotate_left; (with_reducible assumption)) | ((with_reducible apply Bk.put); rotate_left; (first | (dsimp only; omega)))))) (fun hHeld => ?_)
                  clear hK K hOld B0 B1 B2 B3
                  try simp only [Act.put, List.setIfInBounds_toArray, List.set_cons_zero, List.set_cons_succ]
                  refine wpAnyH_take (i := 15) (v := ?_) (by simp only [List.getElem?_toArray, List.getElem?_cons_succ, List.getElem?_cons_zero]; rfl) (by kernel_rfl) (by kernel_rfl) (by kernel_rfl) (fun _ _ _ h => h) (Or.inl ⟨by rfl, ?_⟩) (by assumption) ?_
                  rotate_left
                  · intro w hSw; (try dsimp only at hSw); simp only [Bk] at hSw; go_simp; try with_reducible rfl
                  try simp only [Act.put, List.setIfInBounds_toArray, List.set_cons_zero, List.set_cons_succ]
                  refine wpAnyH_done (by kernel_rfl) ?_ _
                  (try refine NoPanic.normal ?_)
                  go_wp2
                  go_meet
                  exact ⟨_, _, rfl, rfl, rfl, by (repeat (first | with_reducible assumption | with_reducible apply Tw.alloc | with_reducible apply Tw.drew | ((with_reducible apply Tw.after); rotate_left; (with_reducible assumption)) | ((with_reducible apply Tw.setCell); rotate_left; (first | (dsimp only; omega) | omega | (simp; omega)); (first | (dsimp only; omega) | omega | (simp; omega)); (first | (dsimp only; omega) | omega | (simp; omega))))), by simp (maxDischargeDepth := 8) [Bk, go_sem, *], hHeld.2.2.1, hHeld.2.2.2⟩
                exact AllReadyH.nil
              exact AllReadyH.nil
            exact AllReadyH.nil
          refine AllReadyH.cons rfl (fun K hK => ?_) ?_
          · have hOld := hHeld; clear hHeld
            have B0 := hOld.1
            have B1 := hOld.2.1
            have B2 := hOld.2.2.1
            have B3 := hOld.2.2.2
            go_simp
            refine hK.out _ _ (by refine ⟨?_, ?_, ?_, ?_⟩ <;> (repeat (first | with_reducible (first | assumption | apply Bk.drew | apply Bk.alloc | apply Bk.later (hB := hRwz3) | apply Bk.later (hB := hRwz2) | apply Bk.later (hB := hRwz1)) | ((with_reducible apply Bk.mv hRwz3); (focus omega)) | ((with_reducible apply Bk.mv hRwz2); (focus omega)) | ((with_reducible apply Bk.mv hRwz1); (focus omega)) | ((with_reducible apply Bk.later); rotate_left; (with_reducible assumption)) | ((with_reducible apply Bk.put); rotate_left; (first | (dsimp only; omega)))))) (fun hHeld => ?_)
            clear hK K hOld B0 B1 B2 B3
            try simp only [Act.put, List.setIfInBounds_toArray, List.set_cons_zero, List.set_cons_succ]
            refine wpAnyH_ready (rs := [11]) (by kernel_rfl) (by simp) ?_
            refine AllReadyH.cons rfl (fun K hK => ?_) ?_
            · have hOld := hHeld; clear hHeld
              have B0 := hOld.1
              have B1 := hOld.2.1
              have B2 := hOld.2.2.1
              have B3 := hOld.2.2.2
              go_simp
              refine hK.out _ _ (by refine ⟨?_, ?_, ?_, ?_⟩ <;> (repeat (first | with_reducible (first | assumption | apply Bk.drew | apply Bk.alloc | apply Bk.later (hB := hRwz3) | apply Bk.later (hB := hRwz2) | apply Bk.later (hB := hRwz1)) | ((with_reducible apply Bk.mv hRwz3); (focus omega)) | ((with_reducible apply Bk.mv hRwz2); (focus omega)) | ((with_reducible apply Bk.mv hRwz1); (focus omega)) | ((with_reducible apply Bk.later); rotate_left; (with_reducible assumption)) | ((with_reducible apply Bk.put); rotate_left; (first | (dsimp only; omega)))))) (fun hHeld => ?_)
              clear hK K hOld B0 B1 B2 B3
              try simp only [Act.put, List.setIfInBounds_toArray, List.set_cons_zero, List.set_cons_succ]
              refine wpAnyH_ready (rs := [13]) (by kernel_rfl) (by simp) ?_
              refine AllReadyH.cons rfl (fun K hK => ?_) ?_
              · have hOld := hHeld; clear hHeld
                have B0 := hOld.1
                have B1 := hOld.2.1
                have B2 := hOld.2.2.1
                have B3 := hOld.2.2.2
                have G0 : Bk (wz3.heap.size + 1) 0 [.int .i64 0, .int .i64 0] (((wz3).alloc (Obj.cells #[.int .i64 0, .int .i64 0] 24)).alloc (Obj.cells #[.int .i64 0, .int .i64 0] 24)) := by first | (simp [Bk, go_sem]; done) | (repeat (first | with_reducible (first | assumption | apply Bk.drew | apply Bk.alloc | apply Bk.later (hB := hRwz3) | apply Bk.later (hB := hRwz2) | apply Bk.later (hB := hRwz1)) | ((with_reducible apply Bk.mv hRwz3); (focus omega)) | ((with_reducible apply Bk.mv hRwz2); (focus omega)) | ((with_reducible apply Bk.mv hRwz1); (focus omega)) | ((with_reducible apply Bk.later); rotate_left; (with_reducible assumption)) | ((with_reducible apply Bk.put); rotate_left; (first | (dsimp only; omega)))))
                simp only [Bk] at G0
                have G1 : Bk (wz3.heap.size) 0 [.int .i64 0, .int .i64 0] (((wz3).alloc (Obj.cells #[.int .i64 0, .int .i64 0] 24)).alloc (Obj.cells #[.int .i64 0, .int .i64 0] 24)) := by first | (simp [Bk, go_sem]; done) | (repeat (first | with_reducible (first | assumption | apply Bk.drew | apply Bk.alloc | apply Bk.later (hB := hRwz3) | apply Bk.later (hB := hRwz2) | apply Bk.later (hB := hRwz1)) | ((with_reducible apply Bk.mv hRwz3); (focus omega)) | ((with_reducible apply Bk.mv hRwz2); (focus omega)) | ((with_reducible apply Bk.mv hRwz1); (focus omega)) | ((with_reducible apply Bk.later); rotate_left; (with_reducible assumption)) | ((with_reducible apply Bk.put); rotate_left; (first | (dsimp only; omega)))))
                simp only [Bk] at G1
                have na01 : wz3.heap.size + 1 ≠ wz3.heap.size := by omega
                have nb01 := na01.symm
                go_simp
                refine hK.out _ _ (by refine ⟨?_, ?_, ?_, ?_⟩ <;> (repeat (first | with_reducible (first | assumption | apply Bk.drew | apply Bk.alloc | apply Bk.later (hB := hRwz3) | apply Bk.later (hB := hRwz2) | apply Bk.later (hB := hRwz1)) | ((with_reducible apply Bk.mv hRwz3); (focus omega)) | ((with_reducible apply Bk.mv hRwz2); (focus omega)) | ((with_reducible apply Bk.mv hRwz1); (focus omega)) | ((with_reducible apply Bk.later); rotate_left; (with_reducible assumption)) | ((with_reducible apply Bk.put); rotate_left; (first | (dsimp only; omega)))))) (fun hHeld => ?_)
                clear hK K hOld B0 B1 B2 B3
                try simp only [Act.put, List.setIfInBounds_toArray, List.set_cons_zero, List.set_cons_succ]
                refine wpAnyH_ready (rs := [14]) (by kernel_rfl) (by simp) ?_
                refine AllReadyH.cons rfl (fun K hK => ?_) ?_
                · have hOld := hHeld; clear hHeld
                  have B0 := hOld.1
                  have B1 := hOld.2.1
                  have B2 := hOld.2.2.1
                  have B3 := hOld.2.2.2
                  go_simp
                  refine hK.out _ _ (by refine ⟨?_, ?_, ?_, ?_⟩ <;> (repeat (first | with_reducible (first | assumption | apply Bk.drew | apply Bk.alloc | apply Bk.later (hB := hRwz3) | apply Bk.later (hB := hRwz2) | apply Bk.later (hB := hRwz1)) | ((with_reducible apply Bk.mv hRwz3); (focus omega)) | ((with_reducible apply Bk.mv hRwz2); (focus omega)) | ((with_reducible apply Bk.mv hRwz1); (focus omega)) | ((with_reducible apply Bk.later); rotate_left; (with_reducible assumption)) | ((with_reducible apply Bk.put); rotate_left; (first | (dsimp only; omega)))))) (fun hHeld => ?_)
                  clear hK K hOld B0 B1 B2 B3
                  try simp only [Act.put, List.setIfInBounds_toArray, List.set_cons_zero, List.set_cons_succ]
                  refine wpAnyH_take (i := 15) (v := ?_) (by simp only [List.getElem?_toArray, List.getElem?_cons_succ, List.getElem?_cons_zero]; rfl) (by kernel_rfl) (by kernel_rfl) (by kernel_rfl) (fun _ _ _ h => h) (Or.inl ⟨by rfl, ?_⟩) (by assumption) ?_
                  rotate_left
                  · intro w hSw; (try dsimp only at hSw); simp only [Bk] at hSw; go_simp; try with_reducible rfl
                  try simp only [Act.put, List.setIfInBounds_toArray, List.set_cons_zero, List.set_cons_succ]
                  refine wpAnyH_done (by kernel_rfl) ?_ _
                  (try refine NoPanic.normal ?_)
                  go_wp2
                  go_meet
                  exact ⟨_, _, rfl, rfl, rfl, by (repeat (first | with_reducible assumption | with_reducible apply Tw.alloc | with_reducible apply Tw.drew | ((with_reducible apply Tw.after); rotate_left; (with_reducible assumption)) | ((with_reducible apply Tw.setCell); rotate_left; (first | (dsimp only; omega) | omega | (simp; omega)); (first | (dsimp only; omega) | omega | (simp; omega)); (first | (dsimp only; omega) | omega | (simp; omega))))), by simp (maxDischargeDepth := 8) [Bk, go_sem, *], hHeld.2.2.1, hHeld.2.2.2⟩
                exact AllReadyH.nil
              exact AllReadyH.nil
            exact AllReadyH.nil
          exact AllReadyH.nil
        refine AllReadyH.cons rfl (fun K hK => ?_) ?_
        · have hOld := hHeld; clear hHeld
          have B0 := hOld.1
          have B1 := hOld.2.1
          have B2 := hOld.2.2.1
          have B3 := hOld.2.2.2
          go_simp
          refine hK.out _ _ (by refine ⟨?_, ?_, ?_, ?_⟩ <;> (repeat (first | with_reducible (first | assumption | apply Bk.drew | apply Bk.alloc | apply Bk.later (hB := hRwz2) | apply Bk.later (hB := hRwz1)) | ((with_reducible apply Bk.mv hRwz2); (focus omega)) | ((with_reducible apply Bk.mv hRwz1); (focus omega)) | ((with_reducible apply Bk.later); rotate_left; (with_reducible assumption)) | ((with_reducible apply Bk.put); rotate_left; (first | (dsimp only; omega)))))) (fun hHeld => ?_)
          clear hK K hOld B0 B1 B2 B3
          try simp only [Act.put, List.setIfInBounds_toArray, List.set_cons_zero, List.set_cons_succ]
          refine wpAnyH_ready (rs := [6, 12]) (by kernel_rfl) (by simp) ?_
          refine AllReadyH.cons rfl (fun K hK => ?_) ?_
          · have hOld := hHeld; clear hHeld
            have B0 := hOld.1
            have B1 := hOld.2.1
            have B2 := hOld.2.2.1
            have B3 := hOld.2.2.2
            go_simp
            (go_at_call 14; (with_reducible refine (Tw.call2 (by (repeat (first | with_reducible assumption | with_reducible apply Tw.alloc | with_reducible apply Tw.drew | ((with_reducible apply Tw.after); rotate_left; (with_reducible assumption)) | ((with_reducible apply Tw.setCell); rotate_left; (first | (dsimp only; omega) | omega | (simp; omega)); (first | (dsimp only; omega) | omega | (simp; omega)); (first | (dsimp only; omega) | omega | (simp; omega)))))) (k2 _ _ _)).mono ?_); rintro e wz4 ⟨rfl, hR, HT⟩)
            have hRwz4 := hR
            have hzR := hR.size
            (try simp at hzR)
            have GR0 : Bk (wz2.heap.size) 0 [.int .i64 0, .int .i64 0] wz4 := Bk.mv hR (by omega) (by first | (simp [Bk, go_sem]; done) | (repeat (first | with_reducible (first | assumption | apply Bk.drew | apply Bk.alloc | apply Bk.later (hB := hRwz4) | apply Bk.later (hB := hRwz2) | apply Bk.later (hB := hRwz1)) | ((with_reducible apply Bk.mv hRwz4); (focus omega)) | ((with_reducible apply Bk.mv hRwz2); (focus omega)) | ((with_reducible apply Bk.mv hRwz1); (focus omega)) | ((with_reducible apply Bk.later); rotate_left; (with_reducible assumption)) | ((with_reducible apply Bk.put); rotate_left; (first | (dsimp only; omega))))))
            have GS0 := GR0; simp only [Bk] at GS0
            have nl0 : wz2.heap.size < wz4.heap.size := by omega
            (try go_wp2_with (fail))
            refine hK.out _ _ (by refine ⟨?_, ?_, ?_, ?_⟩ <;> (repeat (first | with_reducible (first | assumption | apply Bk.drew | apply Bk.alloc | apply Bk.later (hB := hRwz4) | apply Bk.later (hB := hRwz2) | apply Bk.later (hB := hRwz1)) | ((with_reducible apply Bk.mv hRwz4); (focus omega)) | ((with_reducible apply Bk.mv hRwz2); (focus omega)) | ((with_reducible apply Bk.mv hRwz1); (focus omega)) | ((with_reducible apply Bk.later); rotate_left; (with_reducible assumption)) | ((with_reducible apply Bk.put); rotate_left; (first | (dsimp only; omega)))))) (fun hHeld => ?_)
            clear hK K hOld B0 B1 B2 B3
            try simp only [Act.put, List.setIfInBounds_toArray, List.set_cons_zero, List.set_cons_succ]
            refine wpAnyH_take (i := 7) (v := ?_) (by simp only [List.getElem?_toArray, List.getElem?_cons_succ, List.getElem?_cons_zero]; rfl) (by kernel_rfl) (by kernel_rfl) (by kernel_rfl) (fun _ _ _ h => h) (Or.inl ⟨by rfl, ?_⟩) (by assumption) ?_
            rotate_left
            · intro w hSw; (try dsimp only at hSw); simp only [Bk] at hSw; go_simp; try with_reducible rfl
            try simp only [Act.put, List.setIfInBounds_toArray, List.set_cons_zero, List.set_cons_succ]
            refine wpAnyH_take (i := 8) (v := ?_) (by simp only [List.getElem?_toArray, List.getElem?_cons_succ, List.getElem?_cons_zero]; rfl) (by kernel_rfl) (by kernel_rfl) (by kernel_rfl) (fun _ _ _ h => h) (Or.inl ⟨by rfl, ?_⟩) (by assumption) ?_
            rotate_left
            · intro w hSw; (try dsimp only at hSw); simp only [Bk] at hSw; go_simp; try with_reducible rfl
            try simp only [Act.put, List.setIfInBounds_toArray, List.set_cons_zero, List.set_cons_succ]
            refine wpAnyH_take (i := 9) (v := ?_) (by simp only [List.getElem?_toArray, List.getElem?_cons_succ, List.getElem?_cons_zero]; rfl) (by kernel_rfl) (by kernel_rfl) (by kernel_rfl) (fun _ _ _ h => h) (Or.inl ⟨by rfl, ?_⟩) (by assumption) ?_
            rotate_left
            · intro w hSw; (try dsimp only at hSw); simp only [Bk] at hSw; go_simp; try with_reducible rfl
            try simp only [Act.put, List.setIfInBounds_toArray, List.set_cons_zero, List.set_cons_succ]
            refine wpAnyH_take (i := 10) (v := ?_) (by simp only [List.getElem?_toArray, List.getElem?_cons_succ, List.getElem?_cons_zero]; rfl) (by kernel_rfl) (by kernel_rfl) (by kernel_rfl) (fun _ _ _ h => h) (Or.inl ⟨by rfl, ?_⟩) (by assumption) ?_
            rotate_left
            · intro w hSw; (try dsimp only at hSw); simp only [Bk] at hSw; go_simp; try with_reducible rfl
            try simp only [Act.put, List.setIfInBounds_toArray, List.set_cons_zero, List.set_cons_succ]
            refine wpAnyH_ready (rs := [12]) (by kernel_rfl) (by simp) ?_
            refine AllReadyH.cons rfl (fun K hK => ?_) ?_
            · have hOld := hHeld; clear hHeld
              have B0 := hOld.1
              have B1 := hOld.2.1
              have B2 := hOld.2.2.1
              have B3 := hOld.2.2.2
              go_simp
              refine hK.out _ _ (by refine ⟨?_, ?_, ?_, ?_⟩ <;> (repeat (first | with_reducible (first | assumption | apply Bk.drew | apply Bk.alloc | apply Bk.later (hB := hRwz4) | apply Bk.later (hB := hRwz2) | apply Bk.later (hB := hRwz1)) | ((with_reducible apply Bk.mv hRwz4); (focus omega)) | ((with_reducible apply Bk.mv hRwz2); (focus omega)) | ((with_reducible apply Bk.mv hRwz1); (focus omega)) | ((with_reducible apply Bk.later); rotate_left; (with_reducible assumption)) | ((with_reducible apply Bk.put); rotate_left; (first | (dsimp only; omega)))))) (fun hHeld => ?_)
              clear hK K hOld B0 B1 B2 B3
              try simp only [Act.put, List.setIfInBounds_toArray, List.set_cons_zero, List.set_cons_succ]
              refine wpAnyH_ready (rs := [13]) (by kernel_rfl) (by simp) ?_
              refine AllReadyH.cons rfl (fun K hK => ?_) ?_
              · have hOld := hHeld; clear hHeld
                have B0 := hOld.1
                have B1 := hOld.2.1
                have B2 := hOld.2.2.1
                have B3 := hOld.2.2.2
                have G0 : Bk (wz2.heap.size) 0 [.int .i64 0, .int .i64 0] ((wz4).alloc (Obj.cells #[.int .i64 0, .int .i64 0] 24)) := by first | (simp [Bk, go_sem]; done) | (repeat (first | with_reducible (first | assumption | apply Bk.drew | apply Bk.alloc | apply Bk.later (hB := hRwz4) | apply Bk.later (hB := hRwz2) | apply Bk.later (hB := hRwz1)) | ((with_reducible apply Bk.mv hRwz4); (focus omega)) | ((with_reducible apply Bk.mv hRwz2); (focus omega)) | ((with_reducible apply Bk.mv hRwz1); (focus omega)) | ((with_reducible apply Bk.later); rotate_left; (with_reducible assumption)) | ((with_reducible apply Bk.put); rotate_left; (first | (dsimp only; omega)))))
                simp only [Bk] at G0
                have G1 : Bk (wz4.heap.size) 0 [.int .i64 0, .int .i64 0] ((wz4).alloc (Obj.cells #[.int .i64 0, .int .i64 0] 24)) := by first | (simp [Bk, go_sem]; done) | (repeat (first | with_reducible (first | assumption | apply Bk.drew | apply Bk.alloc | apply Bk.later (hB := hRwz4) | apply Bk.later (hB := hRwz2) | apply Bk.later (hB := hRwz1)) | ((with_reducible apply Bk.mv hRwz4); (focus omega)) | ((with_reducible apply Bk.mv hRwz2); (focus omega)) | ((with_reducible apply Bk.mv hRwz1); (focus omega)) | ((with_reducible apply Bk.later); rotate_left; (with_reducible assumption)) | ((with_reducible apply Bk.put); rotate_left; (first | (dsimp only; omega)))))
                simp only [Bk] at G1
                have na01 : wz2.heap.size ≠ wz4.heap.size := by omega
                have nb01 := na01.symm
                go_simp
                refine hK.out _ _ (by refine ⟨?_, ?_, ?_, ?_⟩ <;> (repeat (first | with_reducible (first | assumption | apply Bk.drew | apply Bk.alloc | apply Bk.later (hB := hRwz4) | apply Bk.later (hB := hRwz2) | apply Bk.later (hB := hRwz1)) | ((with_reducible apply Bk.mv hRwz4); (focus omega)) | ((with_reducible apply Bk.mv hRwz2); (focus omega)) | ((with_reducible apply Bk.mv hRwz1); (focus omega)) | ((with_reducible apply Bk.later); rotate_left; (with_reducible assumption)) | ((with_reducible apply Bk.put); rotate_left; (first | (dsimp only; omega)))))) (fun hHeld => ?_)
                clear hK K hOld B0 B1 B2 B3
                try simp only [Act.put, List.setIfInBounds_toArray, List.set_cons_zero, List.set_cons_succ]
                refine wpAnyH_ready (rs := [14]) (by kernel_rfl) (by simp) ?_
                refine AllReadyH.cons rfl (fun K hK => ?_) ?_
                · have hOld := hHeld; clear hHeld
                  have B0 := hOld.1
                  have B1 := hOld.2.1
                  have B2 := hOld.2.2.1
                  have B3 := hOld.2.2.2
                  go_simp
                  refine hK.out _ _ (by refine ⟨?_, ?_, ?_, ?_⟩ <;> (repeat (first | with_reducible (first | assumption | apply Bk.drew | apply Bk.alloc | apply Bk.later (hB := hRwz4) | apply Bk.later (hB := hRwz2) | apply Bk.later (hB := hRwz1)) | ((with_reducible apply Bk.mv hRwz4); (focus omega)) | ((with_reducible apply Bk.mv hRwz2); (focus omega)) | ((with_reducible apply Bk.mv hRwz1); (focus omega)) | ((with_reducible apply Bk.later); rotate_left; (with_reducible assumption)) | ((with_reducible apply Bk.put); rotate_left; (first | (dsimp only; omega)))))) (fun hHeld => ?_)
                  clear hK K hOld B0 B1 B2 B3
                  try simp only [Act.put, List.setIfInBounds_toArray, List.set_cons_zero, List.set_cons_succ]
                  refine wpAnyH_take (i := 15) (v := ?_) (by simp only [List.getElem?_toArray, List.getElem?_cons_succ, List.getElem?_cons_zero]; rfl) (by kernel_rfl) (by kernel_rfl) (by kernel_rfl) (fun _ _ _ h => h) (Or.inl ⟨by rfl, ?_⟩) (by assumption) ?_
                  rotate_left
                  · intro w hSw; (try dsimp only at hSw); simp only [Bk] at hSw; go_simp; try with_reducible rfl
                  try simp only [Act.put, List.setIfInBounds_toArray, List.set_cons_zero, List.set_cons_succ]
                  refine wpAnyH_done (by kernel_rfl) ?_ _
                  (try refine NoPanic.normal ?_)
                  go_wp2
                  go_meet
                  exact ⟨_, _, rfl, rfl, rfl, by (repeat (first | with_reducible assumption | with_reducible apply Tw.alloc | with_reducible apply Tw.drew | ((with_reducible apply Tw.after); rotate_left; (with_reducible assumption)) | ((with_reducible apply Tw.setCell); rotate_left; (first | (dsimp only; omega) | omega | (simp; omega)); (first | (dsimp only; omega) | omega | (simp; omega)); (first | (dsimp only; omega) | omega | (simp; omega))))), by simp (maxDischargeDepth := 8) [Bk, go_sem, *], hHeld.2.2.1, hHeld.2.2.2⟩
                exact AllReadyH.nil
              exact AllReadyH.nil
            exact AllReadyH.nil
          refine AllReadyH.cons rfl (fun K hK => ?_) ?_
          · have hOld := hHeld; clear hHeld
            have B0 := hOld.1
            have B1 := hOld.2.1
            have B2 := hOld.2.2.1
            have B3 := hOld.2.2.2
            go_simp
            refine hK.out _ _ (by refine ⟨?_, ?_, ?_, ?_⟩ <;> (repeat (first | with_reducible (first | assumption | apply Bk.drew | apply Bk.alloc | apply Bk.later (hB := hRwz2) | apply Bk.later (hB := hRwz1)) | ((with_reducible apply Bk.mv hRwz2); (focus omega)) | ((with_reducible apply Bk.mv hRwz1); (focus omega)) | ((with_reducible apply Bk.later); rotate_left; (with_reducible assumption)) | ((with_reducible apply Bk.put); rotate_left; (first | (dsimp only; omega)))))) (fun hHeld => ?_)
            clear hK K hOld B0 B1 B2 B3
            try simp only [Act.put, List.setIfInBounds_toArray, List.set_cons_zero, List.set_cons_succ]
            refine wpAnyH_ready (rs := [6]) (by kernel_rfl) (by simp) ?_
            refine AllReadyH.cons rfl (fun K hK => ?_) ?_
            · have hOld := hHeld; clear hHeld
              have B0 := hOld.1
              have B1 := hOld.2.1
              have B2 := hOld.2.2.1
              have B3 := hOld.2.2.2
              go_simp
              (go_at_call 14; (with_reducible refine (Tw.call2 (by (repeat (first | with_reducible assumption | with_reducible apply Tw.alloc | with_reducible apply Tw.drew | ((with_reducible apply Tw.after); rotate_left; (with_reducible assumption)) | ((with_reducible apply Tw.setCell); rotate_left; (first | (dsimp only; omega) | omega | (simp; omega)); (first | (dsimp only; omega) | omega | (simp; omega)); (first | (dsimp only; omega) | omega | (simp; omega)))))) (k2 _ _ _)).mono ?_); rintro e wz5 ⟨rfl, hR, HT⟩)
              have hRwz5 := hR
              have hzR := hR.size
              (try simp at hzR)
              have GR0 : Bk (wz2.heap.size) 0 [.int .i64 0, .int .i64 0] wz5 := Bk.mv hR (by omega) (by first | (simp [Bk, go_sem]; done) | (repeat (first | with_reducible (first | assumption | apply Bk.drew | apply Bk.alloc | apply Bk.later (hB := hRwz5) | apply Bk.later (hB := hRwz2) | apply Bk.later (hB := hRwz1)) | ((with_reducible apply Bk.mv hRwz5); (focus omega)) | ((with_reducible apply Bk.mv hRwz2); (focus omega)) | ((with_reducible apply Bk.mv hRwz1); (focus omega)) | ((with_reducible apply Bk.later); rotate_left; (with_reducible assumption)) | ((with_reducible apply Bk.put); rotate_left; (first | (dsimp only; omega))))))
              have GS0 := GR0; simp only [Bk] at GS0
              have nl0 : wz2.heap.size < wz5.heap.size := by omega
              have GR1 : Bk (wz2.heap.size + 1) 0 [.int .i64 0, .int .i64 0] wz5 := Bk.mv hR (by omega) (by first | (simp [Bk, go_sem]; done) | (repeat (first | with_reducible (first | assumption | apply Bk.drew | apply Bk.alloc | apply Bk.later (hB := hRwz5) | apply Bk.later (hB := hRwz2) | apply Bk.later (hB := hRwz1)) | ((with_reducible apply Bk.mv hRwz5); (focus omega)) | ((with_reducible apply Bk.mv hRwz2); (focus omega)) | ((with_reducible apply Bk.mv hRwz1); (focus omega)) | ((with_reducible apply Bk.later); rotate_left; (with_reducible assumption)) | ((with_reducible apply Bk.put); rotate_left; (first | (dsimp only; omega))))))
              have GS1 := GR1; simp only [Bk] at GS1
              have nl1 : wz2.heap.size + 1 < wz5.heap.size := by omega
              (try go_wp2_with (fail))
              refine hK.out _ _ (by refine ⟨?_, ?_, ?_, ?_⟩ <;> (repeat (first | with_reducible (first | assumption | apply Bk.drew | apply Bk.alloc | apply Bk.later (hB := hRwz5) | apply Bk.later (hB := hRwz2) | apply Bk.later (hB := hRwz1)) | ((with_reducible apply Bk.mv hRwz5); (focus omega)) | ((with_reducible apply Bk.mv hRwz2); (focus omega)) | ((with_reducible apply Bk.mv hRwz1); (focus omega)) | ((with_reducible apply Bk.later); rotate_left; (with_reducible assumption)) | ((with_reducible apply Bk.put); rotate_left; (first | (dsimp only; omega)))))) (fun hHeld => ?_)
              clear hK K hOld B0 B1 B2 B3
              try simp only [Act.put, List.setIfInBounds_toArray, List.set_cons_zero, List.set_cons_succ]
              refine wpAnyH_take (i := 7) (v := ?_) (by simp only [List.getElem?_toArray, List.getElem?_cons_succ, List.getElem?_cons_zero]; rfl) (by kernel_rfl) (by kernel_rfl) (by kernel_rfl) (fun _ _ _ h => h) (Or.inl ⟨by rfl, ?_⟩) (by assumption) ?_
              rotate_left
              · intro w hSw; (try dsimp only at hSw); simp only [Bk] at hSw; go_simp; try with_reducible rfl
              try simp only [Act.put, List.setIfInBounds_toArray, List.set_cons_zero, List.set_cons_succ]
              refine wpAnyH_take (i := 8) (v := ?_) (by simp only [List.getElem?_toArray, List.getElem?_cons_succ, List.getElem?_cons_zero]; rfl) (by kernel_rfl) (by kernel_rfl) (by kernel_rfl) (fun _ _ _ h => h) (Or.inl ⟨by rfl, ?_⟩) (by assumption) ?_
              rotate_left
              · intro w hSw; (try dsimp only at hSw); simp only [Bk] at hSw; go_simp; try with_reducible rfl
              try simp only [Act.put, List.setIfInBounds_toArray, List.set_cons_zero, List.set_cons_succ]
              refine wpAnyH_take (i := 9) (v := ?_) (by simp only [List.getElem?_toArray, List.getElem?_cons_succ, List.getElem?_cons_zero]; rfl) (by kernel_rfl) (by kernel_rfl) (by kernel_rfl) (fun _ _ _ h => h) (Or.inl ⟨by rfl, ?_⟩) (by assumption) ?_
              rotate_left
              · intro w hSw; (try dsimp only at hSw); simp only [Bk] at hSw; go_simp; try with_reducible rfl
              try simp only [Act.put, List.setIfInBounds_toArray, List.set_cons_zero, List.set_cons_succ]
              refine wpAnyH_take (i := 10) (v := ?_) (by simp only [List.getElem?_toArray, List.getElem?_cons_succ, List.getElem?_cons_zero]; rfl) (by kernel_rfl) (by kernel_rfl) (by kernel_rfl) (fun _ _ _ h => h) (Or.inl ⟨by rfl, ?_⟩) (by assumption) ?_
              rotate_left
              · intro w hSw; (try dsimp only at hSw); simp only [Bk] at hSw; go_simp; try with_reducible rfl
              try simp only [Act.put, List.setIfInBounds_toArray, List.set_cons_zero, List.set_cons_succ]
              refine wpAnyH_ready (rs := [13]) (by kernel_rfl) (by simp) ?_
              refine AllReadyH.cons rfl (fun K hK => ?_) ?_
              · have hOld := hHeld; clear hHeld
                have B0 := hOld.1
                have B1 := hOld.2.1
                have B2 := hOld.2.2.1
                have B3 := hOld.2.2.2
                have G0 : Bk (wz2.heap.size) 0 [.int .i64 0, .int .i64 0] (wz5) := by first | (simp [Bk, go_sem]; done) | (repeat (first | with_reducible (first | assumption | apply Bk.drew | apply Bk.alloc | apply Bk.later (hB := hRwz5) | apply Bk.later (hB := hRwz2) | apply Bk.later (hB := hRwz1)) | ((with_reducible apply Bk.mv hRwz5); (focus omega)) | ((with_reducible apply Bk.mv hRwz2); (focus omega)) | ((with_reducible apply Bk.mv hRwz1); (focus omega)) | ((with_reducible apply Bk.later); rotate_left; (with_reducible assumption)) | ((with_reducible apply Bk.put); rotate_left; (first | (dsimp only; omega)))))
                simp only [Bk] at G0
                have G1 : Bk (wz2.heap.size + 1) 0 [.int .i64 0, .int .i64 0] (wz5) := by first | (simp [Bk, go_sem]; done) | (repeat (first | with_reducible (first | assumption | apply Bk.drew | apply Bk.alloc | apply Bk.later (hB := hRwz5) | apply Bk.later (hB := hRwz2) | apply Bk.later (hB := hRwz1)) | ((with_reducible apply Bk.mv hRwz5); (focus omega)) | ((with_reducible apply Bk.mv hRwz2); (focus omega)) | ((with_reducible apply Bk.mv hRwz1); (focus omega)) | ((with_reducible apply Bk.later); rotate_left; (with_reducible assumption)) | ((with_reducible apply Bk.put); rotate_left; (first | (dsimp only; omega)))))
                simp only [Bk] at G1
                have na01 : wz2.heap.size ≠ wz2.heap.size + 1 := by omega
                have nb01 := na01.symm
                go_simp
                refine hK.out _ _ (by refine ⟨?_, ?_, ?_, ?_⟩ <;> (repeat (first | with_reducible (first | assumption | apply Bk.drew | apply Bk.alloc | apply Bk.later (hB := hRwz5) | apply Bk.later (hB := hRwz2) | apply Bk.later (hB := hRwz1)) | ((with_reducible apply Bk.mv hRwz5); (focus omega)) | ((with_reducible apply Bk.mv hRwz2); (focus omega)) | ((with_reducible apply Bk.mv hRwz1); (focus omega)) | ((with_reducible apply Bk.later); rotate_left; (with_reducible assumption)) | ((with_reducible apply Bk.put); rotate_left; (first | (dsimp only; omega)))))) (fun hHeld => ?_)
                clear hK K hOld B0 B1 B2 B3
                try simp only [Act.put, List.setIfInBounds_toArray, List.set_cons_zero, List.set_cons_succ]
                refine wpAnyH_ready (rs := [14]) (by kernel_rfl) (by simp) ?_
                refine AllReadyH.cons rfl (fun K hK => ?_) ?_
                · have hOld := hHeld; clear hHeld
                  have B0 := hOld.1
                  have B1 := hOld.2.1
                  have B2 := hOld.2.2.1
                  have B3 := hOld.2.2.2
                  go_simp
                  refine hK.out _ _ (by refine ⟨?_, ?_, ?_, ?_⟩ <;> (repeat (first | with_reducible (first | assumption | apply Bk.drew | apply Bk.alloc | apply Bk.later (hB := hRwz5) | apply Bk.later (hB := hRwz2) | apply Bk.later (hB := hRwz1)) | ((with_reducible apply Bk.mv hRwz5); (focus omega)) | ((with_reducible apply Bk.mv hRwz2); (focus omega)) | ((with_reducible apply Bk.mv hRwz1); (focus omega)) | ((with_reducible apply Bk.later); rotate_left; (with_reducible assumption)) | ((with_reducible apply Bk.put); rotate_left; (first | (dsimp only; omega)))))) (fun hHeld => ?_)
                  clear hK K hOld B0 B1 B2 B3
                  try simp only [Act.put, List.setIfInBounds_toArray, List.set_cons_zero, List.set_cons_succ]
                  refine wpAnyH_take (i := 15) (v := ?_) (by simp only [List.getElem?_toArray, List.getElem?_cons_succ, List.getElem?_cons_zero]; rfl) (by kernel_rfl) (by kernel_rfl) (by kernel_rfl) (fun _ _ _ h => h) (Or.inl ⟨by rfl, ?_⟩) (by assumption) ?_
                  rotate_left
                  · intro w hSw; (try dsimp only at hSw); simp only [Bk] at hSw; go_simp; try with_reducible rfl
                  try simp only [Act.put, List.setIfInBounds_toArray, List.set_cons_zero, List.set_cons_succ]
                  refine wpAnyH_done (by kernel_rfl) ?_ _
                  (try refine NoPanic.normal ?_)
                  go_wp2
                  go_meet
                  exact ⟨_, _, rfl, rfl, rfl, by (repeat (first | with_reducible assumption | with_reducible apply Tw.alloc | with_reducible apply Tw.drew | ((with_reducible apply Tw.after); rotate_left; (with_reducible assumption)) | ((with_reducible apply Tw.setCell); rotate_left; (first | (dsimp only; omega) | omega | (simp; omega)); (first | (dsimp only; omega) | omega | (simp; omega)); (first | (dsimp only; omega) | omega | (simp; omega))))), by simp (maxDischargeDepth := 8) [Bk, go_sem, *], hHeld.2.2.1, hHeld.2.2.2⟩
                exact AllReadyH.nil
              exact AllReadyH.nil
            exact AllReadyH.nil
          exact AllReadyH.nil
        refine AllReadyH.cons rfl (fun K hK => ?_) ?_
        · have hOld := hHeld; clear hHeld
          have B0 := hOld.1
          have B1 := hOld.2.1
          have B2 := hOld.2.2.1
          have B3 := hOld.2.2.2
          go_simp
          refine hK.out _ _ (by refine ⟨?_, ?_, ?_, ?_⟩ <;> (repeat (first | with_reducible (first | assumption | apply Bk.drew | apply Bk.alloc | apply Bk.later (hB := hRwz2) | apply Bk.later (hB := hRwz1)) | ((with_reducible apply Bk.mv hRwz2); (focus omega)) | ((with_reducible apply Bk.mv hRwz1); (focus omega)) | ((with_reducible apply Bk.later); rotate_left; (with_reducible assumption)) | ((with_reducible apply Bk.put); rotate_left; (first | (dsimp only; omega)))))) (fun hHeld => ?_)
          clear hK K hOld B0 B1 B2 B3
          try simp only [Act.put, List.setIfInBounds_toArray, List.set_cons_zero, List.set_cons_succ]
          refine wpAnyH_ready (rs := [6, 11]) (by kernel_rfl) (by simp) ?_
          refine AllReadyH.cons rfl (fun K hK => ?_) ?_
          · have hOld := hHeld; clear hHeld
            have B0 := hOld.1
            have B1 := hOld.2.1
            have B2 := hOld.2.2.1
            have B3 := hOld.2.2.2
            go_simp
            (go_at_call 14; (with_reducible refine (Tw.call2 (by (repeat (first | with_reducible assumption | with_reducible apply Tw.alloc | with_reducible apply Tw.drew | ((with_reducible apply Tw.after); rotate_left; (with_reducible assumption)) | ((with_reducible apply Tw.setCell); rotate_left; (first | (dsimp only; omega) | omega | (simp; omega)); (first | (dsimp only; omega) | omega | (simp; omega)); (first | (dsimp only; omega) | omega | (simp; omega)))))) (k2 _ _ _)).mono ?_); rintro e wz6 ⟨rfl, hR, HT⟩)
            have hRwz6 := hR
            have hzR := hR.size
            (try simp at hzR)
            have GR1 : Bk (wz2.heap.size) 0 [.int .i64 0, .int .i64 0] wz6 := Bk.mv hR (by omega) (by first | (simp [Bk, go_sem]; done) | (repeat (first | with_reducible (first | assumption | apply Bk.drew | apply Bk.alloc | apply Bk.later (hB := hRwz6) | apply Bk.later (hB := hRwz2) | apply Bk.later (hB := hRwz1)) | ((with_reducible apply Bk.mv hRwz6); (focus omega)) | ((with_reducible apply Bk.mv hRwz2); (focus omega)) | ((with_reducible apply Bk.mv hRwz1); (focus omega)) | ((with_reducible apply Bk.later); rotate_left; (with_reducible assumption)) | ((with_reducible apply Bk.put); rotate_left; (first | (dsimp only; omega))))))
            have GS1 := GR1; simp only [Bk] at GS1
            have nl1 : wz2.heap.size < wz6.heap.size := by omega
            (try go_wp2_with (fail))
            refine hK.out _ _ (by refine ⟨?_, ?_, ?_, ?_⟩ <;> (repeat (first | with_reducible (first | assumption | apply Bk.drew | apply Bk.alloc | apply Bk.later (hB := hRwz6) | apply Bk.later (hB := hRwz2) | apply Bk.later (hB := hRwz1)) | ((with_reducible apply Bk.mv hRwz6); (focus omega)) | ((with_reducible apply Bk.mv hRwz2); (focus omega)) | ((with_reducible apply Bk.mv hRwz1); (focus omega)) | ((with_reducible apply Bk.later); rotate_left; (with_reducible assumption)) | ((with_reducible apply Bk.put); rotate_left; (first | (dsimp only; omega)))))) (fun hHeld => ?_)
            clear hK K hOld B0 B1 B2 B3
            try simp only [Act.put, List.setIfInBounds_toArray, List.set_cons_zero, List.set_cons_succ]
            refine wpAnyH_take (i := 7) (v := ?_) (by simp only [List.getElem?_toArray, List.getElem?_cons_succ, List.getElem?_cons_zero]; rfl) (by kernel_rfl) (by kernel_rfl) (by kernel_rfl) (fun _ _ _ h => h) (Or.inl ⟨by rfl, ?_⟩) (by assumption) ?_
            rotate_left
            · intro w hSw; (try dsimp only at hSw); simp only [Bk] at hSw; go_simp; try with_reducible rfl
            try simp only [Act.put, List.setIfInBounds_toArray, List.set_cons_zero, List.set_cons_succ]
            refine wpAnyH_take (i := 8) (v := ?_) (by simp only [List.getElem?_toArray, List.getElem?_cons_succ, List.getElem?_cons_zero]; rfl) (by kernel_rfl) (by kernel_rfl) (by kernel_rfl) (fun _ _ _ h => h) (Or.inl ⟨by rfl, ?_⟩) (by assumption) ?_
            rotate_left
            · intro w hSw; (try dsimp only at hSw); simp only [Bk] at hSw; go_simp; try with_reducible rfl
            try simp only [Act.put, List.setIfInBounds_toArray, List.set_cons_zero, List.set_cons_succ]
            refine wpAnyH_take (i := 9) (v := ?_) (by simp only [List.getElem?_toArray, List.getElem?_cons_succ, List.getElem?_cons_zero]; rfl) (by kernel_rfl) (by kernel_rfl) (by kernel_rfl) (fun _ _ _ h => h) (Or.inl ⟨by rfl, ?_⟩) (by assumption) ?_
            rotate_left
            · intro w hSw; (try dsimp only at hSw); simp only [Bk] at hSw; go_simp; try with_reducible rfl
            try simp only [Act.put, List.setIfInBounds_toArray, List.set_cons_zero, List.set_cons_succ]
            refine wpAnyH_take (i := 10) (v := ?_) (by simp only [List.getElem?_toArray, List.getElem?_cons_succ, List.getElem?_cons_zero]; rfl) (by kernel_rfl) (by kernel_rfl) (by kernel_rfl) (fun _ _ _ h => h) (Or.inl ⟨by rfl, ?_⟩) (by assumption) ?_
            rotate_left
            · intro w hSw; (try dsimp only at hSw); simp only [Bk] at hSw; go_simp; try with_reducible rfl
            try simp only [Act.put, List.setIfInBounds_toArray, List.set_cons_zero, List.set_cons_succ]
            refine wpAnyH_ready (rs := [11]) (by kernel_rfl) (by simp) ?_
            refine AllReadyH.cons rfl (fun K hK => ?_) ?_
            · have hOld := hHeld; clear hHeld
              have B0 := hOld.1
              have B1 := hOld.2.1
              have B2 := hOld.2.2.1
              have B3 := hOld.2.2.2
              go_simp
              refine hK.out _ _ (by refine ⟨?_, ?_, ?_, ?_⟩ <;> (repeat (first | with_reducible (first | assumption | apply Bk.drew | apply Bk.alloc | apply Bk.later (hB := hRwz6) | apply Bk.later (hB := hRwz2) | apply Bk.later (hB := hRwz1)) | ((with_reducible apply Bk.mv hRwz6); (focus omega)) | ((with_reducible apply Bk.mv hRwz2); (focus omega)) | ((with_reducible apply Bk.mv hRwz1); (focus omega)) | ((with_reducible apply Bk.later); rotate_left; (with_reducible assumption)) | ((with_reducible apply Bk.put); rotate_left; (first | (dsimp only; omega)))))) (fun hHeld => ?_)
              clear hK K hOld B0 B1 B2 B3
              try simp only [Act.put, List.setIfInBounds_toArray, List.set_cons_zero, List.set_cons_succ]
              refine wpAnyH_ready (rs := [13]) (by kernel_rfl) (by simp) ?_
              refine AllReadyH.cons rfl (fun K hK => ?_) ?_
              · have hOld := hHeld; clear hHeld
                have B0 := hOld.1
                have B1 := hOld.2.1
                have B2 := hOld.2.2.1
                have B3 := hOld.2.2.2
                have G0 : Bk (wz6.heap.size) 0 [.int .i64 0, .int .i64 0] ((wz6).alloc (Obj.cells #[.int .i64 0, .int .i64 0] 24)) := by first | (simp [Bk, go_sem]; done) | (repeat (first | with_reducible (first | assumption | apply Bk.drew | apply Bk.alloc | apply Bk.later (hB := hRwz6) | apply Bk.later (hB := hRwz2) | apply Bk.later (hB := hRwz1)) | ((with_reducible apply Bk.mv hRwz6); (focus omega)) | ((with_reducible apply Bk.mv hRwz2); (focus omega)) | ((with_reducible apply Bk.mv hRwz1); (focus omega)) | ((with_reducible apply Bk.later); rotate_left; (with_reducible assumption)) | ((with_reducible apply Bk.put); rotate_left; (first | (dsimp only; omega)))))
                simp only [Bk] at G0
                have G1 : Bk (wz2.heap.size) 0 [.int .i64 0, .int .i64 0] ((wz6).alloc (Obj.cells #[.int .i64 0, .int .i64 0] 24)) := by first | (simp [Bk, go_sem]; done) | (repeat (first | with_reducible (first | assumption | apply Bk.drew | apply Bk.alloc | apply Bk.later (hB := hRwz6) | apply Bk.later (hB := hRwz2) | apply Bk.later (hB := hRwz1)) | ((with_reducible apply Bk.mv hRwz6); (focus omega)) | ((with_reducible apply Bk.mv hRwz2); (focus omega)) | ((with_reducible apply Bk.mv hRwz1); (focus omega)) | ((with_reducible apply Bk.later); rotate_left; (with_reducible assumption)) | ((with_reducible apply Bk.put); rotate_left; (first | (dsimp only; omega)))))
                simp only [Bk] at G1
                have na01 : wz6.heap.size ≠ wz2.heap.size := by omega
                have nb01 := na01.symm
                go_simp
                refine hK.out _ _ (by refine ⟨?_, ?_, ?_, ?_⟩ <;> (repeat (first | with_reducible (first | assumption | apply Bk.drew | apply Bk.alloc | apply Bk.later (hB := hRwz6) | apply Bk.later (hB := hRwz2) | apply Bk.later (hB := hRwz1)) | ((with_reducible apply Bk.mv hRwz6); (focus omega)) | ((with_reducible apply Bk.mv hRwz2); (focus omega)) | ((with_reducible apply Bk.mv hRwz1); (focus omega)) | ((with_reducible apply Bk.later); rotate_left; (with_reducible assumption)) | ((with_reducible apply Bk.put); rotate_left; (first | (dsimp only; omega)))))) (fun hHeld => ?_)
                clear hK K hOld B0 B1 B2 B3
                try simp only [Act.put, List.setIfInBounds_toArray, List.set_cons_zero, List.set_cons_succ]
                refine wpAnyH_ready (rs := [14]) (by kernel_rfl) (by simp) ?_
                refine AllReadyH.cons rfl (fun K hK => ?_) ?_
                · have hOld := hHeld; clear hHeld
                  have B0 := hOld.1
                  have B1 := hOld.2.1
                  have B2 := hOld.2.2.1
                  have B3 := hOld.2.2.2
                  go_simp
                  refine hK.out _ _ (by refine ⟨?_, ?_, ?_, ?_⟩ <;> (repeat (first | with_reducible (first | assumption | apply Bk.drew | apply Bk.alloc | apply Bk.later (hB := hRwz6) | apply Bk.later (hB := hRwz2) | apply Bk.later (hB := hRwz1)) | ((with_reducible apply Bk.mv hRwz6); (focus omega)) | ((with_reducible apply Bk.mv hRwz2); (focus omega)) | ((with_reducible apply Bk.mv hRwz1); (focus omega)) | ((with_reducible apply Bk.later); rotate_left; (with_reducible assumption)) | ((with_reducible apply Bk.put); rotate_left; (first | (dsimp only; omega)))))) (fun hHeld => ?_)
                  clear hK K hOld B0 B1 B2 B3
                  try simp only [Act.put, List.setIfInBounds_toArray, List.set_cons_zero, List.set_cons_succ]
                  refine wpAnyH_take (i := 15) (v := ?_) (by simp only [List.getElem?_toArray, List.getElem?_cons_succ, List.getElem?_cons_zero]; rfl) (by kernel_rfl) (by kernel_rfl) (by kernel_rfl) (fun _ _ _ h => h) (Or.inl ⟨by rfl, ?_⟩) (by assumption) ?_
                  rotate_left
                  · intro w hSw; (try dsimp only at hSw); simp only [Bk] at hSw; go_simp; try with_reducible rfl
                  try simp only [Act.put, List.setIfInBounds_toArray, List.set_cons_zero, List.set_cons_succ]
                  refine wpAnyH_done (by kernel_rfl) ?_ _
                  (try refine NoPanic.normal ?_)
                  go_wp2
                  go_meet
                  exact ⟨_, _, rfl, rfl, rfl, by (repeat (first | with_reducible assumption | with_reducible apply Tw.alloc | with_reducible apply Tw.drew | ((with_reducible apply Tw.after); rotate_left; (with_reducible assumption)) | ((with_reducible apply Tw.setCell); rotate_left; (first | (dsimp only; omega) | omega | (simp; omega)); (first | (dsimp only; omega) | omega | (simp; omega)); (first | (dsimp only; omega) | omega | (simp; omega))))), by simp (maxDischargeDepth := 8) [Bk, go_sem, *], hHeld.2.2.1, hHeld.2.2.2⟩
                exact AllReadyH.nil
              exact AllReadyH.nil
            exact AllReadyH.nil
          refine AllReadyH.cons rfl (fun K hK => ?_) ?_
          · have hOld := hHeld; clear hHeld
            have B0 := hOld.1
            have B1 := hOld.2.1
            have B2 := hOld.2.2.1
            have B3 := hOld.2.2.2
            go_simp
            refine hK.out _ _ (by refine ⟨?_, ?_, ?_, ?_⟩ <;> (repeat (first | with_reducible (first | assumption | apply Bk.drew | apply Bk.alloc | apply Bk.later (hB := hRwz2) | apply Bk.later (hB := hRwz1)) | ((with_reducible apply Bk.mv hRwz2); (focus omega)) | ((with_reducible apply Bk.mv hRwz1); (focus omega)) | ((with_reducible apply Bk.later); rotate_left; (with_reducible assumption)) | ((with_reducible apply Bk.put); rotate_left; (first | (dsimp only; omega)))))) (fun hHeld => ?_)
            clear hK K hOld B0 B1 B2 B3
            try simp only [Act.put, List.setIfInBounds_toArray, List.set_cons_zero, List.set_cons_succ]
            refine wpAnyH_ready (rs := [6]) (by kernel_rfl) (by simp) ?_
            refine AllReadyH.cons rfl (fun K hK => ?_) ?_
            · have hOld := hHeld; clear hHeld
              have B0 := hOld.1
              have B1 := hOld.2.1
              have B2 := hOld.2.2.1
              have B3 := hOld.2.2.2
              go_simp
              (go_at_call 14; (with_reducible refine (Tw.call2 (by (repeat (first | with_reducible assumption | with_reducible apply Tw.alloc | with_reducible apply Tw.drew | ((with_reducible apply Tw.after); rotate_left; (with_reducible assumption)) | ((with_reducible apply Tw.setCell); rotate_left; (first | (dsimp only; omega) | omega | (simp; omega)); (first | (dsimp only; omega) | omega | (simp; omega)); (first | (dsimp only; omega) | omega | (simp; omega)))))) (k2 _ _ _)).mono ?_); rintro e wz7 ⟨rfl, hR, HT⟩)
              have hRwz7 := hR
              have hzR := hR.size
              (try simp at hzR)
              have GR0 : Bk (wz2.heap.size + 1) 0 [.int .i64 0, .int .i64 0] wz7 := Bk.mv hR (by omega) (by first | (simp [Bk, go_sem]; done) | (repeat (first | with_reducible (first | assumption | apply Bk.drew | apply Bk.alloc | apply Bk.later (hB := hRwz7) | apply Bk.later (hB := hRwz2) | apply Bk.later (hB := hRwz1)) | ((with_reducible apply Bk.mv hRwz7); (focus omega)) | ((with_reducible apply Bk.mv hRwz2); (focus omega)) | ((with_reducible apply Bk.mv hRwz1); (focus omega)) | ((with_reducible apply Bk.later); rotate_left; (with_reducible assumption)) | ((with_reducible apply Bk.put); rotate_left; (first | (dsimp only; omega))))))
              have GS0 := GR0; simp only [Bk] at GS0
              have nl0 : wz2.heap.size + 1 < wz7.heap.size := by omega
              have GR1 : Bk (wz2.heap.size) 0 [.int .i64 0, .int .i64 0] wz7 := Bk.mv hR (by omega) (by first | (simp [Bk, go_sem]; done) | (repeat (first | with_reducible (first | assumption | apply Bk.drew | apply Bk.alloc | apply Bk.later (hB := hRwz7) | apply Bk.later (hB := hRwz2) | apply Bk.later (hB := hRwz1)) | ((with_reducible apply Bk.mv hRwz7); (focus omega)) | ((with_reducible apply Bk.mv hRwz2); (focus omega)) | ((with_reducible apply Bk.mv hRwz1); (focus omega)) | ((with_reducible apply Bk.later); rotate_left; (with_reducible assumption)) | ((with_reducible apply Bk.put); rotate_left; (first | (dsimp only; omega))))))
              have GS1 := GR1; simp only [Bk] at GS1
              have nl1 : wz2.heap.size < wz7.heap.size := by omega
              (try go_wp2_with (fail))
              refine hK.out _ _ (by refine ⟨?_, ?_, ?_, ?_⟩ <;> (repeat (first | with_reducible (first | assumption | apply Bk.drew | apply Bk.alloc | apply Bk.later (hB := hRwz7) | apply Bk.later (hB := hRwz2) | apply Bk.later (hB := hRwz1)) | ((with_reducible apply Bk.mv hRwz7); (focus omega)) | ((with_reducible apply Bk.mv hRwz2); (focus omega)) | ((with_reducible apply Bk.mv hRwz1); (focus omega)) | ((with_reducible apply Bk.later); rotate_left; (with_reducible assumption)) | ((with_reducible apply Bk.put); rotate_left; (first | (dsimp only; omega)))))) (fun hHeld => ?_)
              clear hK K hOld B0 B1 B2 B3
              try simp only [Act.put, List.setIfInBounds_toArray, List.set_cons_zero, List.set_cons_succ]
              refine wpAnyH_take (i := 7) (v := ?_) (by simp only [List.getElem?_toArray, List.getElem?_cons_succ, List.getElem?_cons_zero]; rfl) (by kernel_rfl) (by kernel_rfl) (by kernel_rfl) (fun _ _ _ h => h) (Or.inl ⟨by rfl, ?_⟩) (by assumption) ?_
              rotate_left
              · intro w hSw; (try dsimp only at hSw); simp only [Bk] at hSw; go_simp; try with_reducible rfl
              try simp only [Act.put, List.setIfInBounds_toArray, List.set_cons_zero, List.set_cons_succ]
              refine wpAnyH_take (i := 8) (v := ?_) (by simp only [List.getElem?_toArray, List.getElem?_cons_succ, List.getElem?_cons_zero]; rfl) (by kernel_rfl) (by kernel_rfl) (by kernel_rfl) (fun _ _ _ h => h) (Or.inl ⟨by rfl, ?_⟩) (by assumption) ?_
              rotate_left
              · intro w hSw; (try dsimp only at hSw); simp only [Bk] at hSw; go_simp; try with_reducible rfl
              try simp only [Act.put, List.setIfInBounds_toArray, List.set_cons_zero, List.set_cons_succ]
              refine wpAnyH_take (i := 9) (v := ?_) (by simp only [List.getElem?_toArray, List.getElem?_cons_succ, List.getElem?_cons_zero]; rfl) (by kernel_rfl) (by kernel_rfl) (by kernel_rfl) (fun _ _ _ h => h) (Or.inl ⟨by rfl, ?_⟩) (by assumption) ?_
              rotate_left
              · intro w hSw; (try dsimp only at hSw); simp only [Bk] at hSw; go_simp; try with_reducible rfl
              try simp only [Act.put, List.setIfInBounds_toArray, List.set_cons_zero, List.set_cons_succ]
              refine wpAnyH_take (i := 10) (v := ?_) (by simp only [List.getElem?_toArray, List.getElem?_cons_succ, List.getElem?_cons_zero]; rfl) (by kernel_rfl) (by kernel_rfl) (by kernel_rfl) (fun _ _ _ h => h) (Or.inl ⟨by rfl, ?_⟩) (by assumption) ?_
              rotate_left
              · intro w hSw; (try dsimp only at hSw); simp only [Bk] at hSw; go_simp; try with_reducible rfl
              try simp only [Act.put, List.setIfInBounds_toArray, List.set_cons_zero, List.set_cons_succ]
              refine wpAnyH_ready (rs := [13]) (by kernel_rfl) (by simp) ?_
              refine AllReadyH.cons rfl (fun K hK => ?_) ?_
              · have hOld := hHeld; clear hHeld
                have B0 := hOld.1
                have B1 := hOld.2.1
                have B2 := hOld.2.2.1
                have B3 := hOld.2.2.2
                have G0 : Bk (wz2.heap.size + 1) 0 [.int .i64 0, .int .i64 0] (wz7) := by first | (simp [Bk, go_sem]; done) | (repeat (first | with_reducible (first | assumption | apply Bk.drew | apply Bk.alloc | apply Bk.later (hB := hRwz7) | apply Bk.later (hB := hRwz2) | apply Bk.later (hB := hRwz1)) | ((with_reducible apply Bk.mv hRwz7); (focus omega)) | ((with_reducible apply Bk.mv hRwz2); (focus omega)) | ((with_reducible apply Bk.mv hRwz1); (focus omega)) | ((with_reducible apply Bk.later); rotate_left; (with_reducible assumption)) | ((with_reducible apply Bk.put); rotate_left; (first | (dsimp only; omega)))))
                simp only [Bk] at G0
                have G1 : Bk (wz2.heap.size) 0 [.int .i64 0, .int .i64 0] (wz7) := by first | (simp [Bk, go_sem]; done) | (repeat (first | with_reducible (first | assumption | apply Bk.drew | apply Bk.alloc | apply Bk.later (hB := hRwz7) | apply Bk.later (hB := hRwz2) | apply Bk.later (hB := hRwz1)) | ((with_reducible apply Bk.mv hRwz7); (focus omega)) | ((with_reducible apply Bk.mv hRwz2); (focus omega)) | ((with_reducible apply Bk.mv hRwz1); (focus omega)) | ((with_reducible apply Bk.later); rotate_left; (with_reducible assumption)) | ((with_reducible apply Bk.put); rotate_left; (first | (dsimp only; omega)))))
                simp only [Bk] at G1
                have na01 : wz2.heap.size + 1 ≠ wz2.heap.size := by omega
                have nb01 := na01.symm
                go_simp
                refine hK.out _ _ (by refine ⟨?_, ?_, ?_, ?_⟩ <;> (repeat (first | with_reducible (first | assumption | apply Bk.drew | apply Bk.alloc | apply Bk.later (hB := hRwz7) | apply Bk.later (hB := hRwz2) | apply Bk.later (hB := hRwz1)) | ((with_reducible apply Bk.mv hRwz7); (focus omega)) | ((with_reducible apply Bk.mv hRwz2); (focus omega)) | ((with_reducible apply Bk.mv hRwz1); (focus omega)) | ((with_reducible apply Bk.later); rotate_left; (with_reducible assumption)) | ((with_reducible apply Bk.put); rotate_left; (first | (dsimp only; omega)))))) (fun hHeld => ?_)
                clear hK K hOld B0 B1 B2 B3
                try simp only [Act.put, List.setIfInBounds_toArray, List.set_cons_zero, List.set_cons_succ]
                refine wpAnyH_ready (rs := [14]) (by kernel_rfl) (by simp) ?_
                refine AllReadyH.cons rfl (fun K hK => ?_) ?_
                · have hOld := hHeld; clear hHeld
                  have B0 := hOld.1
                  have B1 := hOld.2.1
                  have B2 := hOld.2.2.1
                  have B3 := hOld.2.2.2
                  go_simp
                  refine hK.out _ _ (by refine ⟨?_, ?_, ?_, ?_⟩ <;> (repeat (first | with_reducible (first | assumption | apply Bk.drew | apply Bk.alloc | apply Bk.later (hB := hRwz7) | apply Bk.later (hB := hRwz2) | apply Bk.later (hB := hRwz1)) | ((with_reducible apply Bk.mv hRwz7); (focus omega)) | ((with_reducible apply Bk.mv hRwz2); (focus omega)) | ((with_reducible apply Bk.mv hRwz1); (focus omega)) | ((with_reducible apply Bk.later); rotate_left; (with_reducible assumption)) | ((with_reducible apply Bk.put); rotate_left; (first | (dsimp only; omega)))))) (fun hHeld => ?_)
                  clear hK K hOld B0 B1 B2 B3
                  try simp only [Act.put, List.setIfInBounds_toArray, List.set_cons_zero, List.set_cons_succ]
                  refine wpAnyH_take (i := 15) (v := ?_) (by simp only [List.getElem?_toArray, List.getElem?_cons_succ, List.getElem?_cons_zero]; rfl) (by kernel_rfl) (by kernel_rfl) (by kernel_rfl) (fun _ _ _ h => h) (Or.inl ⟨by rfl, ?_⟩) (by assumption) ?_
                  rotate_left
                  · intro w hSw; (try dsimp only at hSw); simp only [Bk] at hSw; go_simp; try with_reducible rfl
                  try simp only [Act.put, List.setIfInBounds_toArray, List.set_cons_zero, List.set_cons_succ]
                  refine wpAnyH_done (by kernel_rfl) ?_ _
                  (try refine NoPanic.normal ?_)
                  go_wp2
                  go_meet
                  exact ⟨_, _, rfl, rfl, rfl, by (repeat (first | with_reducible assumption | with_reducible apply Tw.alloc | with_reducible apply Tw.drew | ((with_reducible apply Tw.after); rotate_left; (with_reducible assumption)) | ((with_reducible apply Tw.setCell); rotate_left; (first | (dsimp only; omega) | omega | (simp; omega)); (first | (dsimp only; omega) | omega | (simp; omega)); (first | (dsimp only; omega) | omega | (simp; omega))))), by simp (maxDischargeDepth := 8) [Bk, go_sem, *], hHeld.2.2.1, hHeld.2.2.2⟩
                exact AllReadyH.nil
              exact AllReadyH.nil
            exact AllReadyH.nil
          exact AllReadyH.nil
        exact AllReadyH.nil
      refine AllReadyH.cons rfl (fun K hK => ?_) ?_
      · have hOld := hHeld; clear hHeld
        have B0 := hOld.1
        have B1 := hOld.2.1
        have B2 := hOld.2.2.1
        have B3 := hOld.2.2.2
        go_simp
        refine hK.out _ _ (by refine ⟨?_, ?_, ?_, ?_⟩ <;> (repeat (first | with_reducible (first | assumption | apply Bk.drew | apply Bk.alloc | apply Bk.later (hB := hRwz1)) | ((with_reducible apply Bk.mv hRwz1); (focus omega)) | ((with_reducible apply Bk.later); rotate_left; (with_reducible assumption)) | ((with_reducible apply Bk.put); rotate_left; (first | (dsimp only; omega)))))) (fun hHeld => ?_)
        clear hK K hOld B0 B1 B2 B3
        try simp only [Act.put, List.setIfInBounds_toArray, List.set_cons_zero, List.set_cons_succ]
        refine wpAnyH_ready (rs := [4, 12]) (by kernel_rfl) (by simp) ?_
        refine AllReadyH.cons rfl (fun K hK => ?_) ?_
        · have hOld := hHeld; clear hHeld
          have B0 := hOld.1
          have B1 := hOld.2.1
          have B2 := hOld.2.2.1
          have B3 := hOld.2.2.2
          go_simp
          (go_at_call 9; (with_reducible refine (kP2 _).mono ?_); rintro e wz8 ⟨rfl, hR⟩)
          have hRwz8 := hR
          have hzR := hR.size
          (try simp at hzR)
          have GR0 : Bk (wz1.heap.size) 0 [.int .i64 0, .int .i64 0] wz8 := Bk.later (by first | (simp [Bk, go_sem]; done) | (repeat (first | with_reducible (first | assumption | apply Bk.drew | apply Bk.alloc | apply Bk.later (hB := hRwz8) | apply Bk.later (hB := hRwz1)) | ((with_reducible apply Bk.mv hRwz8); (focus omega)) | ((with_reducible apply Bk.mv hRwz1); (focus omega)) | ((with_reducible apply Bk.later); rotate_left; (with_reducible assumption)) | ((with_reducible apply Bk.put); rotate_left; (first | (dsimp only; omega)))))) hR
          have GS0 := GR0; simp only [Bk] at GS0
          have nl0 : wz1.heap.size < wz8.heap.size := by omega
          (try go_wp2_with (fail))
          refine hK.out _ _ (by refine ⟨?_, ?_, ?_, ?_⟩ <;> (repeat (first | with_reducible (first | assumption | apply Bk.drew | apply Bk.alloc | apply Bk.later (hB := hRwz8) | apply Bk.later (hB := hRwz1)) | ((with_reducible apply Bk.mv hRwz8); (focus omega)) | ((with_reducible apply Bk.mv hRwz1); (focus omega)) | ((with_reducible apply Bk.later); rotate_left; (with_reducible assumption)) | ((with_reducible apply Bk.put); rotate_left; (first | (dsimp only; omega)))))) (fun hHeld => ?_)
          clear hK K hOld B0 B1 B2 B3
          try simp only [Act.put, List.setIfInBounds_toArray, List.set_cons_zero, List.set_cons_succ]
          refine wpAnyH_ready (rs := [6, 12]) (by kernel_rfl) (by simp) ?_
          refine AllReadyH.cons rfl (fun K hK => ?_) ?_
          · have hOld := hHeld; clear hHeld
            have B0 := hOld.1
            have B1 := hOld.2.1
            have B2 := hOld.2.2.1
            have B3 := hOld.2.2.2
            go_simp
            (go_at_call 14; (with_reducible refine (Tw.call2 (by (repeat (first | with_reducible assumption | with_reducible apply Tw.alloc | with_reducible apply Tw.drew | ((with_reducible apply Tw.after); rotate_left; (with_reducible assumption)) | ((with_reducible apply Tw.setCell); rotate_left; (first | (dsimp only; omega) | omega | (simp; omega)); (first | (dsimp only; omega) | omega | (simp; omega)); (first | (dsimp only; omega) | omega | (simp; omega)))))) (k2 _ _ _)).mono ?_); rintro e wz9 ⟨rfl, hR, HT⟩)
            have hRwz9 := hR
            have hzR := hR.size
            (try simp at hzR)
            have GR0 : Bk (wz1.heap.size) 0 [.int .i64 0, .int .i64 0] wz9 := Bk.mv hR (by omega) (by first | (simp [Bk, go_sem]; done) | (repeat (first | with_reducible (first | assumption | apply Bk.drew | apply Bk.alloc | apply Bk.later (hB := hRwz9) | apply Bk.later (hB := hRwz8) | apply Bk.later (hB := hRwz1)) | ((with_reducible apply Bk.mv hRwz9); (focus omega)) | ((with_reducible apply Bk.mv hRwz8); (focus omega)) | ((with_reducible apply Bk.mv hRwz1); (focus omega)) | ((with_reducible apply Bk.later); rotate_left; (with_reducible assumption)) | ((with_reducible apply Bk.put); rotate_left; (first | (dsimp only; omega))))))
            have GS0 := GR0; simp only [Bk] at GS0
            have nl0 : wz1.heap.size < wz9.heap.size := by omega
            (try go_wp2_with (fail))
            refine hK.out _ _ (by refine ⟨?_, ?_, ?_, ?_⟩ <;> (repeat (first | with_reducible (first | assumption | apply Bk.drew | apply Bk.alloc | apply Bk.later (hB := hRwz9) | apply Bk.later (hB := hRwz8) | apply Bk.later (hB := hRwz1)) | ((with_reducible apply Bk.mv hRwz9); (focus omega)) | ((with_reducible apply Bk.mv hRwz8); (focus omega)) | ((with_reducible apply Bk.mv hRwz1); (focus omega)) | ((with_reducible apply Bk.later); rotate_left; (with_reducible assumption)) | ((with_reducible apply Bk.put); rotate_left; (first | (dsimp only; omega)))))) (fun hHeld => ?_)
            clear hK K hOld B0 B1 B2 B3
            try simp only [Act.put, List.setIfInBounds_toArray, List.set_cons_zero, List.set_cons_succ]
            refine wpAnyH_take (i := 7) (v := ?_) (by simp only [List.getElem?_toArray, List.getElem?_cons_succ, List.getElem?_cons_zero]; rfl) (by kernel_rfl) (by kernel_rfl) (by kernel_rfl) (fun _ _ _ h => h) (Or.inl ⟨by rfl, ?_⟩) (by assumption) ?_
            rotate_left
            · intro w hSw; (try dsimp only at hSw); simp only [Bk] at hSw; go_simp; try with_reducible rfl
            try simp only [Act.put, List.setIfInBounds_toArray, List.set_cons_zero, List.set_cons_succ]
            refine wpAnyH_take (i := 8) (v := ?_) (by simp only [List.getElem?_toArray, List.getElem?_cons_succ, List.getElem?_cons_zero]; rfl) (by kernel_rfl) (by kernel_rfl) (by kernel_rfl) (fun _ _ _ h => h) (Or.inl ⟨by rfl, ?_⟩) (by assumption) ?_
            rotate_left
            · intro w hSw; (try dsimp only at hSw); simp only [Bk] at hSw; go_simp; try with_reducible rfl
            try simp only [Act.put, List.setIfInBounds_toArray, List.set_cons_zero, List.set_cons_succ]
            refine wpAnyH_take (i := 9) (v := ?_) (by simp only [List.getElem?_toArray, List.getElem?_cons_succ, List.getElem?_cons_zero]; rfl) (by kernel_rfl) (by kernel_rfl) (by kernel_rfl) (fun _ _ _ h => h) (Or.inl ⟨by rfl, ?_⟩) (by assumption) ?_
            rotate_left
            · intro w hSw; (try dsimp only at hSw); simp only [Bk] at hSw; go_simp; try with_reducible rfl
            try simp only [Act.put, List.setIfInBounds_toArray, List.set_cons_zero, List.set_cons_succ]
            refine wpAnyH_take (i := 10) (v := ?_) (by simp only [List.getElem?_toArray, List.getElem?_cons_succ, List.getElem?_cons_zero]; rfl) (by kernel_rfl) (by kernel_rfl) (by kernel_rfl) (fun _ _ _ h => h) (Or.inl ⟨by rfl, ?_⟩) (by assumption) ?_
            rotate_left
            · intro w hSw; (try dsimp only at hSw); simp only [Bk] at hSw; go_simp; try with_reducible rfl
            try simp only [Act.put, List.setIfInBounds_toArray, List.set_cons_zero, List.set_cons_succ]
            refine wpAnyH_ready (rs := [12]) (by kernel_rfl) (by simp) ?_
            refine AllReadyH.cons rfl (fun K hK => ?_) ?_
            · have hOld := hHeld; clear hHeld
              have B0 := hOld.1
              have B1 := hOld.2.1
              have B2 := hOld.2.2.1
              have B3 := hOld.2.2.2
              go_simp
              refine hK.out _ _ (by refine ⟨?_, ?_, ?_, ?_⟩ <;> (repeat (first | with_reducible (first | assumption | apply Bk.drew | apply Bk.alloc | apply Bk.later (hB := hRwz9) | apply Bk.later (hB := hRwz8) | apply Bk.later (hB := hRwz1)) | ((with_reducible apply Bk.mv hRwz9); (focus omega)) | ((with_reducible apply Bk.mv hRwz8); (focus omega)) | ((with_reducible apply Bk.mv hRwz1); (focus omega)) | ((with_reducible apply Bk.later); rotate_left; (with_reducible assumption)) | ((with_reducible apply Bk.put); rotate_left; (first | (dsimp only; omega)))))) (fun hHeld => ?_)
              clear hK K hOld B0 B1 B2 B3
              try simp only [Act.put, List.setIfInBounds_toArray, List.set_cons_zero, List.set_cons_succ]
              refine wpAnyH_ready (rs := [13]) (by kernel_rfl) (by simp) ?_
              refine AllReadyH.cons rfl (fun K hK => ?_) ?_
              · have hOld := hHeld; clear hHeld
                have B0 := hOld.1
                have B1 := hOld.2.1
                have B2 := hOld.2.2.1
                have B3 := hOld.2.2.2
                have G0 : Bk (wz1.heap.size) 0 [.int .i64 0, .int .i64 0] ((wz9).alloc (Obj.cells #[.int .i64 0, .int .i64 0] 24)) := by first | (simp [Bk, go_sem]; done) | (repeat (first | with_reducible (first | assumption | apply Bk.drew | apply Bk.alloc | apply Bk.later (hB := hRwz9) | apply Bk.later (hB := hRwz8) | apply Bk.later (hB := hRwz1)) | ((with_reducible apply Bk.mv hRwz9); (focus omega)) | ((with_reducible apply Bk.mv hRwz8); (focus omega)) | ((with_reducible apply Bk.mv hRwz1); (focus omega)) | ((with_reducible apply Bk.later); rotate_left; (with_reducible assumption)) | ((with_reducible apply Bk.put); rotate_left; (first | (dsimp only; omega)))))
                simp only [Bk] at G0
                have G1 : Bk (wz9.heap.size) 0 [.int .i64 0, .int .i64 0] ((wz9).alloc (Obj.cells #[.int .i64 0, .int .i64 0] 24)) := by first | (simp [Bk, go_sem]; done) | (repeat (first | with_reducible (first | assumption | apply Bk.drew | apply Bk.alloc | apply Bk.later (hB := hRwz9) | apply Bk.later (hB := hRwz8) | apply Bk.later (hB := hRwz1)) | ((with_reducible apply Bk.mv hRwz9); (focus omega)) | ((with_reducible apply Bk.mv hRwz8); (focus omega)) | ((with_reducible apply Bk.mv hRwz1); (focus omega)) | ((with_reducible apply Bk.later); rotate_left; (with_reducible assumption)) | ((with_reducible apply Bk.put); rotate_left; (first | (dsimp only; omega)))))
                simp only [Bk] at G1
                have na01 : wz1.heap.size ≠ wz9.heap.size := by omega
                have nb01 := na01.symm
                go_simp
                refine hK.out _ _ (by refine ⟨?_, ?_, ?_, ?_⟩ <;> (repeat (first | with_reducible (first | assumption | apply Bk.drew | apply Bk.alloc | apply Bk.later (hB := hRwz9) | apply Bk.later (hB := hRwz8) | apply Bk.later (hB := hRwz1)) | ((with_reducible apply Bk.mv hRwz9); (focus omega)) | ((with_reducible apply Bk.mv hRwz8); (focus omega)) | ((with_reducible apply Bk.mv hRwz1); (focus omega)) | ((with_reducible apply Bk.later); rotate_left; (with_reducible assumption)) | ((with_reducible apply Bk.put); rotate_left; (first | (dsimp only; omega)))))) (fun hHeld => ?_)
                clear hK K hOld B0 B1 B2 B3
                try simp only [Act.put, List.setIfInBounds_toArray, List.set_cons_zero, List.set_cons_succ]
                refine wpAnyH_ready (rs := [14]) (by kernel_rfl) (by simp) ?_
                refine AllReadyH.cons rfl (fun K hK => ?_) ?_
                · have hOld := hHeld; clear hHeld
                  have B0 := hOld.1
                  have B1 := hOld.2.1
                  have B2 := hOld.2.2.1
                  have B3 := hOld.2.2.2
                  go_simp
                  refine hK.out _ _ (by refine ⟨?_, ?_, ?_, ?_⟩ <;> (repeat (first | with_reducible (first | assumption | apply Bk.drew | apply Bk.alloc | apply Bk.later (hB := hRwz9) | apply Bk.later (hB := hRwz8) | apply Bk.later (hB := hRwz1)) | ((with_reducible apply Bk.mv hRwz9); (focus omega)) | ((with_reducible apply Bk.mv hRwz8); (focus omega)) | ((with_reducible apply Bk.mv hRwz1); (focus omega)) | ((with_reducible apply Bk.later); rotate_left; (with_reducible assumption)) | ((with_reducible apply Bk.put); rotate_left; (first | (dsimp only; omega)))))) (fun hHeld => ?_)
                  clear hK K hOld B0 B1 B2 B3
                  try simp only [Act.put, List.setIfInBounds_toArray, List.set_cons_zero, List.set_cons_succ]
                  refine wpAnyH_take (i := 15) (v := ?_) (by simp only [List.getElem?_toArray, List.getElem?_cons_succ, List.getElem?_cons_zero]; rfl) (by kernel_rfl) (by kernel_rfl) (by kernel_rfl) (fun _ _ _ h => h) (Or.inl ⟨by rfl, ?_⟩) (by assumption) ?_
                  rotate_left
                  · intro w hSw; (try dsimp only at hSw); simp only [Bk] at hSw; go_simp; try with_reducible rfl
                  try simp only [Act.put, List.setIfInBounds_toArray, List.set_cons_zero, List.set_cons_succ]
                  refine wpAnyH_done (by kernel_rfl) ?_ _
                  (try refine NoPanic.normal ?_)
                  go_wp2
                  go_meet
                  exact ⟨_, _, rfl, rfl, rfl, by (repeat (first | with_reducible assumption | with_reducible apply Tw.alloc | with_reducible apply Tw.drew | ((with_reducible apply Tw.after); rotate_left; (with_reducible assumption)) | ((with_reducible apply Tw.setCell); rotate_left; (first | (dsimp only; omega) | omega | (simp; omega)); (first | (dsimp only; omega) | omega | (simp; omega)); (first | (dsimp only; omega) | omega | (simp; omega))))), by simp (maxDischargeDepth := 8) [Bk, go_sem, *], hHeld.2.2.1, hHeld.2.2.2⟩
                exact AllReadyH.nil
              exact AllReadyH.nil
            exact AllReadyH.nil
          refine AllReadyH.cons rfl (fun K hK => ?_) ?_
          · have hOld := hHeld; clear hHeld
            have B0 := hOld.1
            have B1 := hOld.2.1
            have B2 := hOld.2.2.1
            have B3 := hOld.2.2.2
            go_simp
            refine hK.out _ _ (by refine ⟨?_, ?_, ?_, ?_⟩ <;> (repeat (first | with_reducible (first | assumption | apply Bk.drew | apply Bk.alloc | apply Bk.later (hB := hRwz8) | apply Bk.later (hB := hRwz1)) | ((with_reducible apply Bk.mv hRwz8); (focus omega)) | ((with_reducible apply Bk.mv hRwz1); (focus omega)) | ((with_reducible apply Bk.later); rotate_left; (with_reducible assumption)) | ((with_reducible apply Bk.put); rotate_left; (first | (dsimp only; omega)))))) (fun hHeld => ?_)
            clear hK K hOld B0 B1 B2 B3
            try simp only [Act.put, List.setIfInBounds_toArray, List.set_cons_zero, List.set_cons_succ]
            refine wpAnyH_ready (rs := [6]) (by kernel_rfl) (by simp) ?_
            refine AllReadyH.cons rfl (fun K hK => ?_) ?_
            · have hOld := hHeld; clear hHeld
              have B0 := hOld.1
              have B1 := hOld.2.1
              have B2 := hOld.2.2.1
              have B3 := hOld.2.2.2
              go_simp
              (go_at_call 14; (with_reducible refine (Tw.call2 (by (repeat (first | with_reducible assumption | with_reducible apply Tw.alloc | with_reducible apply Tw.drew | ((with_reducible apply Tw.after); rotate_left; (with_reducible assumption)) | ((with_reducible apply Tw.setCell); rotate_left; (first | (dsimp only; omega) | omega | (simp; omega)); (first | (dsimp only; omega) | omega | (simp; omega)); (first | (dsimp only; omega) | omega | (simp; omega)))))) (k2 _ _ _)).mono ?_); rintro e wz10 ⟨rfl, hR, HT⟩)
              have hRwz10 := hR
              have hzR := hR.size
              (try simp at hzR)
              have GR0 : Bk (wz1.heap.size) 0 [.int .i64 0, .int .i64 0] wz10 := Bk.mv hR (by omega) (by first | (simp [Bk, go_sem]; done) | (repeat (first | with_reducible (first | assumption | apply Bk.drew | apply Bk.alloc | apply Bk.later (hB := hRwz10) | apply Bk.later (hB := hRwz8) | apply Bk.later (hB := hRwz1)) | ((with_reducible apply Bk.mv hRwz10); (focus omega)) | ((with_reducible apply Bk.mv hRwz8); (focus omega)) | ((with_reducible apply Bk.mv hRwz1); (focus omega)) | ((with_reducible apply Bk.later); rotate_left; (with_reducible assumption)) | ((with_reducible apply Bk.put); rotate_left; (first | (dsimp only; omega))))))
              have GS0 := GR0; simp only [Bk] at GS0
              have nl0 : wz1.heap.size < wz10.heap.size := by omega
              have GR1 : Bk (wz8.heap.size) 0 [.int .i64 0, .int .i64 0] wz10 := Bk.mv hR (by omega) (by first | (simp [Bk, go_sem]; done) | (repeat (first | with_reducible (first | assumption | apply Bk.drew | apply Bk.alloc | apply Bk.later (hB := hRwz10) | apply Bk.later (hB := hRwz8) | apply Bk.later (hB := hRwz1)) | ((with_reducible apply Bk.mv hRwz10); (focus omega)) | ((with_reducible apply Bk.mv hRwz8); (focus omega)) | ((with_reducible apply Bk.mv hRwz1); (focus omega)) | ((with_reducible apply Bk.later); rotate_left; (with_reducible assumption)) | ((with_reducible apply Bk.put); rotate_left; (first | (dsimp only; omega))))))
              have GS1 := GR1; simp only [Bk] at GS1
              have nl1 : wz8.heap.size < wz10.heap.size := by omega
              (try go_wp2_with (fail))
              refine hK.out _ _ (by refine ⟨?_, ?_, ?_, ?_⟩ <;> (repeat (first | with_reducible (first | assumption | apply Bk.drew | apply Bk.alloc | apply Bk.later (hB := hRwz10) | apply Bk.later (hB := hRwz8) | apply Bk.later (hB := hRwz1)) | ((with_reducible apply Bk.mv hRwz10); (focus omega)) | ((with_reducible apply Bk.mv hRwz8); (focus omega)) | ((with_reducible apply Bk.mv hRwz1); (focus omega)) | ((with_reducible apply Bk.later); rotate_left; (with_reducible assumption)) | ((with_reducible apply Bk.put); rotate_left; (first | (dsimp only; omega)))))) (fun hHeld => ?_)
              clear hK K hOld B0 B1 B2 B3
              try simp only [Act.put, List.setIfInBounds_toArray, List.set_cons_zero, List.set_cons_succ]
              refine wpAnyH_take (i := 7) (v := ?_) (by simp only [List.getElem?_toArray, List.getElem?_cons_succ, List.getElem?_cons_zero]; rfl) (by kernel_rfl) (by kernel_rfl) (by kernel_rfl) (fun _ _ _ h => h) (Or.inl ⟨by rfl, ?_⟩) (by assumption) ?_
              rotate_left
              · intro w hSw; (try dsimp only at hSw); simp only [Bk] at hSw; go_simp; try with_reducible rfl
              try simp only [Act.put, List.setIfInBounds_toArray, List.set_cons_zero, List.set_cons_succ]
              refine wpAnyH_take (i := 8) (v := ?_) (by simp only [List.getElem?_toArray, List.getElem?_cons_succ, List.getElem?_cons_zero]; rfl) (by kernel_rfl) (by kernel_rfl) (by kernel_rfl) (fun _ _ _ h => h) (Or.inl ⟨by rfl, ?_⟩) (by assumption) ?_
              rotate_left
              · intro w hSw; (try dsimp only at hSw); simp only [Bk] at hSw; go_simp; try with_reducible rfl
              try simp only [Act.put, List.setIfInBounds_toArray, List.set_cons_zero, List.set_cons_succ]
              refine wpAnyH_take (i := 9) (v := ?_) (by simp only [List.getElem?_toArray, List.getElem?_cons_succ, List.getElem?_cons_zero]; rfl) (by kernel_rfl) (by kernel_rfl) (by kernel_rfl) (fun _ _ _ h => h) (Or.inl ⟨by rfl, ?_⟩) (by assumption) ?_
              rotate_left
              · intro w hSw; (try dsimp only at hSw); simp only [Bk] at hSw; go_simp; try with_reducible rfl
              try simp only [Act.put, List.setIfInBounds_toArray, List.set_cons_zero, List.set_cons_succ]
              refine wpAnyH_take (i := 10) (v := ?_) (by simp only [List.getElem?_toArray, List.getElem?_cons_succ, List.getElem?_cons_zero]; rfl) (by kernel_rfl) (by kernel_rfl) (by kernel_rfl) (fun _ _ _ h => h) (Or.inl ⟨by rfl, ?_⟩) (by assumption) ?_
              rotate_left
              · intro w hSw; (try dsimp only at hSw); simp only [Bk] at hSw; go_simp; try with_reducible rfl
              try simp only [Act.put, List.setIfInBounds_toArray, List.set_cons_zero, List.set_cons_succ]
              refine wpAnyH_ready (rs := [13]) (by kernel_rfl) (by simp) ?_
              refine AllReadyH.cons rfl (fun K hK => ?_) ?_
              · have hOld := hHeld; clear hHeld
                have B0 := hOld.1
                have B1 := hOld.2.1
                have B2 := hOld.2.2.1
                have B3 := hOld.2.2.2
                have G0 : Bk (wz1.heap.size) 0 [.int .i64 0, .int .i64 0] (wz10) := by first | (simp [Bk, go_sem]; done) | (repeat (first | with_reducible (first | assumption | apply Bk.drew | apply Bk.alloc | apply Bk.later (hB := hRwz10) | apply Bk.later (hB := hRwz8) | apply Bk.later (hB := hRwz1)) | ((with_reducible apply Bk.mv hRwz10); (focus omega)) | ((with_reducible apply Bk.mv hRwz8); (focus omega)) | ((with_reducible apply Bk.mv hRwz1); (focus omega)) | ((with_reducible apply Bk.later); rotate_left; (with_reducible assumption)) | ((with_reducible apply Bk.put); rotate_left; (first | (dsimp only; omega)))))
                simp only [Bk] at G0
                have G1 : Bk (wz8.heap.size) 0 [.int .i64 0, .int .i64 0] (wz10) := by first | (simp [Bk, go_sem]; done) | (repeat (first | with_reducible (first | assumption | apply Bk.drew | apply Bk.alloc | apply Bk.later (hB := hRwz10) | apply Bk.later (hB := hRwz8) | apply Bk.later (hB := hRwz1)) | ((with_reducible apply Bk.mv hRwz10); (focus omega)) | ((with_reducible apply Bk.mv hRwz8); (focus omega)) | ((with_reducible apply Bk.mv hRwz1); (focus omega)) | ((with_reducible apply Bk.later); rotate_left; (with_reducible assumption)) | ((with_reducible apply Bk.put); rotate_left; (first | (dsimp only; omega)))))
                simp only [Bk] at G1
                have na01 : wz1.heap.size ≠ wz8.heap.size := by omega
                have nb01 := na01.symm
                go_simp
                refine hK.out _ _ (by refine ⟨?_, ?_, ?_, ?_⟩ <;> (repeat (first | with_reducible (first | assumption | apply Bk.drew | apply Bk.alloc | apply Bk.later (hB := hRwz10) | apply Bk.later (hB := hRwz8) | apply Bk.later (hB := hRwz1)) | ((with_reducible apply Bk.mv hRwz10); (focus omega)) | ((with_reducible apply Bk.mv hRwz8); (focus omega)) | ((with_reducible apply Bk.mv hRwz1); (focus omega)) | ((with_reducible apply Bk.later); rotate_left; (with_reducible assumption)) | ((with_reducible apply Bk.put); rotate_left; (first | (dsimp only; omega)))))) (fun hHeld => ?_)
                clear hK K hOld B0 B1 B2 B3
                try simp only [Act.put, List.setIfInBounds_toArray, List.set_cons_zero, List.set_cons_succ]
                refine wpAnyH_ready (rs := [14]) (by kernel_rfl) (by simp) ?_
                refine AllReadyH.cons rfl (fun K hK => ?_) ?_
                · have hOld := hHeld; clear hHeld
                  have B0 := hOld.1
                  have B1 := hOld.2.1
                  have B2 := hOld.2.2.1
                  have B3 := hOld.2.2.2
                  go_simp
                  refine hK.out _ _ (by refine ⟨?_, ?_, ?_, ?_⟩ <;> (repeat (first | with_reducible (first | assumption | apply Bk.drew | apply Bk.alloc | apply Bk.later (hB := hRwz10) | apply Bk.later (hB := hRwz8) | apply Bk.later (hB := hRwz1)) | ((with_reducible apply Bk.mv hRwz10); (focus omega)) | ((with_reducible apply Bk.mv hRwz8); (focus omega)) | ((with_reducible apply Bk.mv hRwz1); (focus omega)) | ((with_reducible apply Bk.later); rotate_left; (with_reducible assumption)) | ((with_reducible apply Bk.put); rotate_left; (first | (dsimp only; omega)))))) (fun hHeld => ?_)
                  clear hK K hOld B0 B1 B2 B3
                  try simp only [Act.put, List.setIfInBounds_toArray, List.set_cons_zero, List.set_cons_succ]
                  refine wpAnyH_take (i := 15) (v := ?_) (by simp only [List.getElem?_toArray, List.getElem?_cons_succ, List.getElem?_cons_zero]; rfl) (by kernel_rfl) (by kernel_rfl) (by kernel_rfl) (fun _ _ _ h => h) (Or.inl ⟨by rfl, ?_⟩) (by assumption) ?_
                  rotate_left
                  · intro w hSw; (try dsimp only at hSw); simp only [Bk] at hSw; go_simp; try with_reducible rfl
                  try simp only [Act.put, List.setIfInBounds_toArray, List.set_cons_zero, List.set_cons_succ]
                  refine wpAnyH_done (by kernel_rfl) ?_ _
                  (try refine NoPanic.normal ?_)
                  go_wp2
                  go_meet
                  exact ⟨_, _, rfl, rfl, rfl, by (repeat (first | with_reducible assumption | with_reducible apply Tw.alloc | with_reducible apply Tw.drew | ((with_reducible apply Tw.after); rotate_left; (with_reducible assumption)) | ((with_reducible apply Tw.setCell); rotate_left; (first | (dsimp only; omega) | omega | (simp; omega)); (first | (dsimp only; omega) | omega | (simp; omega)); (first | (dsimp only; omega) | omega | (simp; omega))))), by simp (maxDischargeDepth := 8) [Bk, go_sem, *], hHeld.2.2.1, hHeld.2.2.2⟩
                exact AllReadyH.nil
              exact AllReadyH.nil
            exact AllReadyH.nil
          exact AllReadyH.nil
        refine AllReadyH.cons rfl (fun K hK => ?_) ?_
        · have hOld := hHeld; clear hHeld
          have B0 := hOld.1
          have B1 := hOld.2.1
          have B2 := hOld.2.2.1
          have B3 := hOld.2.2.2
          go_simp
          refine hK.out _ _ (by refine ⟨?_, ?_, ?_, ?_⟩ <;> (repeat (first | with_reducible (first | assumption | apply Bk.drew | apply Bk.alloc | apply Bk.later (hB := hRwz1)) | ((with_reducible apply Bk.mv hRwz1); (focus omega)) | ((with_reducible apply Bk.later); rotate_left; (with_reducible assumption)) | ((with_reducible apply Bk.put); rotate_left; (first | (dsimp only; omega)))))) (fun hHeld => ?_)
          clear hK K hOld B0 B1 B2 B3
          try simp only [Act.put, List.setIfInBounds_toArray, List.set_cons_zero, List.set_cons_succ]
          refine wpAnyH_ready (rs := [4]) (by kernel_rfl) (by simp) ?_
          refine AllReadyH.cons rfl (fun K hK => ?_) ?_
          · have hOld := hHeld; clear hHeld
            have B0 := hOld.1
            have B1 := hOld.2.1
            have B2 := hOld.2.2.1
            have B3 := hOld.2.2.2
            go_simp
            (go_at_call 9; (with_reducible refine (kP2 _).mono ?_); rintro e wz11 ⟨rfl, hR⟩)
            have hRwz11 := hR
            have hzR := hR.size
            (try simp at hzR)
            have GR0 : Bk (wz1.heap.size) 0 [.int .i64 0, .int .i64 0] wz11 := Bk.later (by first | (simp [Bk, go_sem]; done) | (repeat (first | with_reducible (first | assumption | apply Bk.drew | apply Bk.alloc | apply Bk.later (hB := hRwz11) | apply Bk.later (hB := hRwz1)) | ((with_reducible apply Bk.mv hRwz11); (focus omega)) | ((with_reducible apply Bk.mv hRwz1); (focus omega)) | ((with_reducible apply Bk.later); rotate_left; (with_reducible assumption)) | ((with_reducible apply Bk.put); rotate_left; (first | (dsimp only; omega)))))) hR
            have GS0 := GR0; simp only [Bk] at GS0
            have nl0 : wz1.heap.size < wz11.heap.size := by omega
            have GR1 : Bk (wz1.heap.size + 1) 0 [.int .i64 0, .int .i64 0] wz11 := Bk.later (by first | (simp [Bk, go_sem]; done) | (repeat (first | with_reducible (first | assumption | apply Bk.drew | apply Bk.alloc | apply Bk.later (hB := hRwz11) | apply Bk.later (hB := hRwz1)) | ((with_reducible apply Bk.mv hRwz11); (focus omega)) | ((with_reducible apply Bk.mv hRwz1); (focus omega)) | ((with_reducible apply Bk.later); rotate_left; (with_reducible assumption)) | ((with_reducible apply Bk.put); rotate_left; (first | (dsimp only; omega)))))) hR
            have GS1 := GR1; simp only [Bk] at GS1
            have nl1 : wz1.heap.size + 1 < wz11.heap.size := by omega
            (try go_wp2_with (fail))
            refine hK.out _ _ (by refine ⟨?_, ?_, ?_, ?_⟩ <;> (repeat (first | with_reducible (first | assumption | apply Bk.drew | apply Bk.alloc | apply Bk.later (hB := hRwz11) | apply Bk.later (hB := hRwz1)) | ((with_reducible apply Bk.mv hRwz11); (focus omega)) | ((with_reducible apply Bk.mv hRwz1); (focus omega)) | ((with_reducible apply Bk.later); rotate_left; (with_reducible assumption)) | ((with_reducible apply Bk.put); rotate_left; (first | (dsimp only; omega)))))) (fun hHeld => ?_)
            clear hK K hOld B0 B1 B2 B3
            try simp only [Act.put, List.setIfInBounds_toArray, List.set_cons_zero, List.set_cons_succ]
            refine wpAnyH_ready (rs := [6]) (by kernel_rfl) (by simp) ?_
            refine AllReadyH.cons rfl (fun K hK => ?_) ?_
            · have hOld := hHeld; clear hHeld
              have B0 := hOld.1
              have B1 := hOld.2.1
              have B2 := hOld.2.2.1
              have B3 := hOld.2.2.2
              go_simp
              (go_at_call 14; (with_reducible refine (Tw.call2 (by (repeat (first | with_reducible assumption | with_reducible apply Tw.alloc | with_reducible apply Tw.drew | ((with_reducible apply Tw.after); rotate_left; (with_reducible assumption)) | ((with_reducible apply Tw.setCell); rotate_left; (first | (dsimp only; omega) | omega | (simp; omega)); (first | (dsimp only; omega) | omega | (simp; omega)); (first | (dsimp only; omega) | omega | (simp; omega)))))) (k2 _ _ _)).mono ?_); rintro e wz12 ⟨rfl, hR, HT⟩)
              have hRwz12 := hR
              have hzR := hR.size
              (try simp at hzR)
              have GR0 : Bk (wz1.heap.size) 0 [.int .i64 0, .int .i64 0] wz12 := Bk.mv hR (by omega) (by first | (simp [Bk, go_sem]; done) | (repeat (first | with_reducible (first | assumption | apply Bk.drew | apply Bk.alloc | apply Bk.later (hB := hRwz12) | apply Bk.later (hB := hRwz11) | apply Bk.later (hB := hRwz1)) | ((with_reducible apply Bk.mv hRwz12); (focus omega)) | ((with_reducible apply Bk.mv hRwz11); (focus omega)) | ((with_reducible apply Bk.mv hRwz1); (focus omega)) | ((with_reducible apply Bk.later); rotate_left; (with_reducible assumption)) | ((with_reducible apply Bk.put); rotate_left; (first | (dsimp only; omega))))))
              have GS0 := GR0; simp only [Bk] at GS0
              have nl0 : wz1.heap.size < wz12.heap.size := by omega
              have GR1 : Bk (wz1.heap.size + 1) 0 [.int .i64 0, .int .i64 0] wz12 := Bk.mv hR (by omega) (by first | (simp [Bk, go_sem]; done) | (repeat (first | with_reducible (first | assumption | apply Bk.drew | apply Bk.alloc | apply Bk.later (hB := hRwz12) | apply Bk.later (hB := hRwz11) | apply Bk.later (hB := hRwz1)) | ((with_reducible apply Bk.mv hRwz12); (focus omega)) | ((with_reducible apply Bk.mv hRwz11); (focus omega)) | ((with_reducible apply Bk.mv hRwz1); (focus omega)) | ((with_reducible apply Bk.later); rotate_left; (with_reducible assumption)) | ((with_reducible apply Bk.put); rotate_left; (first | (dsimp only; omega))))))
              have GS1 := GR1; simp only [Bk] at GS1
              have nl1 : wz1.heap.size + 1 < wz12.heap.size := by omega
              (try go_wp2_with (fail))
              refine hK.out _ _ (by refine ⟨?_, ?_, ?_, ?_⟩ <;> (repeat (first | with_reducible (first | assumption | apply Bk.drew | apply Bk.alloc | apply Bk.later (hB := hRwz12) | apply Bk.later (hB := hRwz11) | apply Bk.later (hB := hRwz1)) | ((with_reducible apply Bk.mv hRwz12); (focus omega)) | ((with_reducible apply Bk.mv hRwz11); (focus omega)) | ((with_reducible apply Bk.mv hRwz1); (focus omega)) | ((with_reducible apply Bk.later); rotate_left; (with_reducible assumption)) | ((with_reducible apply Bk.put); rotate_left; (first | (dsimp only; omega)))))) (fun hHeld => ?_)
              clear hK K hOld B0 B1 B2 B3
              try simp only [Act.put, List.setIfInBounds_toArray, List.set_cons_zero, List.set_cons_succ]
              refine wpAnyH_take (i := 7) (v := ?_) (by simp only [List.getElem?_toArray, List.getElem?_cons_succ, List.getElem?_cons_zero]; rfl) (by kernel_rfl) (by kernel_rfl) (by kernel_rfl) (fun _ _ _ h => h) (Or.inl ⟨by rfl, ?_⟩) (by assumption) ?_
              rotate_left
              · intro w hSw; (try dsimp only at hSw); simp only [Bk] at hSw; go_simp; try with_reducible rfl
              try simp only [Act.put, List.setIfInBounds_toArray, List.set_cons_zero, List.set_cons_succ]
              refine wpAnyH_take (i := 8) (v := ?_) (by simp only [List.getElem?_toArray, List.getElem?_cons_succ, List.getElem?_cons_zero]; rfl) (by kernel_rfl) (by kernel_rfl) (by kernel_rfl) (fun _ _ _ h => h) (Or.inl ⟨by rfl, ?_⟩) (by assumption) ?_
              rotate_left
              · intro w hSw; (try dsimp only at hSw); simp only [Bk] at hSw; go_simp; try with_reducible rfl
              try simp only [Act.put, List.setIfInBounds_toArray, List.set_cons_zero, List.set_cons_succ]
              refine wpAnyH_take (i := 9) (v := ?_) (by simp only [List.getElem?_toArray, List.getElem?_cons_succ, List.getElem?_cons_zero]; rfl) (by kernel_rfl) (by kernel_rfl) (by kernel_rfl) (fun _ _ _ h => h) (Or.inl ⟨by rfl, ?_⟩) (by assumption) ?_
              rotate_left
              · intro w hSw; (try dsimp only at hSw); simp only [Bk] at hSw; go_simp; try with_reducible rfl
              try simp only [Act.put, List.setIfInBounds_toArray, List.set_cons_zero, List.set_cons_succ]
              refine wpAnyH_take (i := 10) (v := ?_) (by simp only [List.getElem?_toArray, List.getElem?_cons_succ, List.getElem?_cons_zero]; rfl) (by kernel_rfl) (by kernel_rfl) (by kernel_rfl) (fun _ _ _ h => h) (Or.inl ⟨by rfl, ?_⟩) (by assumption) ?_
              rotate_left
              · intro w hSw; (try dsimp only at hSw); simp only [Bk] at hSw; go_simp; try with_reducible rfl
              try simp only [Act.put, List.setIfInBounds_toArray, List.set_cons_zero, List.set_cons_succ]
              refine wpAnyH_ready (rs := [13]) (by kernel_rfl) (by simp) ?_
              refine AllReadyH.cons rfl (fun K hK => ?_) ?_
              · have hOld := hHeld; clear hHeld
                have B0 := hOld.1
                have B1 := hOld.2.1
                have B2 := hOld.2.2.1
                have B3 := hOld.2.2.2
                have G0 : Bk (wz1.heap.size) 0 [.int .i64 0, .int .i64 0] (wz12) := by first | (simp [Bk, go_sem]; done) | (repeat (first | with_reducible (first | assumption | apply Bk.drew | apply Bk.alloc | apply Bk.later (hB := hRwz12) | apply Bk.later (hB := hRwz11) | apply Bk.later (hB := hRwz1)) | ((with_reducible apply Bk.mv hRwz12); (focus omega)) | ((with_reducible apply Bk.mv hRwz11); (focus omega)) | ((with_reducible apply Bk.mv hRwz1); (focus omega)) | ((with_reducible apply Bk.later); rotate_left; (with_reducible assumption)) | ((with_reducible apply Bk.put); rotate_left; (first | (dsimp only; omega)))))
                simp only [Bk] at G0
                have G1 : Bk (wz1.heap.size + 1) 0 [.int .i64 0, .int .i64 0] (wz12) := by first | (simp [Bk, go_sem]; done) | (repeat (first | with_reducible (first | assumption | apply Bk.drew | apply Bk.alloc | apply Bk.later (hB := hRwz12) | apply Bk.later (hB := hRwz11) | apply Bk.later (hB := hRwz1)) | ((with_reducible apply Bk.mv hRwz12); (focus omega)) | ((with_reducible apply Bk.mv hRwz11); (focus omega)) | ((with_reducible apply Bk.mv hRwz1); (focus omega)) | ((with_reducible apply Bk.later); rotate_left; (with_reducible assumption)) | ((with_reducible apply Bk.put); rotate_left; (first | (dsimp only; omega)))))
                simp only [Bk] at G1
                have na01 : wz1.heap.size ≠ wz1.heap.size + 1 := by omega
                have nb01 := na01.symm
                go_simp
                refine hK.out _ _ (by refine ⟨?_, ?_, ?_, ?_⟩ <;> (repeat (first | with_reducible (first | assumption | apply Bk.drew | apply Bk.alloc | apply Bk.later (hB := hRwz12) | apply Bk.later (hB := hRwz11) | apply Bk.later (hB := hRwz1)) | ((with_reducible apply Bk.mv hRwz12); (focus omega)) | ((with_reducible apply Bk.mv hRwz11); (focus omega)) | ((with_reducible apply Bk.mv hRwz1); (focus omega)) | ((with_reducible apply Bk.later); rotate_left; (with_reducible assumption)) | ((with_reducible apply Bk.put); rotate_left; (first | (dsimp only; omega)))))) (fun hHeld => ?_)
                clear hK K hOld B0 B1 B2 B3
                try simp only [Act.put, List.setIfInBounds_toArray, List.set_cons_zero, List.set_cons_succ]
                refine wpAnyH_ready (rs := [14]) (by kernel_rfl) (by simp) ?_
                refine AllReadyH.cons rfl (fun K hK => ?_) ?_
                · have hOld := hHeld; clear hHeld
                  have B0 := hOld.1
                  have B1 := hOld.2.1
                  have B2 := hOld.2.2.1
                  have B3 := hOld.2.2.2
                  go_simp
                  refine hK.out _ _ (by refine ⟨?_, ?_, ?_, ?_⟩ <;> (repeat (first | with_reducible (first | assumption | apply Bk.drew | apply Bk.alloc | apply Bk.later (hB := hRwz12) | apply Bk.later (hB := hRwz11) | apply Bk.later (hB := hRwz1)) | ((with_reducible apply Bk.mv hRwz12); (focus omega)) | ((with_reducible apply Bk.mv hRwz11); (focus omega)) | ((with_reducible apply Bk.mv hRwz1); (focus omega)) | ((with_reducible apply Bk.later); rotate_left; (with_reducible assumption)) | ((with_reducible apply Bk.put); rotate_left; (first | (dsimp only; omega)))))) (fun hHeld => ?_)
                  clear hK K hOld B0 B1 B2 B3
                  try simp only [Act.put, List.setIfInBounds_toArray, List.set_cons_zero, List.set_cons_succ]
                  refine wpAnyH_take (i := 15) (v := ?_) (by simp only [List.getElem?_toArray, List.getElem?_cons_succ, List.getElem?_cons_zero]; rfl) (by kernel_rfl) (by kernel_rfl) (by kernel_rfl) (fun _ _ _ h => h) (Or.inl ⟨by rfl, ?_⟩) (by assumption) ?_
                  rotate_left
                  · intro w hSw; (try dsimp only at hSw); simp only [Bk] at hSw; go_simp; try with_reducible rfl
                  try simp only [Act.put, List.setIfInBounds_toArray, List.set_cons_zero, List.set_cons_succ]
                  refine wpAnyH_done (by kernel_rfl) ?_ _
                  (try refine NoPanic.normal ?_)
                  go_wp2
                  go_meet
                  exact ⟨_, _, rfl, rfl, rfl, by (repeat (first | with_reducible assumption | with_reducible apply Tw.alloc | with_reducible apply Tw.drew | ((with_reducible apply Tw.after); rotate_left; (with_reducible assumption)) | ((with_reducible apply Tw.setCell); rotate_left; (first | (dsimp only; omega) | omega | (simp; omega)); (first | (dsimp only; omega) | omega | (simp; omega)); (first | (dsimp only; omega) | omega | (simp; omega))))), by simp (maxDischargeDepth := 8) [Bk, go_sem, *], hHeld.2.2.1, hHeld.2.2.2⟩
                exact AllReadyH.nil
              exact AllReadyH.nil
            exact AllReadyH.nil
          exact AllReadyH.nil
        exact AllReadyH.nil
      refine AllReadyH.cons rfl (fun K hK => ?_) ?_
      · have hOld := hHeld; clear hHeld
        have B0 := hOld.1
        have B1 := hOld.2.1
        have B2 := hOld.2.2.1
        have B3 := hOld.2.2.2
        go_simp
        refine hK.out _ _ (by refine ⟨?_, ?_, ?_, ?_⟩ <;> (repeat (first | with_reducible (first | assumption | apply Bk.drew | apply Bk.alloc | apply Bk.later (hB := hRwz1)) | ((with_reducible apply Bk.mv hRwz1); (focus omega)) | ((with_reducible apply Bk.later); rotate_left; (with_reducible assumption)) | ((with_reducible apply Bk.put); rotate_left; (first | (dsimp only; omega)))))) (fun hHeld => ?_)
        clear hK K hOld B0 B1 B2 B3
        try simp only [Act.put, List.setIfInBounds_toArray, List.set_cons_zero, List.set_cons_succ]
        refine wpAnyH_ready (rs := [4, 11]) (by kernel_rfl) (by simp) ?_
        refine AllReadyH.cons rfl (fun K hK => ?_) ?_
        · have hOld := hHeld; clear hHeld
          have B0 := hOld.1
          have B1 := hOld.2.1
          have B2 := hOld.2.2.1
          have B3 := hOld.2.2.2
          go_simp
          (go_at_call 9; (with_reducible refine (kP2 _).mono ?_); rintro e wz13 ⟨rfl, hR⟩)
          have hRwz13 := hR
          have hzR := hR.size
          (try simp at hzR)
          have GR1 : Bk (wz1.heap.size) 0 [.int .i64 0, .int .i64 0] wz13 := Bk.later (by first | (simp [Bk, go_sem]; done) | (repeat (first | with_reducible (first | assumption | apply Bk.drew | apply Bk.alloc | apply Bk.later (hB := hRwz13) | apply Bk.later (hB := hRwz1)) | ((with_reducible apply Bk.mv hRwz13); (focus omega)) | ((with_reducible apply Bk.mv hRwz1); (focus omega)) | ((with_reducible apply Bk.later); rotate_left; (with_reducible assumption)) | ((with_reducible apply Bk.put); rotate_left; (first | (dsimp only; omega)))))) hR
          have GS1 := GR1; simp only [Bk] at GS1
          have nl1 : wz1.heap.size < wz13.heap.size := by omega
          (try go_wp2_with (fail))
          refine hK.out _ _ (by refine ⟨?_, ?_, ?_, ?_⟩ <;> (repeat (first | with_reducible (first | assumption | apply Bk.drew | apply Bk.alloc | apply Bk.later (hB := hRwz13) | apply Bk.later (hB := hRwz1)) | ((with_reducible apply Bk.mv hRwz13); (focus omega)) | ((with_reducible apply Bk.mv hRwz1); (focus omega)) | ((with_reducible apply Bk.later); rotate_left; (with_reducible assumption)) | ((with_reducible apply Bk.put); rotate_left; (first | (dsimp only; omega)))))) (fun hHeld => ?_)
          clear hK K hOld B0 B1 B2 B3
          try simp only [Act.put, List.setIfInBounds_toArray, List.set_cons_zero, List.set_cons_succ]
          refine wpAnyH_ready (rs := [6, 11]) (by kernel_rfl) (by simp) ?_
          refine AllReadyH.cons rfl (fun K hK => ?_) ?_
          · have hOld := hHeld; clear hHeld
            have B0 := hOld.1
            have B1 := hOld.2.1
            have B2 := hOld.2.2.1
            have B3 := hOld.2.2.2
            go_simp
            (go_at_call 14; (with_reducible refine (Tw.call2 (by (repeat (first | with_reducible assumption | with_reducible apply Tw.alloc | with_reducible apply Tw.drew | ((with_reducible apply Tw.after); rotate_left; (with_reducible assumption)) | ((with_reducible apply Tw.setCell); rotate_left; (first | (dsimp only; omega) | omega | (simp; omega)); (first | (dsimp only; omega) | omega | (simp; omega)); (first | (dsimp only; omega) | omega | (simp; omega)))))) (k2 _ _ _)).mono ?_); rintro e wz14 ⟨rfl, hR, HT⟩)
            have hRwz14 := hR
            have hzR := hR.size
            (try simp at hzR)
            have GR1 : Bk (wz1.heap.size) 0 [.int .i64 0, .int .i64 0] wz14 := Bk.mv hR (by omega) (by first | (simp [Bk, go_sem]; done) | (repeat (first | with_reducible (first | assumption | apply Bk.drew | apply Bk.alloc | apply Bk.later (hB := hRwz14) | apply Bk.later (hB := hRwz13) | apply Bk.later (hB := hRwz1)) | ((with_reducible apply Bk.mv hRwz14); (focus omega)) | ((with_reducible apply Bk.mv hRwz13); (focus omega)) | ((with_reducible apply Bk.mv hRwz1); (focus omega)) | ((with_reducible apply Bk.later); rotate_left; (with_reducible assumption)) | ((with_reducible apply Bk.put); rotate_left; (first | (dsimp only; omega))))))
            have GS1 := GR1; simp only [Bk] at GS1
            have nl1 : wz1.heap.size < wz14.heap.size := by omega
            (try go_wp2_with (fail))
            refine hK.out _ _ (by refine ⟨?_, ?_, ?_, ?_⟩ <;> (repeat (first | with_reducible (first | assumption | apply Bk.drew | apply Bk.alloc | apply Bk.later (hB := hRwz14) | apply Bk.later (hB := hRwz13) | apply Bk.later (hB := hRwz1)) | ((with_reducible apply Bk.mv hRwz14); (focus omega)) | ((with_reducible apply Bk.mv hRwz13); (focus omega)) | ((with_reducible apply Bk.mv hRwz1); (focus omega)) | ((with_reducible apply Bk.later); rotate_left; (with_reducible assumption)) | ((with_reducible apply Bk.put); rotate_left; (first | (dsimp only; omega)))))) (fun hHeld => ?_)
            clear hK K hOld B0 B1 B2 B3
            try simp only [Act.put, List.setIfInBounds_toArray, List.set_cons_zero, List.set_cons_succ]
            refine wpAnyH_take (i := 7) (v := ?_) (by simp only [List.getElem?_toArray, List.getElem?_cons_succ, List.getElem?_cons_zero]; rfl) (by kernel_rfl) (by kernel_rfl) (by kernel_rfl) (fun _ _ _ h => h) (Or.inl ⟨by rfl, ?_⟩) (by assumption) ?_
            rotate_left
            · intro w hSw; (try dsimp only at hSw); simp only [Bk] at hSw; go_simp; try with_reducible rfl
            try simp only [Act.put, List.setIfInBounds_toArray, List.set_cons_zero, List.set_cons_succ]
            refine wpAnyH_take (i := 8) (v := ?_) (by simp only [List.getElem?_toArray, List.getElem?_cons_succ, List.getElem?_cons_zero]; rfl) (by kernel_rfl) (by kernel_rfl) (by kernel_rfl) (fun _ _ _ h => h) (Or.inl ⟨by rfl, ?_⟩) (by assumption) ?_
            rotate_left
            · intro w hSw; (try dsimp only at hSw); simp only [Bk] at hSw; go_simp; try with_reducible rfl
            try simp only [Act.put, List.setIfInBounds_toArray, List.set_cons_zero, List.set_cons_succ]
            refine wpAnyH_take (i := 9) (v := ?_) (by simp only [List.getElem?_toArray, List.getElem?_cons_succ, List.getElem?_cons_zero]; rfl) (by kernel_rfl) (by kernel_rfl) (by kernel_rfl) (fun _ _ _ h => h) (Or.inl ⟨by rfl, ?_⟩) (by assumption) ?_
            rotate_left
            · intro w hSw; (try dsimp only at hSw); simp only [Bk] at hSw; go_simp; try with_reducible rfl
            try simp only [Act.put, List.setIfInBounds_toArray, List.set_cons_zero, List.set_cons_succ]
            refine wpAnyH_take (i := 10) (v := ?_) (by simp only [List.getElem?_toArray, List.getElem?_cons_succ, List.getElem?_cons_zero]; rfl) (by kernel_rfl) (by kernel_rfl) (by kernel_rfl) (fun _ _ _ h => h) (Or.inl ⟨by rfl, ?_⟩) (by assumption) ?_
            rotate_left
            · intro w hSw; (try dsimp only at hSw); simp only [Bk] at hSw; go_simp; try with_reducible rfl
            try simp only [Act.put, List.setIfInBounds_toArray, List.set_cons_zero, List.set_cons_succ]
            refine wpAnyH_ready (rs := [11]) (by kernel_rfl) (by simp) ?_
            refine AllReadyH.cons rfl (fun K hK => ?_) ?_
            · have hOld := hHeld; clear hHeld
              have B0 := hOld.1
              have B1 := hOld.2.1
              have B2 := hOld.2.2.1
              have B3 := hOld.2.2.2
              go_simp
              refine hK.out _ _ (by refine ⟨?_, ?_, ?_, ?_⟩ <;> (repeat (first | with_reducible (first | assumption | apply Bk.drew | apply Bk.alloc | apply Bk.later (hB := hRwz14) | apply Bk.later (hB := hRwz13) | apply Bk.later (hB := hRwz1)) | ((with_reducible apply Bk.mv hRwz14); (focus omega)) | ((with_reducible apply Bk.mv hRwz13); (focus omega)) | ((with_reducible apply Bk.mv hRwz1); (focus omega)) | ((with_reducible apply Bk.later); rotate_left; (with_reducible assumption)) | ((with_reducible apply Bk.put); rotate_left; (first | (dsimp only; omega)))))) (fun hHeld => ?_)
              clear hK K hOld B0 B1 B2 B3
              try simp only [Act.put, List.setIfInBounds_toArray, List.set_cons_zero, List.set_cons_succ]
              refine wpAnyH_ready (rs := [13]) (by kernel_rfl) (by simp) ?_
              refine AllReadyH.cons rfl (fun K hK => ?_) ?_
              · have hOld := hHeld; clear hHeld
                have B0 := hOld.1
                have B1 := hOld.2.1
                have B2 := hOld.2.2.1
                have B3 := hOld.2.2.2
                have G0 : Bk (wz14.heap.size) 0 [.int .i64 0, .int .i64 0] ((wz14).alloc (Obj.cells #[.int .i64 0, .int .i64 0] 24)) := by first | (simp [Bk, go_sem]; done) | (repeat (first | with_reducible (first | assumption | apply Bk.drew | apply Bk.alloc | apply Bk.later (hB := hRwz14) | apply Bk.later (hB := hRwz13) | apply Bk.later (hB := hRwz1)) | ((with_reducible apply Bk.mv hRwz14); (focus omega)) | ((with_reducible apply Bk.mv hRwz13); (focus omega)) | ((with_reducible apply Bk.mv hRwz1); (focus omega)) | ((with_reducible apply Bk.later); rotate_left; (with_reducible assumption)) | ((with_reducible apply Bk.put); rotate_left; (first | (dsimp only; omega)))))
                simp only [Bk] at G0
                have G1 : Bk (wz1.heap.size) 0 [.int .i64 0, .int .i64 0] ((wz14).alloc (Obj.cells #[.int .i64 0, .int .i64 0] 24)) := by first | (simp [Bk, go_sem]; done) | (repeat (first | with_reducible (first | assumption | apply Bk.drew | apply Bk.alloc | apply Bk.later (hB := hRwz14) | apply Bk.later (hB := hRwz13) | apply Bk.later (hB := hRwz1)) | ((with_reducible apply Bk.mv hRwz14); (focus omega)) | ((with_reducible apply Bk.mv hRwz13); (focus omega)) | ((with_reducible apply Bk.mv hRwz1); (focus omega)) | ((with_reducible apply Bk.later); rotate_left; (with_reducible assumption)) | ((with_reducible apply Bk.put); rotate_left; (first | (dsimp only; omega)))))
                simp only [Bk] at G1
                have na01 : wz14.heap.size ≠ wz1.heap.size := by omega
                have nb01 := na01.symm
                go_simp
                refine hK.out _ _ (by refine ⟨?_, ?_, ?_, ?_⟩ <;> (repeat (first | with_reducible (first | assumption | apply Bk.drew | apply Bk.alloc | apply Bk.later (hB := hRwz14) | apply Bk.later (hB := hRwz13) | apply Bk.later (hB := hRwz1)) | ((with_reducible apply Bk.mv hRwz14); (focus omega)) | ((with_reducible apply Bk.mv hRwz13); (focus omega)) | ((with_reducible apply Bk.mv hRwz1); (focus omega)) | ((with_reducible apply Bk.later); rotate_left; (with_reducible assumption)) | ((with_reducible apply Bk.put); rotate_left; (first | (dsimp only; omega)))))) (fun hHeld => ?_)
                clear hK K hOld B0 B1 B2 B3
                try simp only [Act.put, List.setIfInBounds_toArray, List.set_cons_zero, List.set_cons_succ]
                refine wpAnyH_ready (rs := [14]) (by kernel_rfl) (by simp) ?_
                refine AllReadyH.cons rfl (fun K hK => ?_) ?_
                · have hOld := hHeld; clear hHeld
                  have B0 := hOld.1
                  have B1 := hOld.2.1
                  have B2 := hOld.2.2.1
                  have B3 := hOld.2.2.2
                  go_simp
                  refine hK.out _ _ (by refine ⟨?_, ?_, ?_, ?_⟩ <;> (repeat (first | with_reducible (first | assumption | apply Bk.drew | apply Bk.alloc | apply Bk.later (hB := hRwz14) | apply Bk.later (hB := hRwz13) | apply Bk.later (hB := hRwz1)) | ((with_reducible apply Bk.mv hRwz14); (focus omega)) | ((with_reducible apply Bk.mv hRwz13); (focus omega)) | ((with_reducible apply Bk.mv hRwz1); (focus omega)) | ((with_reducible apply Bk.later); rotate_left; (with_reducible assumption)) | ((with_reducible apply Bk.put); rotate_left; (first | (dsimp only; omega)))))) (fun hHeld => ?_)
                  clear hK K hOld B0 B1 B2 B3
                  try simp only [Act.put, List.setIfInBounds_toArray, List.set_cons_zero, List.set_cons_succ]
                  refine wpAnyH_take (i := 15) (v := ?_) (by simp only [List.getElem?_toArray, List.getElem?_cons_succ, List.getElem?_cons_zero]; rfl) (by kernel_rfl) (by kernel_rfl) (by kernel_rfl) (fun _ _ _ h => h) (Or.inl ⟨by rfl, ?_⟩) (by assumption) ?_
                  rotate_left
                  · intro w hSw; (try dsimp only at hSw); simp only [Bk] at hSw; go_simp; try with_reducible rfl
                  try simp only [Act.put, List.setIfInBounds_toArray, List.set_cons_zero, List.set_cons_succ]
                  refine wpAnyH_done (by kernel_rfl) ?_ _
                  (try refine NoPanic.normal ?_)
                  go_wp2
                  go_meet
                  exact ⟨_, _, rfl, rfl, rfl, by (repeat (first | with_reducible assumption | with_reducible apply Tw.alloc | with_reducible apply Tw.drew | ((with_reducible apply Tw.after); rotate_left; (with_reducible assumption)) | ((with_reducible apply Tw.setCell); rotate_left; (first | (dsimp only; omega) | omega | (simp; omega)); (first | (dsimp only; omega) | omega | (simp; omega)); (first | (dsimp only; omega) | omega | (simp; omega))))), by simp (maxDischargeDepth := 8) [Bk, go_sem, *], hHeld.2.2.1, hHeld.2.2.2⟩
                exact AllReadyH.nil
              exact AllReadyH.nil
            exact AllReadyH.nil
          refine AllReadyH.cons rfl (fun K hK => ?_) ?_
          · have hOld := hHeld; clear hHeld
            have B0 := hOld.1
            have B1 := hOld.2.1
            have B2 := hOld.2.2.1
            have B3 := hOld.2.2.2
            go_simp
            refine hK.out _ _ (by refine ⟨?_, ?_, ?_, ?_⟩ <;> (repeat (first | with_reducible (first | assumption | apply Bk.drew | apply Bk.alloc | apply Bk.later (hB := hRwz13) | apply Bk.later (hB := hRwz1)) | ((with_reducible apply Bk.mv hRwz13); (focus omega)) | ((with_reducible apply Bk.mv hRwz1); (focus omega)) | ((with_reducible apply Bk.later); rotate_left; (with_reducible assumption)) | ((with_reducible apply Bk.put); rotate_left; (first | (dsimp only; omega)))))) (fun hHeld => ?_)
            clear hK K hOld B0 B1 B2 B3
            try simp only [Act.put, List.setIfInBounds_toArray, List.set_cons_zero, List.set_cons_succ]
            refine wpAnyH_ready (rs := [6]) (by kernel_rfl) (by simp) ?_
            refine AllReadyH.cons rfl (fun K hK => ?_) ?_
            · have hOld := hHeld; clear hHeld
              have B0 := hOld.1
              have B1 := hOld.2.1
              have B2 := hOld.2.2.1
              have B3 := hOld.2.2.2
              go_simp
              (go_at_call 14; (with_reducible refine (Tw.call2 (by (repeat (first | with_reducible assumption | with_reducible apply Tw.alloc | with_reducible apply Tw.drew | ((with_reducible apply Tw.after); rotate_left; (with_reducible assumption)) | ((with_reducible apply Tw.setCell); rotate_left; (first | (dsimp only; omega) | omega | (simp; omega)); (first | (dsimp only; omega) | omega | (simp; omega)); (first | (dsimp only; omega) | omega | (simp; omega)))))) (k2 _ _ _)).mono ?_); rintro e wz15 ⟨rfl, hR, HT⟩)
              have hRwz15 := hR
              have hzR := hR.size
              (try simp at hzR)
              have GR0 : Bk (wz13.heap.size) 0 [.int .i64 0, .int .i64 0] wz15 := Bk.mv hR (by omega) (by first | (simp [Bk, go_sem]; done) | (repeat (first | with_reducible (first | assumption | apply Bk.drew | apply Bk.alloc | apply Bk.later (hB := hRwz15) | apply Bk.later (hB := hRwz13) | apply Bk.later (hB := hRwz1)) | ((with_reducible apply Bk.mv hRwz15); (focus omega)) | ((with_reducible apply Bk.mv hRwz13); (focus omega)) | ((with_reducible apply Bk.mv hRwz1); (focus omega)) | ((with_reducible apply Bk.later); rotate_left; (with_reducible assumption)) | ((with_reducible apply Bk.put); rotate_left; (first | (dsimp only; omega))))))
              have GS0 := GR0; simp only [Bk] at GS0
              have nl0 : wz13.heap.size < wz15.heap.size := by omega
              have GR1 : Bk (wz1.heap.size) 0 [.int .i64 0, .int .i64 0] wz15 := Bk.mv hR (by omega) (by first | (simp [Bk, go_sem]; done) | (repeat (first | with_reducible (first | assumption | apply Bk.drew | apply Bk.alloc | apply Bk.later (hB := hRwz15) | apply Bk.later (hB := hRwz13) | apply Bk.later (hB := hRwz1)) | ((with_reducible apply Bk.mv hRwz15); (focus omega)) | ((with_reducible apply Bk.mv hRwz13); (focus omega)) | ((with_reducible apply Bk.mv hRwz1); (focus omega)) | ((with_reducible apply Bk.later); rotate_left; (with_reducible assumption)) | ((with_reducible apply Bk.put); rotate_left; (first | (dsimp only; omega))))))
              have GS1 := GR1; simp only [Bk] at GS1
              have nl1 : wz1.heap.size < wz15.heap.size := by omega
              (try go_wp2_with (fail))
              refine hK.out _ _ (by refine ⟨?_, ?_, ?_, ?_⟩ <;> (repeat (first | with_reducible (first | assumption | apply Bk.drew | apply Bk.alloc | apply Bk.later (hB := hRwz15) | apply Bk.later (hB := hRwz13) | apply Bk.later (hB := hRwz1)) | ((with_reducible apply Bk.mv hRwz15); (focus omega)) | ((with_reducible apply Bk.mv hRwz13); (focus omega)) | ((with_reducible apply Bk.mv hRwz1); (focus omega)) | ((with_reducible apply Bk.later); rotate_left; (with_reducible assumption)) | ((with_reducible apply Bk.put); rotate_left; (first | (dsimp only; omega)))))) (fun hHeld => ?_)
              clear hK K hOld B0 B1 B2 B3
              try simp only [Act.put, List.setIfInBounds_toArray, List.set_cons_zero, List.set_cons_succ]
              refine wpAnyH_take (i := 7) (v := ?_) (by simp only [List.getElem?_toArray, List.getElem?_cons_succ, List.getElem?_cons_zero]; rfl) (by kernel_rfl) (by kernel_rfl) (by kernel_rfl) (fun _ _ _ h => h) (Or.inl ⟨by rfl, ?_⟩) (by assumption) ?_
              rotate_left
              · intro w hSw; (try dsimp only at hSw); simp only [Bk] at hSw; go_simp; try with_reducible rfl
              try simp only [Act.put, List.setIfInBounds_toArray, List.set_cons_zero, List.set_cons_succ]
              refine wpAnyH_take (i := 8) (v := ?_) (by simp only [List.getElem?_toArray, List.getElem?_cons_succ, List.getElem?_cons_zero]; rfl) (by kernel_rfl) (by kernel_rfl) (by kernel_rfl) (fun _ _ _ h => h) (Or.inl ⟨by rfl, ?_⟩) (by assumption) ?_
              rotate_left
              · intro w hSw; (try dsimp only at hSw); simp only [Bk] at hSw; go_simp; try with_reducible rfl
              try simp only [Act.put, List.setIfInBounds_toArray, List.set_cons_zero, List.set_cons_succ]
              refine wpAnyH_take (i := 9) (v := ?_) (by simp only [List.getElem?_toArray, List.getElem?_cons_succ, List.getElem?_cons_zero]; rfl) (by kernel_rfl) (by kernel_rfl) (by kernel_rfl) (fun _ _ _ h => h) (Or.inl ⟨by rfl, ?_⟩) (by assumption) ?_
              rotate_left
              · intro w hSw; (try dsimp only at hSw); simp only [Bk] at hSw; go_simp; try with_reducible rfl
              try simp only [Act.put, List.setIfInBounds_toArray, List.set_cons_zero, List.set_cons_succ]
              refine wpAnyH_take (i := 10) (v := ?_) (by simp only [List.getElem?_toArray, List.getElem?_cons_succ, List.getElem?_cons_zero]; rfl) (by kernel_rfl) (by kernel_rfl) (by kernel_rfl) (fun _ _ _ h => h) (Or.inl ⟨by rfl, ?_⟩) (by assumption) ?_
              rotate_left
              · intro w hSw; (try dsimp only at hSw); simp only [Bk] at hSw; go_simp; try with_reducible rfl
              try simp only [Act.put, List.setIfInBounds_toArray, List.set_cons_zero, List.set_cons_succ]
              refine wpAnyH_ready (rs := [13]) (by kernel_rfl) (by simp) ?_
              refine AllReadyH.cons rfl (fun K hK => ?_) ?_
              · have hOld := hHeld; clear hHeld
                have B0 := hOld.1
                have B1 := hOld.2.1
                have B2 := hOld.2.2.1
                have B3 := hOld.2.2.2
                have G0 : Bk (wz13.heap.size) 0 [.int .i64 0, .int .i64 0] (wz15) := by first | (simp [Bk, go_sem]; done) | (repeat (first | with_reducible (first | assumption | apply Bk.drew | apply Bk.alloc | apply Bk.later (hB := hRwz15) | apply Bk.later (hB := hRwz13) | apply Bk.later (hB := hRwz1)) | ((with_reducible apply Bk.mv hRwz15); (focus omega)) | ((with_reducible apply Bk.mv hRwz13); (focus omega)) | ((with_reducible apply Bk.mv hRwz1); (focus omega)) | ((with_reducible apply Bk.later); rotate_left; (with_reducible assumption)) | ((with_reducible apply Bk.put); rotate_left; (first | (dsimp only; omega)))))
                simp only [Bk] at G0
                have G1 : Bk (wz1.heap.size) 0 [.int .i64 0, .int .i64 0] (wz15) := by first | (simp [Bk, go_sem]; done) | (repeat (first | with_reducible (first | assumption | apply Bk.drew | apply Bk.alloc | apply Bk.later (hB := hRwz15) | apply Bk.later (hB := hRwz13) | apply Bk.later (hB := hRwz1)) | ((with_reducible apply Bk.mv hRwz15); (focus omega)) | ((with_reducible apply Bk.mv hRwz13); (focus omega)) | ((with_reducible apply Bk.mv hRwz1); (focus omega)) | ((with_reducible apply Bk.later); rotate_left; (with_reducible assumption)) | ((with_reducible apply Bk.put); rotate_left; (first | (dsimp only; omega)))))
                simp only [Bk] at G1
                have na01 : wz13.heap.size ≠ wz1.heap.size := by omega
                have nb01 := na01.symm
                go_simp
                refine hK.out _ _ (by refine ⟨?_, ?_, ?_, ?_⟩ <;> (repeat (first | with_reducible (first | assumption | apply Bk.drew | apply Bk.alloc | apply Bk.later (hB := hRwz15) | apply Bk.later (hB := hRwz13) | apply Bk.later (hB := hRwz1)) | ((with_reducible apply Bk.mv hRwz15); (focus omega)) | ((with_reducible apply Bk.mv hRwz13); (focus omega)) | ((with_reducible apply Bk.mv hRwz1); (focus omega)) | ((with_reducible apply Bk.later); rotate_left; (with_reducible assumption)) | ((with_reducible apply Bk.put); rotate_left; (first | (dsimp only; omega)))))) (fun hHeld => ?_)
                clear hK K hOld B0 B1 B2 B3
                try simp only [Act.put, List.setIfInBounds_toArray, List.set_cons_zero, List.set_cons_succ]
                refine wpAnyH_ready (rs := [14]) (by kernel_rfl) (by simp) ?_
                refine AllReadyH.cons rfl (fun K hK => ?_) ?_
                · have hOld := hHeld; clear hHeld
                  have B0 := hOld.1
                  have B1 := hOld.2.1
                  have B2 := hOld.2.2.1
                  have B3 := hOld.2.2.2
                  go_simp
                  refine hK.out _ _ (by refine ⟨?_, ?_, ?_, ?_⟩ <;> (repeat (first | with_reducible (first | assumption | apply Bk.drew | apply Bk.alloc | apply Bk.later (hB := hRwz15) | apply Bk.later (hB := hRwz13) | apply Bk.later (hB := hRwz1)) | ((with_reducible apply Bk.mv hRwz15); (focus omega)) | ((with_reducible apply Bk.mv hRwz13); (focus omega)) | ((with_reducible apply Bk.mv hRwz1); (focus omega)) | ((with_reducible apply Bk.later); rotate_left; (with_reducible assumption)) | ((with_reducible apply Bk.put); rotate_left; (first | (dsimp only; omega)))))) (fun hHeld => ?_)
                  clear hK K hOld B0 B1 B2 B3
                  try simp only [Act.put, List.setIfInBounds_toArray, List.set_cons_zero, List.set_cons_succ]
                  refine wpAnyH_take (i := 15) (v := ?_) (by simp only [List.getElem?_toArray, List.getElem?_cons_succ, List.getElem?_cons_zero]; rfl) (by kernel_rfl) (by kernel_rfl) (by kernel_rfl) (fun _ _ _ h => h) (Or.inl ⟨by rfl, ?_⟩) (by assumption) ?_
                  rotate_left
                  · intro w hSw; (try dsimp only at hSw); simp only [Bk] at hSw; go_simp; try with_reducible rfl
                  try simp only [Act.put, List.setIfInBounds_toArray, List.set_cons_zero, List.set_cons_succ]
                  refine wpAnyH_done (by kernel_rfl) ?_ _
                  (try refine NoPanic.normal ?_)
                  go_wp2
                  go_meet
                  exact ⟨_, _, rfl, rfl, rfl, by (repeat (first | with_reducible assumption | with_reducible apply Tw.alloc | with_reducible apply Tw.drew | ((with_reducible apply Tw.after); rotate_left; (with_reducible assumption)) | ((with_reducible apply Tw.setCell); rotate_left; (first | (dsimp only; omega) | omega | (simp; omega)); (first | (dsimp only; omega) | omega | (simp; omega)); (first | (dsimp only; omega) | omega | (simp; omega))))), by simp (maxDischargeDepth := 8) [Bk, go_sem, *], hHeld.2.2.1, hHeld.2.2.2⟩
                exact AllReadyH.nil
              exact AllReadyH.nil
            exact AllReadyH.nil
          exact AllReadyH.nil
        refine AllReadyH.cons rfl (fun K hK => ?_) ?_
        · have hOld := hHeld; clear hHeld
          have B0 := hOld.1
          have B1 := hOld.2.1
          have B2 := hOld.2.2.1
          have B3 := hOld.2.2.2
          go_simp
          refine hK.out _ _ (by refine ⟨?_, ?_, ?_, ?_⟩ <;> (repeat (first | with_reducible (first | assumption | apply Bk.drew | apply Bk.alloc | apply Bk.later (hB := hRwz1)) | ((with_reducible apply Bk.mv hRwz1); (focus omega)) | ((with_reducible apply Bk.later); rotate_left; (with_reducible assumption)) | ((with_reducible apply Bk.put); rotate_left; (first | (dsimp only; omega)))))) (fun hHeld => ?_)
          clear hK K hOld B0 B1 B2 B3
          try simp only [Act.put, List.setIfInBounds_toArray, List.set_cons_zero, List.set_cons_succ]
          refine wpAnyH_ready (rs := [4]) (by kernel_rfl) (by simp) ?_
          refine AllReadyH.cons rfl (fun K hK => ?_) ?_
          · have hOld := hHeld; clear hHeld
            have B0 := hOld.1
            have B1 := hOld.2.1
            have B2 := hOld.2.2.1
            have B3 := hOld.2.2.2
            go_simp
            (go_at_call 9; (with_reducible refine (kP2 _).mono ?_); rintro e wz16 ⟨rfl, hR⟩)
            have hRwz16 := hR
            have hzR := hR.size
            (try simp at hzR)
            have GR0 : Bk (wz1.heap.size + 1) 0 [.int .i64 0, .int .i64 0] wz16 := Bk.later (by first | (simp [Bk, go_sem]; done) | (repeat (first | with_reducible (first | assumption | apply Bk.drew | apply Bk.alloc | apply Bk.later (hB := hRwz16) | apply Bk.later (hB := hRwz1)) | ((with_reducible apply Bk.mv hRwz16); (focus omega)) | ((with_reducible apply Bk.mv hRwz1); (focus omega)) | ((with_reducible apply Bk.later); rotate_left; (with_reducible assumption)) | ((with_reducible apply Bk.put); rotate_left; (first | (dsimp only; omega)))))) hR
            have GS0 := GR0; simp only [Bk] at GS0
            have nl0 : wz1.heap.size + 1 < wz16.heap.size := by omega
            have GR1 : Bk (wz1.heap.size) 0 [.int .i64 0, .int .i64 0] wz16 := Bk.later (by first | (simp [Bk, go_sem]; done) | (repeat (first | with_reducible (first | assumption | apply Bk.drew | apply Bk.alloc | apply Bk.later (hB := hRwz16) | apply Bk.later (hB := hRwz1)) | ((with_reducible apply Bk.mv hRwz16); (focus omega)) | ((with_reducible apply Bk.mv hRwz1); (focus omega)) | ((with_reducible apply Bk.later); rotate_left; (with_reducible assumption)) | ((with_reducible apply Bk.put); rotate_left; (first | (dsimp only; omega)))))) hR
            have GS1 := GR1; simp only [Bk] at GS1
            have nl1 : wz1.heap.size < wz16.heap.size := by omega
            (try go_wp2_with (fail))
            refine hK.out _ _ (by refine ⟨?_, ?_, ?_, ?_⟩ <;> (repeat (first | with_reducible (first | assumption | apply Bk.drew | apply Bk.alloc | apply Bk.later (hB := hRwz16) | apply Bk.later (hB := hRwz1)) | ((with_reducible apply Bk.mv hRwz16); (focus omega)) | ((with_reducible apply Bk.mv hRwz1); (focus omega)) | ((with_reducible apply Bk.later); rotate_left; (with_reducible assumption)) | ((with_reducible apply Bk.put); rotate_left; (first | (dsimp only; omega)))))) (fun hHeld => ?_)
            clear hK K hOld B0 B1 B2 B3
            try simp only [Act.put, List.setIfInBounds_toArray, List.set_cons_zero, List.set_cons_succ]
            refine wpAnyH_ready (rs := [6]) (by kernel_rfl) (by simp) ?_
            refine AllReadyH.cons rfl (fun K hK => ?_) ?_
            · have hOld := hHeld; clear hHeld
              have B0 := hOld.1
              have B1 := hOld.2.1
              have B2 := hOld.2.2.1
              have B3 := hOld.2.2.2
              go_simp
              (go_at_call 14; (with_reducible refine (Tw.call2 (by (repeat (first | with_reducible assumption | with_reducible apply Tw.alloc | with_reducible apply Tw.drew | ((with_reducible apply Tw.after); rotate_left; (with_reducible assumption)) | ((with_reducible apply Tw.setCell); rotate_left; (first | (dsimp only; omega) | omega | (simp; omega)); (first | (dsimp only; omega) | omega | (simp; omega)); (first | (dsimp only; omega) | omega | (simp; omega)))))) (k2 _ _ _)).mono ?_); rintro e wz17 ⟨rfl, hR, HT⟩)
              have hRwz17 := hR
              have hzR := hR.size
              (try simp at hzR)
              have GR0 : Bk (wz1.heap.size + 1) 0 [.int .i64 0, .int .i64 0] wz17 := Bk.mv hR (by omega) (by first | (simp [Bk, go_sem]; done) | (repeat (first | with_reducible (first | assumption | apply Bk.drew | apply Bk.alloc | apply Bk.later (hB := hRwz17) | apply Bk.later (hB := hRwz16) | apply Bk.later (hB := hRwz1)) | ((with_reducible apply Bk.mv hRwz17); (focus omega)) | ((with_reducible apply Bk.mv hRwz16); (focus omega)) | ((with_reducible apply Bk.mv hRwz1); (focus omega)) | ((with_reducible apply Bk.later); rotate_left; (with_reducible assumption)) | ((with_reducible apply Bk.put); rotate_left; (first | (dsimp only; omega))))))
              have GS0 := GR0; simp only [Bk] at GS0
              have nl0 : wz1.heap.size + 1 < wz17.heap.size := by omega
              have GR1 : Bk (wz1.heap.size) 0 [.int .i64 0, .int .i64 0] wz17 := Bk.mv hR (by omega) (by first | (simp [Bk, go_sem]; done) | (repeat (first | with_reducible (first | assumption | apply Bk.drew | apply Bk.alloc | apply Bk.later (hB := hRwz17) | apply Bk.later (hB := hRwz16) | apply Bk.later (hB := hRwz1)) | ((with_reducible apply Bk.mv hRwz17); (focus omega)) | ((with_reducible apply Bk.mv hRwz16); (focus omega)) | ((with_reducible apply Bk.mv hRwz1); (focus omega)) | ((with_reducible apply Bk.later); rotate_left; (with_reducible assumption)) | ((with_reducible apply Bk.put); rotate_left; (first | (dsimp only; omega))))))
              have GS1 := GR1; simp only [Bk] at GS1
              have nl1 : wz1.heap.size < wz17.heap.size := by omega
              (try go_wp2_with (fail))
              refine hK.out _ _ (by refine ⟨?_, ?_, ?_, ?_⟩ <;> (repeat (first | with_reducible (first | assumption | apply Bk.drew | apply Bk.alloc | apply Bk.later (hB := hRwz17) | apply Bk.later (hB := hRwz16) | apply Bk.later (hB := hRwz1)) | ((with_reducible apply Bk.mv hRwz17); (focus omega)) | ((with_reducible apply Bk.mv hRwz16); (focus omega)) | ((with_reducible apply Bk.mv hRwz1); (focus omega)) | ((with_reducible apply Bk.later); rotate_left; (with_reducible assumption)) | ((with_reducible apply Bk.put); rotate_left; (first | (dsimp only; omega)))))) (fun hHeld => ?_)
              clear hK K hOld B0 B1 B2 B3
              try simp only [Act.put, List.setIfInBounds_toArray, List.set_cons_zero, List.set_cons_succ]
              refine wpAnyH_take (i := 7) (v := ?_) (by simp only [List.getElem?_toArray, List.getElem?_cons_succ, List.getElem?_cons_zero]; rfl) (by kernel_rfl) (by kernel_rfl) (by kernel_rfl) (fun _ _ _ h => h) (Or.inl ⟨by rfl, ?_⟩) (by assumption) ?_
              rotate_left
              · intro w hSw; (try dsimp only at hSw); simp only [Bk] at hSw; go_simp; try with_reducible rfl
              try simp only [Act.put, List.setIfInBounds_toArray, List.set_cons_zero, List.set_cons_succ]
              refine wpAnyH_take (i := 8) (v := ?_) (by simp only [List.getElem?_toArray, List.getElem?_cons_succ, List.getElem?_cons_zero]; rfl) (by kernel_rfl) (by kernel_rfl) (by kernel_rfl) (fun _ _ _ h => h) (Or.inl ⟨by rfl, ?_⟩) (by assumption) ?_
              rotate_left
              · intro w hSw; (try dsimp only at hSw); simp only [Bk] at hSw; go_simp; try with_reducible rfl
              try simp only [Act.put, List.setIfInBounds_toArray, List.set_cons_zero, List.set_cons_succ]
              refine wpAnyH_take (i := 9) (v := ?_) (by simp only [List.getElem?_toArray, List.getElem?_cons_succ, List.getElem?_cons_zero]; rfl) (by kernel_rfl) (by kernel_rfl) (by kernel_rfl) (fun _ _ _ h => h) (Or.inl ⟨by rfl, ?_⟩) (by assumption) ?_
              rotate_left
              · intro w hSw; (try dsimp only at hSw); simp only [Bk] at hSw; go_simp; try with_reducible rfl
              try simp only [Act.put, List.setIfInBounds_toArray, List.set_cons_zero, List.set_cons_succ]
              refine wpAnyH_take (i := 10) (v := ?_) (by simp only [List.getElem?_toArray, List.getElem?_cons_succ, List.getElem?_cons_zero]; rfl) (by kernel_rfl) (by kernel_rfl) (by kernel_rfl) (fun _ _ _ h => h) (Or.inl ⟨by rfl, ?_⟩) (by assumption) ?_
              rotate_left
              · intro w hSw; (try dsimp only at hSw); simp only [Bk] at hSw; go_simp; try with_reducible rfl
              try simp only [Act.put, List.setIfInBounds_toArray, List.set_cons_zero, List.set_cons_succ]
              refine wpAnyH_ready (rs := [13]) (by kernel_rfl) (by simp) ?_
              refine AllReadyH.cons rfl (fun K hK => ?_) ?_
              · have hOld := hHeld; clear hHeld
                have B0 := hOld.1
                have B1 := hOld.2.1
                have B2 := hOld.2.2.1
                have B3 := hOld.2.2.2
                have G0 : Bk (wz1.heap.size + 1) 0 [.int .i64 0, .int .i64 0] (wz17) := by first | (simp [Bk, go_sem]; done) | (repeat (first | with_reducible (first | assumption | apply Bk.drew | apply Bk.alloc | apply Bk.later (hB := hRwz17) | apply Bk.later (hB := hRwz16) | apply Bk.later (hB := hRwz1)) | ((with_reducible apply Bk.mv hRwz17); (focus omega)) | ((with_reducible apply Bk.mv hRwz16); (focus omega)) | ((with_reducible apply Bk.mv hRwz1); (focus omega)) | ((with_reducible apply Bk.later); rotate_left; (with_reducible assumption)) | ((with_reducible apply Bk.put); rotate_left; (first | (dsimp only; omega)))))
                simp only [Bk] at G0
                have G1 : Bk (wz1.heap.size) 0 [.int .i64 0, .int .i64 0] (wz17) := by first | (simp [Bk, go_sem]; done) | (repeat (first | with_reducible (first | assumption | apply Bk.drew | apply Bk.alloc | apply Bk.later (hB := hRwz17) | apply Bk.later (hB := hRwz16) | apply Bk.later (hB := hRwz1)) | ((with_reducible apply Bk.mv hRwz17); (focus omega)) | ((with_reducible apply Bk.mv hRwz16); (focus omega)) | ((with_reducible apply Bk.mv hRwz1); (focus omega)) | ((with_reducible apply Bk.later); rotate_left; (with_reducible assumption)) | ((with_reducible apply Bk.put); rotate_left; (first | (dsimp only; omega)))))
                simp only [Bk] at G1
                have na01 : wz1.heap.size + 1 ≠ wz1.heap.size := by omega
                have nb01 := na01.symm
                go_simp
                refine hK.out _ _ (by refine ⟨?_, ?_, ?_, ?_⟩ <;> (repeat (first | with_reducible (first | assumption | apply Bk.drew | apply Bk.alloc | apply Bk.later (hB := hRwz17) | apply Bk.later (hB := hRwz16) | apply Bk.later (hB := hRwz1)) | ((with_reducible apply Bk.mv hRwz17); (focus omega)) | ((with_reducible apply Bk.mv hRwz16); (focus omega)) | ((with_reducible apply Bk.mv hRwz1); (focus omega)) | ((with_reducible apply Bk.later); rotate_left; (with_reducible assumption)) | ((with_reducible apply Bk.put); rotate_left; (first | (dsimp only; omega)))))) (fun hHeld => ?_)
                clear hK K hOld B0 B1 B2 B3
                try simp only [Act.put, List.setIfInBounds_toArray, List.set_cons_zero, List.set_cons_succ]
                refine wpAnyH_ready (rs := [14]) (by kernel_rfl) (by simp) ?_
                refine AllReadyH.cons rfl (fun K hK => ?_) ?_
                · have hOld := hHeld; clear hHeld
                  have B0 := hOld.1
                  have B1 := hOld.2.1
                  have B2 := hOld.2.2.1
                  have B3 := hOld.2.2.2
                  go_simp
                  refine hK.out _ _ (by refine ⟨?_, ?_, ?_, ?_⟩ <;> (repeat (first | with_reducible (first | assumption | apply Bk.drew | apply Bk.alloc | apply Bk.later (hB := hRwz17) | apply Bk.later (hB := hRwz16) | apply Bk.later (hB := hRwz1)) | ((with_reducible apply Bk.mv hRwz17); (focus omega)) | ((with_reducible apply Bk.mv hRwz16); (focus omega)) | ((with_reducible apply Bk.mv hRwz1); (focus omega)) | ((with_reducible apply Bk.later); rotate_left; (with_reducible assumption)) | ((with_reducible apply Bk.put); rotate_left; (first | (dsimp only; omega)))))) (fun hHeld => ?_)
                  clear hK K hOld B0 B1 B2 B3
                  try simp only [Act.put, List.setIfInBounds_toArray, List.set_cons_zero, List.set_cons_succ]
                  refine wpAnyH_take (i := 15) (v := ?_) (by simp only [List.getElem?_toArray, List.getElem?_cons_succ, List.getElem?_cons_zero]; rfl) (by kernel_rfl) (by kernel_rfl) (by kernel_rfl) (fun _ _ _ h => h) (Or.inl ⟨by rfl, ?_⟩) (by assumption) ?_
                  rotate_left
                  · intro w hSw; (try dsimp only at hSw); simp only [Bk] at hSw; go_simp; try with_reducible rfl
                  try simp only [Act.put, List.setIfInBounds_toArray, List.set_cons_zero, List.set_cons_succ]
                  refine wpAnyH_done (by kernel_rfl) ?_ _
                  (try refine NoPanic.normal ?_)
                  go_wp2
                  go_meet
                  exact ⟨_, _, rfl, rfl, rfl, by (repeat (first | with_reducible assumption | with_reducible apply Tw.alloc | with_reducible apply Tw.drew | ((with_reducible apply Tw.after); rotate_left; (with_reducible assumption)) | ((with_reducible apply Tw.setCell); rotate_left; (first | (dsimp only; omega) | omega | (simp; omega)); (first | (dsimp only; omega) | omega | (simp; omega)); (first | (dsimp only; omega) | omega | (simp; omega))))), by simp (maxDischargeDepth := 8) [Bk, go_sem, *], hHeld.2.2.1, hHeld.2.2.2⟩
                exact AllReadyH.nil
              exact AllReadyH.nil
            exact AllReadyH.nil
          exact AllReadyH.nil
        exact AllReadyH.nil
      exact AllReadyH.nil
    refine AllReadyH.cons rfl (fun K hK => ?_) ?_
    · have hOld := hHeld; clear hHeld
      have B0 := hOld.1
      have B1 := hOld.2.1
      have B2 := hOld.2.2.1
      have B3 := hOld.2.2.2
      go_simp
      refine hK.out _ _ (by refine ⟨?_, ?_, ?_, ?_⟩ <;> (repeat (first | with_reducible (first | assumption | apply Bk.drew | apply Bk.alloc) | ((with_reducible apply Bk.later); rotate_left; (with_reducible assumption)) | ((with_reducible apply Bk.put); rotate_left; (first | (dsimp only; omega)))))) (fun hHeld => ?_)
      clear hK K hOld B0 B1 B2 B3
      try simp only [Act.put, List.setIfInBounds_toArray, List.set_cons_zero, List.set_cons_succ]
      refine wpAnyH_ready (rs := [2, 12]) (by kernel_rfl) (by simp) ?_
      refine AllReadyH.cons rfl (fun K hK => ?_) ?_
      · have hOld := hHeld; clear hHeld
        have B0 := hOld.1
        have B1 := hOld.2.1
        have B2 := hOld.2.2.1
        have B3 := hOld.2.2.2
        go_simp
        (go_at_call 9; (with_reducible refine (kP1 _).mono ?_); rintro e wz18 ⟨rfl, hR⟩)
        have hRwz18 := hR
        have hzR := hR.size
        (try simp at hzR)
        have GR0 : Bk (W.heap.size) 0 [.int .i64 0, .int .i64 0] wz18 := Bk.later (by first | (simp [Bk, go_sem]; done) | (repeat (first | with_reducible (first | assumption | apply Bk.drew | apply Bk.alloc | apply Bk.later (hB := hRwz18)) | ((with_reducible apply Bk.mv hRwz18); (focus omega)) | ((with_reducible apply Bk.later); rotate_left; (with_reducible assumption)) | ((with_reducible apply Bk.put); rotate_left; (first | (dsimp only; omega)))))) hR
        have GS0 := GR0; simp only [Bk] at GS0
        have nl0 : W.heap.size < wz18.heap.size := by omega
        (try go_wp2_with (fail))
        refine hK.out _ _ (by refine ⟨?_, ?_, ?_, ?_⟩ <;> (repeat (first | with_reducible (first | assumption | apply Bk.drew | apply Bk.alloc | apply Bk.later (hB := hRwz18)) | ((with_reducible apply Bk.mv hRwz18); (focus omega)) | ((with_reducible apply Bk.later); rotate_left; (with_reducible assumption)) | ((with_reducible apply Bk.put); rotate_left; (first | (dsimp only; omega)))))) (fun hHeld => ?_)
        clear hK K hOld B0 B1 B2 B3
        try simp only [Act.put, List.setIfInBounds_toArray, List.set_cons_zero, List.set_cons_succ]
        refine wpAnyH_ready (rs := [4, 12]) (by kernel_rfl) (by simp) ?_
        refine AllReadyH.cons rfl (fun K hK => ?_) ?_
        · have hOld := hHeld; clear hHeld
          have B0 := hOld.1
          have B1 := hOld.2.1
          have B2 := hOld.2.2.1
          have B3 := hOld.2.2.2
          go_simp
          (go_at_call 9; (with_reducible refine (kP2 _).mono ?_); rintro e wz19 ⟨rfl, hR⟩)
          have hRwz19 := hR
          have hzR := hR.size
          (try simp at hzR)
          have GR0 : Bk (W.heap.size) 0 [.int .i64 0, .int .i64 0] wz19 := Bk.later (by first | (simp [Bk, go_sem]; done) | (repeat (first | with_reducible (first | assumption | apply Bk.drew | apply Bk.alloc | apply Bk.later (hB := hRwz19) | apply Bk.later (hB := hRwz18)) | ((with_reducible apply Bk.mv hRwz19); (focus omega)) | ((with_reducible apply Bk.mv hRwz18); (focus omega)) | ((with_reducible apply Bk.later); rotate_left; (with_reducible assumption)) | ((with_reducible apply Bk.put); rotate_left; (first | (dsimp only; omega)))))) hR
          have GS0 := GR0; simp only [Bk] at GS0
          have nl0 : W.heap.size < wz19.heap.size := by omega
          (try go_wp2_with (fail))
          refine hK.out _ _ (by refine ⟨?_, ?_, ?_, ?_⟩ <;> (repeat (first | with_reducible (first | assumption | apply Bk.drew | apply Bk.alloc | apply Bk.later (hB := hRwz19) | apply Bk.later (hB := hRwz18)) | ((with_reducible apply Bk.mv hRwz19); (focus omega)) | ((with_reducible apply Bk.mv hRwz18); (focus omega)) | ((with_reducible apply Bk.later); rotate_left; (with_reducible assumption)) | ((with_reducible apply Bk.put); rotate_left; (first | (dsimp only; omega)))))) (fun hHeld => ?_)
          clear hK K hOld B0 B1 B2 B3
          try simp only [Act.put, List.setIfInBounds_toArray, List.set_cons_zero, List.set_cons_succ]
          refine wpAnyH_ready (rs := [6, 12]) (by kernel_rfl) (by simp) ?_
          refine AllReadyH.cons rfl (fun K hK => ?_) ?_
          · have hOld := hHeld; clear hHeld
            have B0 := hOld.1
            have B1 := hOld.2.1
            have B2 := hOld.2.2.1
            have B3 := hOld.2.2.2
            go_simp
            (go_at_call 14; (with_reducible refine (Tw.call2 (by (repeat (first | with_reducible assumption | with_reducible apply Tw.alloc | with_reducible apply Tw.drew | ((with_reducible apply Tw.after); rotate_left; (with_reducible assumption)) | ((with_reducible apply Tw.setCell); rotate_left; (first | (dsimp only; omega) | omega | (simp; omega)); (first | (dsimp only; omega) | omega | (simp; omega)); (first | (dsimp only; omega) | omega | (simp; omega)))))) (k2 _ _ _)).mono ?_); rintro e wz20 ⟨rfl, hR, HT⟩)
            have hRwz20 := hR
            have hzR := hR.size
            (try simp at hzR)
            have GR0 : Bk (W.heap.size) 0 [.int .i64 0, .int .i64 0] wz20 := Bk.mv hR (by omega) (by first | (simp [Bk, go_sem]; done) | (repeat (first | with_reducible (first | assumption | apply Bk.drew | apply Bk.alloc | apply Bk.later (hB := hRwz20) | apply Bk.later (hB := hRwz19) | apply Bk.later (hB := hRwz18)) | ((with_reducible apply Bk.mv hRwz20); (focus omega)) | ((with_reducible apply Bk.mv hRwz19); (focus omega)) | ((with_reducible apply Bk.mv hRwz18); (focus omega)) | ((with_reducible apply Bk.later); rotate_left; (with_reducible assumption)) | ((with_reducible apply Bk.put); rotate_left; (first | (dsimp only; omega))))))
            have GS0 := GR0; simp only [Bk] at GS0
            have nl0 : W.heap.size < wz20.heap.size := by omega
            (try go_wp2_with (fail))
            refine hK.out _ _ (by refine ⟨?_, ?_, ?_, ?_⟩ <;> (repeat (first | with_reducible (first | assumption | apply Bk.drew | apply Bk.alloc | apply Bk.later (hB := hRwz20) | apply Bk.later (hB := hRwz19) | apply Bk.later (hB := hRwz18)) | ((with_reducible apply Bk.mv hRwz20); (focus omega)) | ((with_reducible apply Bk.mv hRwz19); (focus omega)) | ((with_reducible apply Bk.mv hRwz18); (focus omega)) | ((with_reducible apply Bk.later); rotate_left; (with_reducible assumption)) | ((with_reducible apply Bk.put); rotate_left; (first | (dsimp only; omega)))))) (fun hHeld => ?_)
            clear hK K hOld B0 B1 B2 B3
            try simp only [Act.put, List.setIfInBounds_toArray, List.set_cons_zero, List.set_cons_succ]
            refine wpAnyH_take (i := 7) (v := ?_) (by simp only [List.getElem?_toArray, List.getElem?_cons_succ, List.getElem?_cons_zero]; rfl) (by kernel_rfl) (by kernel_rfl) (by kernel_rfl) (fun _ _ _ h => h) (Or.inl ⟨by rfl, ?_⟩) (by assumption) ?_
            rotate_left
            · intro w hSw; (try dsimp only at hSw); simp only [Bk] at hSw; go_simp; try with_reducible rfl
            try simp only [Act.put, List.setIfInBounds_toArray, List.set_cons_zero, List.set_cons_succ]
            refine wpAnyH_take (i := 8) (v := ?_) (by simp only [List.getElem?_toArray, List.getElem?_cons_succ, List.getElem?_cons_zero]; rfl) (by kernel_rfl) (by kernel_rfl) (by kernel_rfl) (fun _ _ _ h => h) (Or.inl ⟨by rfl, ?_⟩) (by assumption) ?_
            rotate_left
            · intro w hSw; (try dsimp only at hSw); simp only [Bk] at hSw; go_simp; try with_reducible rfl
            try simp only [Act.put, List.setIfInBounds_toArray, List.set_cons_zero, List.set_cons_succ]
            refine wpAnyH_take (i := 9) (v := ?_) (by simp only [List.getElem?_toArray, List.getElem?_cons_succ, List.getElem?_cons_zero]; rfl) (by kernel_rfl) (by kernel_rfl) (by kernel_rfl) (fun _ _ _ h => h) (Or.inl ⟨by rfl, ?_⟩) (by assumption) ?_
            rotate_left
            · intro w hSw; (try dsimp only at hSw); simp only [Bk] at hSw; go_simp; try with_reducible rfl
            try simp only [Act.put, List.setIfInBounds_toArray, List.set_cons_zero, List.set_cons_succ]
            refine wpAnyH_take (i := 10) (v := ?_) (by simp only [List.getElem?_toArray, List.getElem?_cons_succ, List.getElem?_cons_zero]; rfl) (by kernel_rfl) (by kernel_rfl) (by kernel_rfl) (fun _ _ _ h => h) (Or.inl ⟨by rfl, ?_⟩) (by assumption) ?_
            rotate_left
            · intro w hSw; (try dsimp only at hSw); simp only [Bk] at hSw; go_simp; try with_reducible rfl
            try simp only [Act.put, List.setIfInBounds_toArray, List.set_cons_zero, List.set_cons_succ]
            refine wpAnyH_ready (rs := [12]) (by kernel_rfl) (by simp) ?_
            refine AllReadyH.cons rfl (fun K hK => ?_) ?_
            · have hOld := hHeld; clear hHeld
              have B0 := hOld.1
              have B1 := hOld.2.1
              have B2 := hOld.2.2.1
              have B3 := hOld.2.2.2
              go_simp
              refine hK.out _ _ (by refine ⟨?_, ?_, ?_, ?_⟩ <;> (repeat (first | with_reducible (first | assumption | apply Bk.drew | apply Bk.alloc | apply Bk.later (hB := hRwz20) | apply Bk.later (hB := hRwz19) | apply Bk.later (hB := hRwz18)) | ((with_reducible apply Bk.mv hRwz20); (focus omega)) | ((with_reducible apply Bk.mv hRwz19); (focus omega)) | ((with_reducible apply Bk.mv hRwz18); (focus omega)) | ((with_reducible apply Bk.later); rotate_left; (with_reducible assumption)) | ((with_reducible apply Bk.put); rotate_left; (first | (dsimp only; omega)))))) (fun hHeld => ?_)
              clear hK K hOld B0 B1 B2 B3
              try simp only [Act.put, List.setIfInBounds_toArray, List.set_cons_zero, List.set_cons_succ]
              refine wpAnyH_ready (rs := [13]) (by kernel_rfl) (by simp) ?_
              refine AllReadyH.cons rfl (fun K hK => ?_) ?_
              · have hOld := hHeld; clear hHeld
                have B0 := hOld.1
                have B1 := hOld.2.1
                have B2 := hOld.2.2.1
                have B3 := hOld.2.2.2
                have G0 : Bk (W.heap.size) 0 [.int .i64 0, .int .i64 0] ((wz20).alloc (Obj.cells #[.int .i64 0, .int .i64 0] 24)) := by first | (simp [Bk, go_sem]; done) | (repeat (first | with_reducible (first | assumption | apply Bk.drew | apply Bk.alloc | apply Bk.later (hB := hRwz20) | apply Bk.later (hB := hRwz19) | apply Bk.later (hB := hRwz18)) | ((with_reducible apply Bk.mv hRwz20); (focus omega)) | ((with_reducible apply Bk.mv hRwz19); (focus omega)) | ((with_reducible apply Bk.mv hRwz18); (focus omega)) | ((with_reducible apply Bk.later); rotate_left; (with_reducible assumption)) | ((with_reducible apply Bk.put); rotate_left; (first | (dsimp only; omega)))))
                simp only [Bk] at G0
                have G1 : Bk (wz20.heap.size) 0 [.int .i64 0, .int .i64 0] ((wz20).alloc (Obj.cells #[.int .i64 0, .int .i64 0] 24)) := by first | (simp [Bk, go_sem]; done) | (repeat (first | with_reducible (first | assumption | apply Bk.drew | apply Bk.alloc | apply Bk.later (hB := hRwz20) | apply Bk.later (hB := hRwz19) | apply Bk.later (hB := hRwz18)) | ((with_reducible apply Bk.mv hRwz20); (focus omega)) | ((with_reducible apply Bk.mv hRwz19); (focus omega)) | ((with_reducible apply Bk.mv hRwz18); (focus omega)) | ((with_reducible apply Bk.later); rotate_left; (with_reducible assumption)) | ((with_reducible apply Bk.put); rotate_left; (first | (dsimp only; omega)))))
                simp only [Bk] at G1
                have na01 : W.heap.size ≠ wz20.heap.size := by omega
                have nb01 := na01.symm
                go_simp
                refine hK.out _ _ (by refine ⟨?_, ?_, ?_, ?_⟩ <;> (repeat (first | with_reducible (first | assumption | apply Bk.drew | apply Bk.alloc | apply Bk.later (hB := hRwz20) | apply Bk.later (hB := hRwz19) | apply Bk.later (hB := hRwz18)) | ((with_reducible apply Bk.mv hRwz20); (focus omega)) | ((with_reducible apply Bk.mv hRwz19); (focus omega)) | ((with_reducible apply Bk.mv hRwz18); (focus omega)) | ((with_reducible apply Bk.later); rotate_left; (with_reducible assumption)) | ((with_reducible apply Bk.put); rotate_left; (first | (dsimp only; omega)))))) (fun hHeld => ?_)
                clear hK K hOld B0 B1 B2 B3
                try simp only [Act.put, List.setIfInBounds_toArray, List.set_cons_zero, List.set_cons_succ]
                refine wpAnyH_ready (rs := [14]) (by kernel_rfl) (by simp) ?_
                refine AllReadyH.cons rfl (fun K hK => ?_) ?_
                · have hOld := hHeld; clear hHeld
                  have B0 := hOld.1
                  have B1 := hOld.2.1
                  have B2 := hOld.2.2.1
                  have B3 := hOld.2.2.2
                  go_simp
                  refine hK.out _ _ (by refine ⟨?_, ?_, ?_, ?_⟩ <;> (repeat (first | with_reducible (first | assumption | apply Bk.drew | apply Bk.alloc | apply Bk.later (hB := hRwz20) | apply Bk.later (hB := hRwz19) | apply Bk.later (hB := hRwz18)) | ((with_reducible apply Bk.mv hRwz20); (focus omega)) | ((with_reducible apply Bk.mv hRwz19); (focus omega)) | ((with_reducible apply Bk.mv hRwz18); (focus omega)) | ((with_reducible apply Bk.later); rotate_left; (with_reducible assumption)) | ((with_reducible apply Bk.put); rotate_left; (first | (dsimp only; omega)))))) (fun hHeld => ?_)
                  clear hK K hOld B0 B1 B2 B3
                  try simp only [Act.put, List.setIfInBounds_toArray, List.set_cons_zero, List.set_cons_succ]
                  refine wpAnyH_take (i := 15) (v := ?_) (by simp only [List.getElem?_toArray, List.getElem?_cons_succ, List.getElem?_cons_zero]; rfl) (by kernel_rfl) (by kernel_rfl) (by kernel_rfl) (fun _ _ _ h => h) (Or.inl ⟨by rfl, ?_⟩) (by assumption) ?_
                  rotate_left
                  · intro w hSw; (try dsimp only at hSw); simp only [Bk] at hSw; go_simp; try with_reducible rfl
                  try simp only [Act.put, List.setIfInBounds_toArray, List.set_cons_zero, List.set_cons_succ]
                  refine wpAnyH_done (by kernel_rfl) ?_ _
                  (try refine NoPanic.normal ?_)
                  go_wp2
                  go_meet
                  exact ⟨_, _, rfl, rfl, rfl, by (repeat (first | with_reducible assumption | with_reducible apply Tw.alloc | with_reducible apply Tw.drew | ((with_reducible apply Tw.after); rotate_left; (with_reducible assumption)) | ((with_reducible apply Tw.setCell); rotate_left; (first | (dsimp only; omega) | omega | (simp; omega)); (first | (dsimp only; omega) | omega | (simp; omega)); (first | (dsimp only; omega) | omega | (simp; omega))))), by simp (maxDischargeDepth := 8) [Bk, go_sem, *], hHeld.2.2.1, hHeld.2.2.2⟩
                exact AllReadyH.nil
              exact AllReadyH.nil
            exact AllReadyH.nil
          refine AllReadyH.cons rfl (fun K hK => ?_) ?_
          · have hOld := hHeld; clear hHeld
            have B0 := hOld.1
            have B1 := hOld.2.1
            have B2 := hOld.2.2.1
            have B3 := hOld.2.2.2
            go_simp
            refine hK.out _ _ (by refine ⟨?_, ?_, ?_, ?_⟩ <;> (repeat (first | with_reducible (first | assumption | apply Bk.drew | apply Bk.alloc | apply Bk.later (hB := hRwz19) | apply Bk.later (hB := hRwz18)) | ((with_reducible apply Bk.mv hRwz19); (focus omega)) | ((with_reducible apply Bk.mv hRwz18); (focus omega)) | ((with_reducible apply Bk.later); rotate_left; (with_reducible assumption)) | ((with_reducible apply Bk.put); rotate_left; (first | (dsimp only; omega)))))) (fun hHeld => ?_)
            clear hK K hOld B0 B1 B2 B3
            try simp only [Act.put, List.setIfInBounds_toArray, List.set_cons_zero, List.set_cons_succ]
            refine wpAnyH_ready (rs := [6]) (by kernel_rfl) (by simp) ?_
            refine AllReadyH.cons rfl (fun K hK => ?_) ?_
            · have hOld := hHeld; clear hHeld
              have B0 := hOld.1
              have B1 := hOld.2.1
              have B2 := hOld.2.2.1
              have B3 := hOld.2.2.2
              go_simp
              (go_at_call 14; (with_reducible refine (Tw.call2 (by (repeat (first | with_reducible assumption | with_reducible apply Tw.alloc | with_reducible apply Tw.drew | ((with_reducible apply Tw.after); rotate_left; (with_reducible assumption)) | ((with_reducible apply Tw.setCell); rotate_left; (first | (dsimp only; omega) | omega | (simp; omega)); (first | (dsimp only; omega) | omega | (simp; omega)); (first | (dsimp only; omega) | omega | (simp; omega)))))) (k2 _ _ _)).mono ?_); rintro e wz21 ⟨rfl, hR, HT⟩)
              have hRwz21 := hR
              have hzR := hR.size
              (try simp at hzR)
              have GR0 : Bk (W.heap.size) 0 [.int .i64 0, .int .i64 0] wz21 := Bk.mv hR (by omega) (by first | (simp [Bk, go_sem]; done) | (repeat (first | with_reducible (first | assumption | apply Bk.drew | apply Bk.alloc | apply Bk.later (hB := hRwz21) | apply Bk.later (hB := hRwz19) | apply Bk.later (hB := hRwz18)) | ((with_reducible apply Bk.mv hRwz21); (focus omega)) | ((with_reducible apply Bk.mv hRwz19); (focus omega)) | ((with_reducible apply Bk.mv hRwz18); (focus omega)) | ((with_reducible apply Bk.later); rotate_left; (with_reducible assumption)) | ((with_reducible apply Bk.put); rotate_left; (first | (dsimp only; omega))))))
              have GS0 := GR0; simp only [Bk] at GS0
              have nl0 : W.heap.size < wz21.heap.size := by omega
              have GR1 : Bk (wz19.heap.size) 0 [.int .i64 0, .int .i64 0] wz21 := Bk.mv hR (by omega) (by first | (simp [Bk, go_sem]; done) | (repeat (first | with_reducible (first | assumption | apply Bk.drew | apply Bk.alloc | apply Bk.later (hB := hRwz21) | apply Bk.later (hB := hRwz19) | apply Bk.later (hB := hRwz18)) | ((with_reducible apply Bk.mv hRwz21); (focus omega)) | ((with_reducible apply Bk.mv hRwz19); (focus omega)) | ((with_reducible apply Bk.mv hRwz18); (focus omega)) | ((with_reducible apply Bk.later); rotate_left; (with_reducible assumption)) | ((with_reducible apply Bk.put); rotate_left; (first | (dsimp only; omega))))))
              have GS1 := GR1; simp only [Bk] at GS1
              have nl1 : wz19.heap.size < wz21.heap.size := by omega
              (try go_wp2_with (fail))
              refine hK.out _ _ (by refine ⟨?_, ?_, ?_, ?_⟩ <;> (repeat (first | with_reducible (first | assumption | apply Bk.drew | apply Bk.alloc | apply Bk.later (hB := hRwz21) | apply Bk.later (hB := hRwz19) | apply Bk.later (hB := hRwz18)) | ((with_reducible apply Bk.mv hRwz21); (focus omega)) | ((with_reducible apply Bk.mv hRwz19); (focus omega)) | ((with_reducible apply Bk.mv hRwz18); (focus omega)) | ((with_reducible apply Bk.later); rotate_left; (with_reducible assumption)) | ((with_reducible apply Bk.put); rotate_left; (first | (dsimp only; omega)))))) (fun hHeld => ?_)
              clear hK K hOld B0 B1 B2 B3
              try simp only [Act.put, List.setIfInBounds_toArray, List.set_cons_zero, List.set_cons_succ]
              refine wpAnyH_take (i := 7) (v := ?_) (by simp only [List.getElem?_toArray, List.getElem?_cons_succ, List.getElem?_cons_zero]; rfl) (by kernel_rfl) (by kernel_rfl) (by kernel_rfl) (fun _ _ _ h => h) (Or.inl ⟨by rfl, ?_⟩) (by assumption) ?_
              rotate_left
              · intro w hSw; (try dsimp only at hSw); simp only [Bk] at hSw; go_simp; try with_reducible rfl
              try simp only [Act.put, List.setIfInBounds_toArray, List.set_cons_zero, List.set_cons_succ]
              refine wpAnyH_take (i := 8) (v := ?_) (by simp only [List.getElem?_toArray, List.getElem?_cons_succ, List.getElem?_cons_zero]; rfl) (by kernel_rfl) (by kernel_rfl) (by kernel_rfl) (fun _ _ _ h => h) (Or.inl ⟨by rfl, ?_⟩) (by assumption) ?_
              rotate_left
              · intro w hSw; (try dsimp only at hSw); simp only [Bk] at hSw; go_simp; try with_reducible rfl
              try simp only [Act.put, List.setIfInBounds_toArray, List.set_cons_zero, List.set_cons_succ]
              refine wpAnyH_take (i := 9) (v := ?_) (by simp only [List.getElem?_toArray, List.getElem?_cons_succ, List.getElem?_cons_zero]; rfl) (by kernel_rfl) (by kernel_rfl) (by kernel_rfl) (fun _ _ _ h => h) (Or.inl ⟨by rfl, ?_⟩) (by assumption) ?_
              rotate_left
              · intro w hSw; (try dsimp only at hSw); simp only [Bk] at hSw; go_simp; try with_reducible rfl
              try simp only [Act.put, List.setIfInBounds_toArray, List.set_cons_zero, List.set_cons_succ]
              refine wpAnyH_take (i := 10) (v := ?_) (by simp only [List.getElem?_toArray, List.getElem?_cons_succ, List.getElem?_cons_zero]; rfl) (by kernel_rfl) (by kernel_rfl) (by kernel_rfl) (fun _ _ _ h => h) (Or.inl ⟨by rfl, ?_⟩) (by assumption) ?_
              rotate_left
              · intro w hSw; (try dsimp only at hSw); simp only [Bk] at hSw; go_simp; try with_reducible rfl
              try simp only [Act.put, List.setIfInBounds_toArray, List.set_cons_zero, List.set_cons_succ]
              refine wpAnyH_ready (rs := [13]) (by kernel_rfl) (by simp) ?_
              refine AllReadyH.cons rfl (fun K hK => ?_) ?_
              · have hOld := hHeld; clear hHeld
                have B0 := hOld.1
                have B1 := hOld.2.1
                have B2 := hOld.2.2.1
                have B3 := hOld.2.2.2
                have G0 : Bk (W.heap.size) 0 [.int .i64 0, .int .i64 0] (wz21) := by first | (simp [Bk, go_sem]; done) | (repeat (first | with_reducible (first | assumption | apply Bk.drew | apply Bk.alloc | apply Bk.later (hB := hRwz21) | apply Bk.later (hB := hRwz19) | apply Bk.later (hB := hRwz18)) | ((with_reducible apply Bk.mv hRwz21); (focus omega)) | ((with_reducible apply Bk.mv hRwz19); (focus omega)) | ((with_reducible apply Bk.mv hRwz18); (focus omega)) | ((with_reducible apply Bk.later); rotate_left; (with_reducible assumption)) | ((with_reducible apply Bk.put); rotate_left; (first | (dsimp only; omega)))))
                simp only [Bk] at G0
                have G1 : Bk (wz19.heap.size) 0 [.int .i64 0, .int .i64 0] (wz21) := by first | (simp [Bk, go_sem]; done) | (repeat (first | with_reducible (first | assumption | apply Bk.drew | apply Bk.alloc | apply Bk.later (hB := hRwz21) | apply Bk.later (hB := hRwz19) | apply Bk.later (hB := hRwz18)) | ((with_reducible apply Bk.mv hRwz21); (focus omega)) | ((with_reducible apply Bk.mv hRwz19); (focus omega)) | ((with_reducible apply Bk.mv hRwz18); (focus omega)) | ((with_reducible apply Bk.later); rotate_left; (with_reducible assumption)) | ((with_reducible apply Bk.put); rotate_left; (first | (dsimp only; omega)))))
                simp only [Bk] at G1
                have na01 : W.heap.size ≠ wz19.heap.size := by omega
                have nb01 := na01.symm
                go_simp
                refine hK.out _ _ (by refine ⟨?_, ?_, ?_, ?_⟩ <;> (repeat (first | with_reducible (first | assumption | apply Bk.drew | apply Bk.alloc | apply Bk.later (hB := hRwz21) | apply Bk.later (hB := hRwz19) | apply Bk.later (hB := hRwz18)) | ((with_reducible apply Bk.mv hRwz21); (focus omega)) | ((with_reducible apply Bk.mv hRwz19); (focus omega)) | ((with_reducible apply Bk.mv hRwz18); (focus omega)) | ((with_reducible apply Bk.later); rotate_left; (with_reducible assumption)) | ((with_reducible apply Bk.put); rotate_left; (first | (dsimp only; omega)))))) (fun hHeld => ?_)
                clear hK K hOld B0 B1 B2 B3
                try simp only [Act.put, List.setIfInBounds_toArray, List.set_cons_zero, List.set_cons_succ]
                refine wpAnyH_ready (rs := [14]) (by kernel_rfl) (by simp) ?_
                refine AllReadyH.cons rfl (fun K hK => ?_) ?_
                · have hOld := hHeld; clear hHeld
                  have B0 := hOld.1
                  have B1 := hOld.2.1
                  have B2 := hOld.2.2.1
                  have B3 := hOld.2.2.2
                  go_simp
                  refine hK.out _ _ (by refine ⟨?_, ?_, ?_, ?_⟩ <;> (repeat (first | with_reducible (first | assumption | apply Bk.drew | apply Bk.alloc | apply Bk.later (hB := hRwz21) | apply Bk.later (hB := hRwz19) | apply Bk.later (hB := hRwz18)) | ((with_reducible apply Bk.mv hRwz21); (focus omega)) | ((with_reducible apply Bk.mv hRwz19); (focus omega)) | ((with_reducible apply Bk.mv hRwz18); (focus omega)) | ((with_reducible apply Bk.later); rotate_left; (with_reducible assumption)) | ((with_reducible apply Bk.put); rotate_left; (first | (dsimp only; omega)))))) (fun hHeld => ?_)
                  clear hK K hOld B0 B1 B2 B3
                  try simp only [Act.put, List.setIfInBounds_toArray, List.set_cons_zero, List.set_cons_succ]
                  refine wpAnyH_take (i := 15) (v := ?_) (by simp only [List.getElem?_toArray, List.getElem?_cons_succ, List.getElem?_cons_zero]; rfl) (by kernel_rfl) (by kernel_rfl) (by kernel_rfl) (fun _ _ _ h => h) (Or.inl ⟨by rfl, ?_⟩) (by assumption) ?_
                  rotate_left
                  · intro w hSw; (try dsimp only at hSw); simp only [Bk] at hSw; go_simp; try with_reducible rfl
                  try simp only [Act.put, List.setIfInBounds_toArray, List.set_cons_zero, List.set_cons_succ]
                  refine wpAnyH_done (by kernel_rfl) ?_ _
                  (try refine NoPanic.normal ?_)
                  go_wp2
                  go_meet
                  exact ⟨_, _, rfl, rfl, rfl, by (repeat (first | with_reducible assumption | with_reducible apply Tw.alloc | with_reducible apply Tw.drew | ((with_reducible apply Tw.after); rotate_left; (with_reducible assumption)) | ((with_reducible apply Tw.setCell); rotate_left; (first | (dsimp only; omega) | omega | (simp; omega)); (first | (dsimp only; omega) | omega | (simp; omega)); (first | (dsimp only; omega) | omega | (simp; omega))))), by simp (maxDischargeDepth := 8) [Bk, go_sem, *], hHeld.2.2.1, hHeld.2.2.2⟩
                exact AllReadyH.nil
              exact AllReadyH.nil
            exact AllReadyH.nil
          exact AllReadyH.nil
        refine AllReadyH.cons rfl (fun K hK => ?_) ?_
        · have hOld := hHeld; clear hHeld
          have B0 := hOld.1
          have B1 := hOld.2.1
          have B2 := hOld.2.2.1
          have B3 := hOld.2.2.2
          go_simp
          refine hK.out _ _ (by refine ⟨?_, ?_, ?_, ?_⟩ <;> (repeat (first | with_reducible (first | assumption | apply Bk.drew | apply Bk.alloc | apply Bk.later (hB := hRwz18)) | ((with_reducible apply Bk.mv hRwz18); (focus omega)) | ((with_reducible apply Bk.later); rotate_left; (with_reducible assumption)) | ((with_reducible apply Bk.put); rotate_left; (first | (dsimp only; omega)))))) (fun hHeld => ?_)
          clear hK K hOld B0 B1 B2 B3
          try simp only [Act.put, List.setIfInBounds_toArray, List.set_cons_zero, List.set_cons_succ]
          refine wpAnyH_ready (rs := [4]) (by kernel_rfl) (by simp) ?_
          refine AllReadyH.cons rfl (fun K hK => ?_) ?_
          · have hOld := hHeld; clear hHeld
            have B0 := hOld.1
            have B1 := hOld.2.1
            have B2 := hOld.2.2.1
            have B3 := hOld.2.2.2
            go_simp
            (go_at_call 9; (with_reducible refine (kP2 _).mono ?_); rintro e wz22 ⟨rfl, hR⟩)
            have hRwz22 := hR
            have hzR := hR.size
            (try simp at hzR)
            have GR0 : Bk (W.heap.size) 0 [.int .i64 0, .int .i64 0] wz22 := Bk.later (by first | (simp [Bk, go_sem]; done) | (repeat (first | with_reducible (first | assumption | apply Bk.drew | apply Bk.alloc | apply Bk.later (hB := hRwz22) | apply Bk.later (hB := hRwz18)) | ((with_reducible apply Bk.mv hRwz22); (focus omega)) | ((with_reducible apply Bk.mv hRwz18); (focus omega)) | ((with_reducible apply Bk.later); rotate_left; (with_reducible assumption)) | ((with_reducible apply Bk.put); rotate_left; (first | (dsimp only; omega)))))) hR
            have GS0 := GR0; simp only [Bk] at GS0
            have nl0 : W.heap.size < wz22.heap.size := by omega
            have GR1 : Bk (wz18.heap.size) 0 [.int .i64 0, .int .i64 0] wz22 := Bk.later (by first | (simp [Bk, go_sem]; done) | (repeat (first | with_reducible (first | assumption | apply Bk.drew | apply Bk.alloc | apply Bk.later (hB := hRwz22) | apply Bk.later (hB := hRwz18)) | ((with_reducible apply Bk.mv hRwz22); (focus omega)) | ((with_reducible apply Bk.mv hRwz18); (focus omega)) | ((with_reducible apply Bk.later); rotate_left; (with_reducible assumption)) | ((with_reducible apply Bk.put); rotate_left; (first | (dsimp only; omega)))))) hR
            have GS1 := GR1; simp only [Bk] at GS1
            have nl1 : wz18.heap.size < wz22.heap.size := by omega
            (try go_wp2_with (fail))
            refine hK.out _ _ (by refine ⟨?_, ?_, ?_, ?_⟩ <;> (repeat (first | with_reducible (first | assumption | apply Bk.drew | apply Bk.alloc | apply Bk.later (hB := hRwz22) | apply Bk.later (hB := hRwz18)) | ((with_reducible apply Bk.mv hRwz22); (focus omega)) | ((with_reducible apply Bk.mv hRwz18); (focus omega)) | ((with_reducible apply Bk.later); rotate_left; (with_reducible assumption)) | ((with_reducible apply Bk.put); rotate_left; (first | (dsimp only; omega)))))) (fun hHeld => ?_)
            clear hK K hOld B0 B1 B2 B3
            try simp only [Act.put, List.setIfInBounds_toArray, List.set_cons_zero, List.set_cons_succ]
            refine wpAnyH_ready (rs := [6]) (by kernel_rfl) (by simp) ?_
            refine AllReadyH.cons rfl (fun K hK => ?_) ?_
            · have hOld := hHeld; clear hHeld
              have B0 := hOld.1
              have B1 := hOld.2.1
              have B2 := hOld.2.2.1
              have B3 := hOld.2.2.2
              go_simp
              (go_at_call 14; (with_reducible refine (Tw.call2 (by (repeat (first | with_reducible assumption | with_reducible apply Tw.alloc | with_reducible apply Tw.drew | ((with_reducible apply Tw.after); rotate_left; (with_reducible assumption)) | ((with_reducible apply Tw.setCell); rotate_left; (first | (dsimp only; omega) | omega | (simp; omega)); (first | (dsimp only; omega) | omega | (simp; omega)); (first | (dsimp only; omega) | omega | (simp; omega)))))) (k2 _ _ _)).mono ?_); rintro e wz23 ⟨rfl, hR, HT⟩)
              have hRwz23 := hR
              have hzR := hR.size
              (try simp at hzR)
              have GR0 : Bk (W.heap.size) 0 [.int .i64 0, .int .i64 0] wz23 := Bk.mv hR (by omega) (by first | (simp [Bk, go_sem]; done) | (repeat (first | with_reducible (first | assumption | apply Bk.drew | apply Bk.alloc | apply Bk.later (hB := hRwz23) | apply Bk.later (hB := hRwz22) | apply Bk.later (hB := hRwz18)) | ((with_reducible apply Bk.mv hRwz23); (focus omega)) | ((with_reducible apply Bk.mv hRwz22); (focus omega)) | ((with_reducible apply Bk.mv hRwz18); (focus omega)) | ((with_reducible apply Bk.later); rotate_left; (with_reducible assumption)) | ((with_reducible apply Bk.put); rotate_left; (first | (dsimp only; omega))))))
              have GS0 := GR0; simp only [Bk] at GS0
              have nl0 : W.heap.size < wz23.heap.size := by omega
              have GR1 : Bk (wz18.heap.size) 0 [.int .i64 0, .int .i64 0] wz23 := Bk.mv hR (by omega) (by first | (simp [Bk, go_sem]; done) | (repeat (first | with_reducible (first | assumption | apply Bk.drew | apply Bk.alloc | apply Bk.later (hB := hRwz23) | apply Bk.later (hB := hRwz22) | apply Bk.later (hB := hRwz18)) | ((with_reducible apply Bk.mv hRwz23); (focus omega)) | ((with_reducible apply Bk.mv hRwz22); (focus omega)) | ((with_reducible apply Bk.mv hRwz18); (focus omega)) | ((with_reducible apply Bk.later); rotate_left; (with_reducible assumption)) | ((with_reducible apply Bk.put); rotate_left; (first | (dsimp only; omega))))))
              have GS1 := GR1; simp only [Bk] at GS1
              have nl1 : wz18.heap.size < wz23.heap.size := by omega
              (try go_wp2_with (fail))
              refine hK.out _ _ (by refine ⟨?_, ?_, ?_, ?_⟩ <;> (repeat (first | with_reducible (first | assumption | apply Bk.drew | apply Bk.alloc | apply Bk.later (hB := hRwz23) | apply Bk.later (hB := hRwz22) | apply Bk.later (hB := hRwz18)) | ((with_reducible apply Bk.mv hRwz23); (focus omega)) | ((with_reducible apply Bk.mv hRwz22); (focus omega)) | ((with_reducible apply Bk.mv hRwz18); (focus omega)) | ((with_reducible apply Bk.later); rotate_left; (with_reducible assumption)) | ((with_reducible apply Bk.put); rotate_left; (first | (dsimp only; omega)))))) (fun hHeld => ?_)
              clear hK K hOld B0 B1 B2 B3
              try simp only [Act.put, List.setIfInBounds_toArray, List.set_cons_zero, List.set_cons_succ]
              refine wpAnyH_take (i := 7) (v := ?_) (by simp only [List.getElem?_toArray, List.getElem?_cons_succ, List.getElem?_cons_zero]; rfl) (by kernel_rfl) (by kernel_rfl) (by kernel_rfl) (fun _ _ _ h => h) (Or.inl ⟨by rfl, ?_⟩) (by assumption) ?_
              rotate_left
              · intro w hSw; (try dsimp only at hSw); simp only [Bk] at hSw; go_simp; try with_reducible rfl
              try simp only [Act.put, List.setIfInBounds_toArray, List.set_cons_zero, List.set_cons_succ]
              refine wpAnyH_take (i := 8) (v := ?_) (by simp only [List.getElem?_toArray, List.getElem?_cons_succ, List.getElem?_cons_zero]; rfl) (by kernel_rfl) (by kernel_rfl) (by kernel_rfl) (fun _ _ _ h => h) (Or.inl ⟨by rfl, ?_⟩) (by assumption) ?_
              rotate_left
              · intro w hSw; (try dsimp only at hSw); simp only [Bk] at hSw; go_simp; try with_reducible rfl
              try simp only [Act.put, List.setIfInBounds_toArray, List.set_cons_zero, List.set_cons_succ]
              refine wpAnyH_take (i := 9) (v := ?_) (by simp only [List.getElem?_toArray, List.getElem?_cons_succ, List.getElem?_cons_zero]; rfl) (by kernel_rfl) (by kernel_rfl) (by kernel_rfl) (fun _ _ _ h => h) (Or.inl ⟨by rfl, ?_⟩) (by assumption) ?_
              rotate_left
              · intro w hSw; (try dsimp only at hSw); simp only [Bk] at hSw; go_simp; try with_reducible rfl
              try simp only [Act.put, List.setIfInBounds_toArray, List.set_cons_zero, List.set_cons_succ]
              refine wpAnyH_take (i := 10) (v := ?_) (by simp only [List.getElem?_toArray, List.getElem?_cons_succ, List.getElem?_cons_zero]; rfl) (by kernel_rfl) (by kernel_rfl) (by kernel_rfl) (fun _ _ _ h => h) (Or.inl ⟨by rfl, ?_⟩) (by assumption) ?_
              rotate_left
              · intro w hSw; (try dsimp only at hSw); simp only [Bk] at hSw; go_simp; try with_reducible rfl
              try simp only [Act.put, List.setIfInBounds_toArray, List.set_cons_zero, List.set_cons_succ]
              refine wpAnyH_ready (rs := [13]) (by kernel_rfl) (by simp) ?_
              refine AllReadyH.cons rfl (fun K hK => ?_) ?_
              · have hOld := hHeld; clear hHeld
                have B0 := hOld.1
                have B1 := hOld.2.1
                have B2 := hOld.2.2.1
                have B3 := hOld.2.2.2
                have G0 : Bk (W.heap.size) 0 [.int .i64 0, .int .i64 0] (wz23) := by first | (simp [Bk, go_sem]; done) | (repeat (first | with_reducible (first | assumption | apply Bk.drew | apply Bk.alloc | apply Bk.later (hB := hRwz23) | apply Bk.later (hB := hRwz22) | apply Bk.later (hB := hRwz18)) | ((with_reducible apply Bk.mv hRwz23); (focus omega)) | ((with_reducible apply Bk.mv hRwz22); (focus omega)) | ((with_reducible apply Bk.mv hRwz18); (focus omega)) | ((with_reducible apply Bk.later); rotate_left; (with_reducible assumption)) | ((with_reducible apply Bk.put); rotate_left; (first | (dsimp only; omega)))))
                simp only [Bk] at G0
                have G1 : Bk (wz18.heap.size) 0 [.int .i64 0, .int .i64 0] (wz23) := by first | (simp [Bk, go_sem]; done) | (repeat (first | with_reducible (first | assumption | apply Bk.drew | apply Bk.alloc | apply Bk.later (hB := hRwz23) | apply Bk.later (hB := hRwz22) | apply Bk.later (hB := hRwz18)) | ((with_reducible apply Bk.mv hRwz23); (focus omega)) | ((with_reducible apply Bk.mv hRwz22); (focus omega)) | ((with_reducible apply Bk.mv hRwz18); (focus omega)) | ((with_reducible apply Bk.later); rotate_left; (with_reducible assumption)) | ((with_reducible apply Bk.put); rotate_left; (first | (dsimp only; omega)))))
                simp only [Bk] at G1
                have na01 : W.heap.size ≠ wz18.heap.size := by omega
                have nb01 := na01.symm
                go_simp
                refine hK.out _ _ (by refine ⟨?_, ?_, ?_, ?_⟩ <;> (repeat (first | with_reducible (first | assumption | apply Bk.drew | apply Bk.alloc | apply Bk.later (hB := hRwz23) | apply Bk.later (hB := hRwz22) | apply Bk.later (hB := hRwz18)) | ((with_reducible apply Bk.mv hRwz23); (focus omega)) | ((with_reducible apply Bk.mv hRwz22); (focus omega)) | ((with_reducible apply Bk.mv hRwz18); (focus omega)) | ((with_reducible apply Bk.later); rotate_left; (with_reducible assumption)) | ((with_reducible apply Bk.put); rotate_left; (first | (dsimp only; omega)))))) (fun hHeld => ?_)
                clear hK K hOld B0 B1 B2 B3
                try simp only [Act.put, List.setIfInBounds_toArray, List.set_cons_zero, List.set_cons_succ]
                refine wpAnyH_ready (rs := [14]) (by kernel_rfl) (by simp) ?_
                refine AllReadyH.cons rfl (fun K hK => ?_) ?_
                · have hOld := hHeld; clear hHeld
                  have B0 := hOld.1
                  have B1 := hOld.2.1
                  have B2 := hOld.2.2.1
                  have B3 := hOld.2.2.2
                  go_simp
                  refine hK.out _ _ (by refine ⟨?_, ?_, ?_, ?_⟩ <;> (repeat (first | with_reducible (first | assumption | apply Bk.drew | apply Bk.alloc | apply Bk.later (hB := hRwz23) | apply Bk.later (hB := hRwz22) | apply Bk.later (hB := hRwz18)) | ((with_reducible apply Bk.mv hRwz23); (focus omega)) | ((with_reducible apply Bk.mv hRwz22); (focus omega)) | ((with_reducible apply Bk.mv hRwz18); (focus omega)) | ((with_reducible apply Bk.later); rotate_left; (with_reducible assumption)) | ((with_reducible apply Bk.put); rotate_left; (first | (dsimp only; omega)))))) (fun hHeld => ?_)
                  clear hK K hOld B0 B1 B2 B3
                  try simp only [Act.put, List.setIfInBounds_toArray, List.set_cons_zero, List.set_cons_succ]
                  refine wpAnyH_take (i := 15) (v := ?_) (by simp only [List.getElem?_toArray, List.getElem?_cons_succ, List.getElem?_cons_zero]; rfl) (by kernel_rfl) (by kernel_rfl) (by kernel_rfl) (fun _ _ _ h => h) (Or.inl ⟨by rfl, ?_⟩) (by assumption) ?_
                  rotate_left
                  · intro w hSw; (try dsimp only at hSw); simp only [Bk] at hSw; go_simp; try with_reducible rfl
                  try simp only [Act.put, List.setIfInBounds_toArray, List.set_cons_zero, List.set_cons_succ]
                  refine wpAnyH_done (by kernel_rfl) ?_ _
                  (try refine NoPanic.normal ?_)
                  go_wp2
                  go_meet
                  exact ⟨_, _, rfl, rfl, rfl, by (repeat (first | with_reducible assumption | with_reducible apply Tw.alloc | with_reducible apply Tw.drew | ((with_reducible apply Tw.after); rotate_left; (with_reducible assumption)) | ((with_reducible apply Tw.setCell); rotate_left; (first | (dsimp only; omega) | omega | (simp; omega)); (first | (dsimp only; omega) | omega | (simp; omega)); (first | (dsimp only; omega) | omega | (simp; omega))))), by simp (maxDischargeDepth := 8) [Bk, go_sem, *], hHeld.2.2.1, hHeld.2.2.2⟩
                exact AllReadyH.nil
              exact AllReadyH.nil
            exact AllReadyH.nil
          exact AllReadyH.nil
        exact AllReadyH.nil
      refine AllReadyH.cons rfl (fun K hK => ?_) ?_
      · have hOld := hHeld; clear hHeld
        have B0 := hOld.1
        have B1 := hOld.2.1
        have B2 := hOld.2.2.1
        have B3 := hOld.2.2.2
        go_simp
        refine hK.out _ _ (by refine ⟨?_, ?_, ?_, ?_⟩ <;> (repeat (first | with_reducible (first | assumption | apply Bk.drew | apply Bk.alloc) | ((with_reducible apply Bk.later); rotate_left; (with_reducible assumption)) | ((with_reducible apply Bk.put); rotate_left; (first | (dsimp only; omega)))))) (fun hHeld => ?_)
        clear hK K hOld B0 B1 B2 B3
        try simp only [Act.put, List.setIfInBounds_toArray, List.set_cons_zero, List.set_cons_succ]
        refine wpAnyH_ready (rs := [2]) (by kernel_rfl) (by simp) ?_
        refine AllReadyH.cons rfl (fun K hK => ?_) ?_
        · have hOld := hHeld; clear hHeld
          have B0 := hOld.1
          have B1 := hOld.2.1
          have B2 := hOld.2.2.1
          have B3 := hOld.2.2.2
          go_simp
          (go_at_call 9; (with_reducible refine (kP1 _).mono ?_); rintro e wz24 ⟨rfl, hR⟩)
          have hRwz24 := hR
          have hzR := hR.size
          (try simp at hzR)
          have GR0 : Bk (W.heap.size) 0 [.int .i64 0, .int .i64 0] wz24 := Bk.later (by first | (simp [Bk, go_sem]; done) | (repeat (first | with_reducible (first | assumption | apply Bk.drew | apply Bk.alloc | apply Bk.later (hB := hRwz24)) | ((with_reducible apply Bk.mv hRwz24); (focus omega)) | ((with_reducible apply Bk.later); rotate_left; (with_reducible assumption)) | ((with_reducible apply Bk.put); rotate_left; (first | (dsimp only; omega)))))) hR
          have GS0 := GR0; simp only [Bk] at GS0
          have nl0 : W.heap.size < wz24.heap.size := by omega
          have GR1 : Bk (W.heap.size + 1) 0 [.int .i64 0, .int .i64 0] wz24 := Bk.later (by first | (simp [Bk, go_sem]; done) | (repeat (first | with_reducible (first | assumption | apply Bk.drew | apply Bk.alloc | apply Bk.later (hB := hRwz24)) | ((with_reducible apply Bk.mv hRwz24); (focus omega)) | ((with_reducible apply Bk.later); rotate_left; (with_reducible assumption)) | ((with_reducible apply Bk.put); rotate_left; (first | (dsimp only; omega)))))) hR
          have GS1 := GR1; simp only [Bk] at GS1
          have nl1 : W.heap.size + 1 < wz24.heap.size := by omega
          (try go_wp2_with (fail))
          refine hK.out _ _ (by refine ⟨?_, ?_, ?_, ?_⟩ <;> (repeat (first | with_reducible (first | assumption | apply Bk.drew | apply Bk.alloc | apply Bk.later (hB := hRwz24)) | ((with_reducible apply Bk.mv hRwz24); (focus omega)) | ((with_reducible apply Bk.later); rotate_left; (with_reducible assumption)) | ((with_reducible apply Bk.put); rotate_left; (first | (dsimp only; omega)))))) (fun hHeld => ?_)
          clear hK K hOld B0 B1 B2 B3
          try simp only [Act.put, List.setIfInBounds_toArray, List.set_cons_zero, List.set_cons_succ]
          refine wpAnyH_ready (rs := [4]) (by kernel_rfl) (by simp) ?_
          refine AllReadyH.cons rfl (fun K hK => ?_) ?_
          · have hOld := hHeld; clear hHeld
            have B0 := hOld.1
            have B1 := hOld.2.1
            have B2 := hOld.2.2.1
            have B3 := hOld.2.2.2
            go_simp
            (go_at_call 9; (with_reducible refine (kP2 _).mono ?_); rintro e wz25 ⟨rfl, hR⟩)
            have hRwz25 := hR
            have hzR := hR.size
            (try simp at hzR)
            have GR0 : Bk (W.heap.size) 0 [.int .i64 0, .int .i64 0] wz25 := Bk.later (by first | (simp [Bk, go_sem]; done) | (repeat (first | with_reducible (first | assumption | apply Bk.drew | apply Bk.alloc | apply Bk.later (hB := hRwz25) | apply Bk.later (hB := hRwz24)) | ((with_reducible apply Bk.mv hRwz25); (focus omega)) | ((with_reducible apply Bk.mv hRwz24); (focus omega)) | ((with_reducible apply Bk.later); rotate_left; (with_reducible assumption)) | ((with_reducible apply Bk.put); rotate_left; (first | (dsimp only; omega)))))) hR
            have GS0 := GR0; simp only [Bk] at GS0
            have nl0 : W.heap.size < wz25.heap.size := by omega
            have GR1 : Bk (W.heap.size + 1) 0 [.int .i64 0, .int .i64 0] wz25 := Bk.later (by first | (simp [Bk, go_sem]; done) | (repeat (first | with_reducible (first | assumption | apply Bk.drew | apply Bk.alloc | apply Bk.later (hB := hRwz25) | apply Bk.later (hB := hRwz24)) | ((with_reducible apply Bk.mv hRwz25); (focus omega)) | ((with_reducible apply Bk.mv hRwz24); (focus omega)) | ((with_reducible apply Bk.later); rotate_left; (with_reducible assumption)) | ((with_reducible apply Bk.put); rotate_left; (first | (dsimp only; omega)))))) hR
            have GS1 := GR1; simp only [Bk] at GS1
            have nl1 : W.heap.size + 1 < wz25.heap.size := by omega
            (try go_wp2_with (fail))
            refine hK.out _ _ (by refine ⟨?_, ?_, ?_, ?_⟩ <;> (repeat (first | with_reducible (first | assumption | apply Bk.drew | apply Bk.alloc | apply Bk.later (hB := hRwz25) | apply Bk.later (hB := hRwz24)) | ((with_reducible apply Bk.mv hRwz25); (focus omega)) | ((with_reducible apply Bk.mv hRwz24); (focus omega)) | ((with_reducible apply Bk.later); rotate_left; (with_reducible assumption)) | ((with_reducible apply Bk.put); rotate_left; (first | (dsimp only; omega)))))) (fun hHeld => ?_)
            clear hK K hOld B0 B1 B2 B3
            try simp only [Act.put, List.setIfInBounds_toArray, List.set_cons_zero, List.set_cons_succ]
            refine wpAnyH_ready (rs := [6]) (by kernel_rfl) (by simp) ?_
            refine AllReadyH.cons rfl (fun K hK => ?_) ?_
            · have hOld := hHeld; clear hHeld
              have B0 := hOld.1
              have B1 := hOld.2.1
              have B2 := hOld.2.2.1
              have B3 := hOld.2.2.2
              go_simp
              (go_at_call 14; (with_reducible refine (Tw.call2 (by (repeat (first | with_reducible assumption | with_reducible apply Tw.alloc | with_reducible apply Tw.drew | ((with_reducible apply Tw.after); rotate_left; (with_reducible assumption)) | ((with_reducible apply Tw.setCell); rotate_left; (first | (dsimp only; omega) | omega | (simp; omega)); (first | (dsimp only; omega) | omega | (simp; omega)); (first | (dsimp only; omega) | omega | (simp; omega)))))) (k2 _ _ _)).mono ?_); rintro e wz26 ⟨rfl, hR, HT⟩)
              have hRwz26 := hR
              have hzR := hR.size
              (try simp at hzR)
              have GR0 : Bk (W.heap.size) 0 [.int .i64 0, .int .i64 0] wz26 := Bk.mv hR (by omega) (by first | (simp [Bk, go_sem]; done) | (repeat (first | with_reducible (first | assumption | apply Bk.drew | apply Bk.alloc | apply Bk.later (hB := hRwz26) | apply Bk.later (hB := hRwz25) | apply Bk.later (hB := hRwz24)) | ((with_reducible apply Bk.mv hRwz26); (focus omega)) | ((with_reducible apply Bk.mv hRwz25); (focus omega)) | ((with_reducible apply Bk.mv hRwz24); (focus omega)) | ((with_reducible apply Bk.later); rotate_left; (with_reducible assumption)) | ((with_reducible apply Bk.put); rotate_left; (first | (dsimp only; omega))))))
              have GS0 := GR0; simp only [Bk] at GS0
              have nl0 : W.heap.size < wz26.heap.size := by omega
              have GR1 : Bk (W.heap.size + 1) 0 [.int .i64 0, .int .i64 0] wz26 := Bk.mv hR (by omega) (by first | (simp [Bk, go_sem]; done) | (repeat (first | with_reducible (first | assumption | apply Bk.drew | apply Bk.alloc | apply Bk.later (hB := hRwz26) | apply Bk.later (hB := hRwz25) | apply Bk.later (hB := hRwz24)) | ((with_reducible apply Bk.mv hRwz26); (focus omega)) | ((with_reducible apply Bk.mv hRwz25); (focus omega)) | ((with_reducible apply Bk.mv hRwz24); (focus omega)) | ((with_reducible apply Bk.later); rotate_left; (with_reducible assumption)) | ((with_reducible apply Bk.put); rotate_left; (first | (dsimp only; omega))))))
              have GS1 := GR1; simp only [Bk] at GS1
              have nl1 : W.heap.size + 1 < wz26.heap.size := by omega
              (try go_wp2_with (fail))
              refine hK.out _ _ (by refine ⟨?_, ?_, ?_, ?_⟩ <;> (repeat (first | with_reducible (first | assumption | apply Bk.drew | apply Bk.alloc | apply Bk.later (hB := hRwz26) | apply Bk.later (hB := hRwz25) | apply Bk.later (hB := hRwz24)) | ((with_reducible apply Bk.mv hRwz26); (focus omega)) | ((with_reducible apply Bk.mv hRwz25); (focus omega)) | ((with_reducible apply Bk.mv hRwz24); (focus omega)) | ((with_reducible apply Bk.later); rotate_left; (with_reducible assumption)) | ((with_reducible apply Bk.put); rotate_left; (first | (dsimp only; omega)))))) (fun hHeld => ?_)
              clear hK K hOld B0 B1 B2 B3
              try simp only [Act.put, List.setIfInBounds_toArray, List.set_cons_zero, List.set_cons_succ]
              refine wpAnyH_take (i := 7) (v := ?_) (by simp only [List.getElem?_toArray, List.getElem?_cons_succ, List.getElem?_cons_zero]; rfl) (by kernel_rfl) (by kernel_rfl) (by kernel_rfl) (fun _ _ _ h => h) (Or.inl ⟨by rfl, ?_⟩) (by assumption) ?_
              rotate_left
              · intro w hSw; (try dsimp only at hSw); simp only [Bk] at hSw; go_simp; try with_reducible rfl
              try simp only [Act.put, List.setIfInBounds_toArray, List.set_cons_zero, List.set_cons_succ]
              refine wpAnyH_take (i := 8) (v := ?_) (by simp only [List.getElem?_toArray, List.getElem?_cons_succ, List.getElem?_cons_zero]; rfl) (by kernel_rfl) (by kernel_rfl) (by kernel_rfl) (fun _ _ _ h => h) (Or.inl ⟨by rfl, ?_⟩) (by assumption) ?_
              rotate_left
              · intro w hSw; (try dsimp only at hSw); simp only [Bk] at hSw; go_simp; try with_reducible rfl
              try simp only [Act.put, List.setIfInBounds_toArray, List.set_cons_zero, List.set_cons_succ]
              refine wpAnyH_take (i := 9) (v := ?_) (by simp only [List.getElem?_toArray, List.getElem?_cons_succ, List.getElem?_cons_zero]; rfl) (by kernel_rfl) (by kernel_rfl) (by kernel_rfl) (fun _ _ _ h => h) (Or.inl ⟨by rfl, ?_⟩) (by assumption) ?_
              rotate_left
              · intro w hSw; (try dsimp only at hSw); simp only [Bk] at hSw; go_simp; try with_reducible rfl
              try simp only [Act.put, List.setIfInBounds_toArray, List.set_cons_zero, List.set_cons_succ]
              refine wpAnyH_take (i := 10) (v := ?_) (by simp only [List.getElem?_toArray, List.getElem?_cons_succ, List.getElem?_cons_zero]; rfl) (by kernel_rfl) (by kernel_rfl) (by kernel_rfl) (fun _ _ _ h => h) (Or.inl ⟨by rfl, ?_⟩) (by assumption) ?_
              rotate_left
              · intro w hSw; (try dsimp only at hSw); simp only [Bk] at hSw; go_simp; try with_reducible rfl
              try simp only [Act.put, List.setIfInBounds_toArray, List.set_cons_zero, List.set_cons_succ]
              refine wpAnyH_ready (rs := [13]) (by kernel_rfl) (by simp) ?_
              refine AllReadyH.cons rfl (fun K hK => ?_) ?_
              · have hOld := hHeld; clear hHeld
                have B0 := hOld.1
                have B1 := hOld.2.1
                have B2 := hOld.2.2.1
                have B3 := hOld.2.2.2
                have G0 : Bk (W.heap.size) 0 [.int .i64 0, .int .i64 0] (wz26) := by first | (simp [Bk, go_sem]; done) | (repeat (first | with_reducible (first | assumption | apply Bk.drew | apply Bk.alloc | apply Bk.later (hB := hRwz26) | apply Bk.later (hB := hRwz25) | apply Bk.later (hB := hRwz24)) | ((with_reducible apply Bk.mv hRwz26); (focus omega)) | ((with_reducible apply Bk.mv hRwz25); (focus omega)) | ((with_reducible apply Bk.mv hRwz24); (focus omega)) | ((with_reducible apply Bk.later); rotate_left; (with_reducible assumption)) | ((with_reducible apply Bk.put); rotate_left; (first | (dsimp only; omega)))))
                simp only [Bk] at G0
                have G1 : Bk (W.heap.size + 1) 0 [.int .i64 0, .int .i64 0] (wz26) := by first | (simp [Bk, go_sem]; done) | (repeat (first | with_reducible (first | assumption | apply Bk.drew | apply Bk.alloc | apply Bk.later (hB := hRwz26) | apply Bk.later (hB := hRwz25) | apply Bk.later (hB := hRwz24)) | ((with_reducible apply Bk.mv hRwz26); (focus omega)) | ((with_reducible apply Bk.mv hRwz25); (focus omega)) | ((with_reducible apply Bk.mv hRwz24); (focus omega)) | ((with_reducible apply Bk.later); rotate_left; (with_reducible assumption)) | ((with_reducible apply Bk.put); rotate_left; (first | (dsimp only; omega)))))
                simp only [Bk] at G1
                have na01 : W.heap.size ≠ W.heap.size + 1 := by omega
                have nb01 := na01.symm
                go_simp
                refine hK.out _ _ (by refine ⟨?_, ?_, ?_, ?_⟩ <;> (repeat (first | with_reducible (first | assumption | apply Bk.drew | apply Bk.alloc | apply Bk.later (hB := hRwz26) | apply Bk.later (hB := hRwz25) | apply Bk.later (hB := hRwz24)) | ((with_reducible apply Bk.mv hRwz26); (focus omega)) | ((with_reducible apply Bk.mv hRwz25); (focus omega)) | ((with_reducible apply Bk.mv hRwz24); (focus omega)) | ((with_reducible apply Bk.later); rotate_left; (with_reducible assumption)) | ((with_reducible apply Bk.put); rotate_left; (first | (dsimp only; omega)))))) (fun hHeld => ?_)
                clear hK K hOld B0 B1 B2 B3
                try simp only [Act.put, List.setIfInBounds_toArray, List.set_cons_zero, List.set_cons_succ]
                refine wpAnyH_ready (rs := [14]) (by kernel_rfl) (by simp) ?_
                refine AllReadyH.cons rfl (fun K hK => ?_) ?_
                · have hOld := hHeld; clear hHeld
                  have B0 := hOld.1
                  have B1 := hOld.2.1
                  have B2 := hOld.2.2.1
                  have B3 := hOld.2.2.2
                  go_simp
                  refine hK.out _ _ (by refine ⟨?_, ?_, ?_, ?_⟩ <;> (repeat (first | with_reducible (first | assumption | apply Bk.drew | apply Bk.alloc | apply Bk.later (hB := hRwz26) | apply Bk.later (hB := hRwz25) | apply Bk.later (hB := hRwz24)) | ((with_reducible apply Bk.mv hRwz26); (focus omega)) | ((with_reducible apply Bk.mv hRwz25); (focus omega)) | ((with_reducible apply Bk.mv hRwz24); (focus omega)) | ((with_reducible apply Bk.later); rotate_left; (with_reducible assumption)) | ((with_reducible apply Bk.put); rotate_left; (first | (dsimp only; omega)))))) (fun hHeld => ?_)
                  clear hK K hOld B0 B1 B2 B3
                  try simp only [Act.put, List.setIfInBounds_toArray, List.set_cons_zero, List.set_cons_succ]
                  refine wpAnyH_take (i := 15) (v := ?_) (by simp only [List.getElem?_toArray, List.getElem?_cons_succ, List.getElem?_cons_zero]; rfl) (by kernel_rfl) (by kernel_rfl) (by kernel_rfl) (fun _ _ _ h => h) (Or.inl ⟨by rfl, ?_⟩) (by assumption) ?_
                  rotate_left
                  · intro w hSw; (try dsimp only at hSw); simp only [Bk] at hSw; go_simp; try with_reducible rfl
                  try simp only [Act.put, List.setIfInBounds_toArray, List.set_cons_zero, List.set_cons_succ]
                  refine wpAnyH_done (by kernel_rfl) ?_ _
                  (try refine NoPanic.normal ?_)
                  go_wp2
                  go_meet
                  exact ⟨_, _, rfl, rfl, rfl, by (repeat (first | with_reducible assumption | with_reducible apply Tw.alloc | with_reducible apply Tw.drew | ((with_reducible apply Tw.after); rotate_left; (with_reducible assumption)) | ((with_reducible apply Tw.setCell); rotate_left; (first | (dsimp only; omega) | omega | (simp; omega)); (first | (dsimp only; omega) | omega | (simp; omega)); (first | (dsimp only; omega) | omega | (simp; omega))))), by simp (maxDischargeDepth := 8) [Bk, go_sem, *], hHeld.2.2.1, hHeld.2.2.2⟩
                exact AllReadyH.nil
              exact AllReadyH.nil
            exact AllReadyH.nil
          exact AllReadyH.nil
        exact AllReadyH.nil
      exact AllReadyH.nil
    refine AllReadyH.cons rfl (fun K hK => ?_) ?_
    · have hOld := hHeld; clear hHeld
      have B0 := hOld.1
      have B1 := hOld.2.1
      have B2 := hOld.2.2.1
      have B3 := hOld.2.2.2
      go_simp
      refine hK.out _ _ (by refine ⟨?_, ?_, ?_, ?_⟩ <;> (repeat (first | with_reducible (first | assumption | apply Bk.drew | apply Bk.alloc) | ((with_reducible apply Bk.later); rotate_left; (with_reducible assumption)) | ((with_reducible apply Bk.put); rotate_left; (first | (dsimp only; omega)))))) (fun hHeld => ?_)
      clear hK K hOld B0 B1 B2 B3
      try simp only [Act.put, List.setIfInBounds_toArray, List.set_cons_zero, List.set_cons_succ]
      refine wpAnyH_ready (rs := [2, 11]) (by kernel_rfl) (by simp) ?_
      refine AllReadyH.cons rfl (fun K hK => ?_) ?_
      · have hOld := hHeld; clear hHeld
        have B0 := hOld.1
        have B1 := hOld.2.1
        have B2 := hOld.2.2.1
        have B3 := hOld.2.2.2
        go_simp
        (go_at_call 9; (with_reducible refine (kP1 _).mono ?_); rintro e wz27 ⟨rfl, hR⟩)
        have hRwz27 := hR
        have hzR := hR.size
        (try simp at hzR)
        have GR1 : Bk (W.heap.size) 0 [.int .i64 0, .int .i64 0] wz27 := Bk.later (by first | (simp [Bk, go_sem]; done) | (repeat (first | with_reducible (first | assumption | apply Bk.drew | apply Bk.alloc | apply Bk.later (hB := hRwz27)) | ((with_reducible apply Bk.mv hRwz27); (focus omega)) | ((with_reducible apply Bk.later); rotate_left; (with_reducible assumption)) | ((with_reducible apply Bk.put); rotate_left; (first | (dsimp only; omega)))))) hR
        have GS1 := GR1; simp only [Bk] at GS1
        have nl1 : W.heap.size < wz27.heap.size := by omega
        (try go_wp2_with (fail))
        refine hK.out _ _ (by refine ⟨?_, ?_, ?_, ?_⟩ <;> (repeat (first | with_reducible (first | assumption | apply Bk.drew | apply Bk.alloc | apply Bk.later (hB := hRwz27)) | ((with_reducible apply Bk.mv hRwz27); (focus omega)) | ((with_reducible apply Bk.later); rotate_left; (with_reducible assumption)) | ((with_reducible apply Bk.put); rotate_left; (first | (dsimp only; omega)))))) (fun hHeld => ?_)
        clear hK K hOld B0 B1 B2 B3
        try simp only [Act.put, List.setIfInBounds_toArray, List.set_cons_zero, List.set_cons_succ]
        refine wpAnyH_ready (rs := [4, 11]) (by kernel_rfl) (by simp) ?_
        refine AllReadyH.cons rfl (fun K hK => ?_) ?_
        · have hOld := hHeld; clear hHeld
          have B0 := hOld.1
          have B1 := hOld.2.1
          have B2 := hOld.2.2.1
          have B3 := hOld.2.2.2
          go_simp
          (go_at_call 9; (with_reducible refine (kP2 _).mono ?_); rintro e wz28 ⟨rfl, hR⟩)
          have hRwz28 := hR
          have hzR := hR.size
          (try simp at hzR)
          have GR1 : Bk (W.heap.size) 0 [.int .i64 0, .int .i64 0] wz28 := Bk.later (by first | (simp [Bk, go_sem]; done) | (repeat (first | with_reducible (first | assumption | apply Bk.drew | apply Bk.alloc | apply Bk.later (hB := hRwz28) | apply Bk.later (hB := hRwz27)) | ((with_reducible apply Bk.mv hRwz28); (focus omega)) | ((with_reducible apply Bk.mv hRwz27); (focus omega)) | ((with_reducible apply Bk.later); rotate_left; (with_reducible assumption)) | ((with_reducible apply Bk.put); rotate_left; (first | (dsimp only; omega)))))) hR
          have GS1 := GR1; simp only [Bk] at GS1
          have nl1 : W.heap.size < wz28.heap.size := by omega
          (try go_wp2_with (fail))
          refine hK.out _ _ (by refine ⟨?_, ?_, ?_, ?_⟩ <;> (repeat (first | with_reducible (first | assumption | apply Bk.drew | apply Bk.alloc | apply Bk.later (hB := hRwz28) | apply Bk.later (hB := hRwz27)) | ((with_reducible apply Bk.mv hRwz28); (focus omega)) | ((with_reducible apply Bk.mv hRwz27); (focus omega)) | ((with_reducible apply Bk.later); rotate_left; (with_reducible assumption)) | ((with_reducible apply Bk.put); rotate_left; (first | (dsimp only; omega)))))) (fun hHeld => ?_)
          clear hK K hOld B0 B1 B2 B3
          try simp only [Act.put, List.setIfInBounds_toArray, List.set_cons_zero, List.set_cons_succ]
          refine wpAnyH_ready (rs := [6, 11]) (by kernel_rfl) (by simp) ?_
          refine AllReadyH.cons rfl (fun K hK => ?_) ?_
          · have hOld := hHeld; clear hHeld
            have B0 := hOld.1
            have B1 := hOld.2.1
            have B2 := hOld.2.2.1
            have B3 := hOld.2.2.2
            go_simp
            (go_at_call 14; (with_reducible refine (Tw.call2 (by (repeat (first | with_reducible assumption | with_reducible apply Tw.alloc | with_reducible apply Tw.drew | ((with_reducible apply Tw.after); rotate_left; (with_reducible assumption)) | ((with_reducible apply Tw.setCell); rotate_left; (first | (dsimp only; omega) | omega | (simp; omega)); (first | (dsimp only; omega) | omega | (simp; omega)); (first | (dsimp only; omega) | omega | (simp; omega)))))) (k2 _ _ _)).mono ?_); rintro e wz29 ⟨rfl, hR, HT⟩)
            have hRwz29 := hR
            have hzR := hR.size
            (try simp at hzR)
            have GR1 : Bk (W.heap.size) 0 [.int .i64 0, .int .i64 0] wz29 := Bk.mv hR (by omega) (by first | (simp [Bk, go_sem]; done) | (repeat (first | with_reducible (first | assumption | apply Bk.drew | apply Bk.alloc | apply Bk.later (hB := hRwz29) | apply Bk.later (hB := hRwz28) | apply Bk.later (hB := hRwz27)) | ((with_reducible apply Bk.mv hRwz29); (focus omega)) | ((with_reducible apply Bk.mv hRwz28); (focus omega)) | ((with_reducible apply Bk.mv hRwz27); (focus omega)) | ((with_reducible apply Bk.later); rotate_left; (with_reducible assumption)) | ((with_reducible apply Bk.put); rotate_left; (first | (dsimp only; omega))))))
            have GS1 := GR1; simp only [Bk] at GS1
            have nl1 : W.heap.size < wz29.heap.size := by omega
            (try go_wp2_with (fail))
            refine hK.out _ _ (by refine ⟨?_, ?_, ?_, ?_⟩ <;> (repeat (first | with_reducible (first | assumption | apply Bk.drew | apply Bk.alloc | apply Bk.later (hB := hRwz29) | apply Bk.later (hB := hRwz28) | apply Bk.later (hB := hRwz27)) | ((with_reducible apply Bk.mv hRwz29); (focus omega)) | ((with_reducible apply Bk.mv hRwz28); (focus omega)) | ((with_reducible apply Bk.mv hRwz27); (focus omega)) | ((with_reducible apply Bk.later); rotate_left; (with_reducible assumption)) | ((with_reducible apply Bk.put); rotate_left; (first | (dsimp only; omega)))))) (fun hHeld => ?_)
            clear hK K hOld B0 B1 B2 B3
            try simp only [Act.put, List.setIfInBounds_toArray, List.set_cons_zero, List.set_cons_succ]
            refine wpAnyH_take (i := 7) (v := ?_) (by simp only [List.getElem?_toArray, List.getElem?_cons_succ, List.getElem?_cons_zero]; rfl) (by kernel_rfl) (by kernel_rfl) (by kernel_rfl) (fun _ _ _ h => h) (Or.inl ⟨by rfl, ?_⟩) (by assumption) ?_
            rotate_left
            · intro w hSw; (try dsimp only at hSw); simp only [Bk] at hSw; go_simp; try with_reducible rfl
            try simp only [Act.put, List.setIfInBounds_toArray, List.set_cons_zero, List.set_cons_succ]
            refine wpAnyH_take (i := 8) (v := ?_) (by simp only [List.getElem?_toArray, List.getElem?_cons_succ, List.getElem?_cons_zero]; rfl) (by kernel_rfl) (by kernel_rfl) (by kernel_rfl) (fun _ _ _ h => h) (Or.inl ⟨by rfl, ?_⟩) (by assumption) ?_
            rotate_left
            · intro w hSw; (try dsimp only at hSw); simp only [Bk] at hSw; go_simp; try with_reducible rfl
            try simp only [Act.put, List.setIfInBounds_toArray, List.set_cons_zero, List.set_cons_succ]
            refine wpAnyH_take (i := 9) (v := ?_) (by simp only [List.getElem?_toArray, List.getElem?_cons_succ, List.getElem?_cons_zero]; rfl) (by kernel_rfl) (by kernel_rfl) (by kernel_rfl) (fun _ _ _ h => h) (Or.inl ⟨by rfl, ?_⟩) (by assumption) ?_
            rotate_left
            · intro w hSw; (try dsimp only at hSw); simp only [Bk] at hSw; go_simp; try with_reducible rfl
            try simp only [Act.put, List.setIfInBounds_toArray, List.set_cons_zero, List.set_cons_succ]
            refine wpAnyH_take (i := 10) (v := ?_) (by simp only [List.getElem?_toArray, List.getElem?_cons_succ, List.getElem?_cons_zero]; rfl) (by kernel_rfl) (by kernel_rfl) (by kernel_rfl) (fun _ _ _ h => h) (Or.inl ⟨by rfl, ?_⟩) (by assumption) ?_
            rotate_left
            · intro w hSw; (try dsimp only at hSw); simp only [Bk] at hSw; go_simp; try with_reducible rfl
            try simp only [Act.put, List.setIfInBounds_toArray, List.set_cons_zero, List.set_cons_succ]
            refine wpAnyH_ready (rs := [11]) (by kernel_rfl) (by simp) ?_
            refine AllReadyH.cons rfl (fun K hK => ?_) ?_
            · have hOld := hHeld; clear hHeld
              have B0 := hOld.1
              have B1 := hOld.2.1
              have B2 := hOld.2.2.1
              have B3 := hOld.2.2.2
              go_simp
              refine hK.out _ _ (by refine ⟨?_, ?_, ?_, ?_⟩ <;> (repeat (first | with_reducible (first | assumption | apply Bk.drew | apply Bk.alloc | apply Bk.later (hB := hRwz29) | apply Bk.later (hB := hRwz28) | apply Bk.later (hB := hRwz27)) | ((with_reducible apply Bk.mv hRwz29); (focus omega)) | ((with_reducible apply Bk.mv hRwz28); (focus omega)) | ((with_reducible apply Bk.mv hRwz27); (focus omega)) | ((with_reducible apply Bk.later); rotate_left; (with_reducible assumption)) | ((with_reducible apply Bk.put); rotate_left; (first | (dsimp only; omega)))))) (fun hHeld => ?_)
              clear hK K hOld B0 B1 B2 B3
              try simp only [Act.put, List.setIfInBounds_toArray, List.set_cons_zero, List.set_cons_succ]
              refine wpAnyH_ready (rs := [13]) (by kernel_rfl) (by simp) ?_
              refine AllReadyH.cons rfl (fun K hK => ?_) ?_
              · have hOld := hHeld; clear hHeld
                have B0 := hOld.1
                have B1 := hOld.2.1
                have B2 := hOld.2.2.1
                have B3 := hOld.2.2.2
                have G0 : Bk (wz29.heap.size) 0 [.int .i64 0, .int .i64 0] ((wz29).alloc (Obj.cells #[.int .i64 0, .int .i64 0] 24)) := by first | (simp [Bk, go_sem]; done) | (repeat (first | with_reducible (first | assumption | apply Bk.drew | apply Bk.alloc | apply Bk.later (hB := hRwz29) | apply Bk.later (hB := hRwz28) | apply Bk.later (hB := hRwz27)) | ((with_reducible apply Bk.mv hRwz29); (focus omega)) | ((with_reducible apply Bk.mv hRwz28); (focus omega)) | ((with_reducible apply Bk.mv hRwz27); (focus omega)) | ((with_reducible apply Bk.later); rotate_left; (with_reducible assumption)) | ((with_reducible apply Bk.put); rotate_left; (first | (dsimp only; omega)))))
                simp only [Bk] at G0
                have G1 : Bk (W.heap.size) 0 [.int .i64 0, .int .i64 0] ((wz29).alloc (Obj.cells #[.int .i64 0, .int .i64 0] 24)) := by first | (simp [Bk, go_sem]; done) | (repeat (first | with_reducible (first | assumption | apply Bk.drew | apply Bk.alloc | apply Bk.later (hB := hRwz29) | apply Bk.later (hB := hRwz28) | apply Bk.later (hB := hRwz27)) | ((with_reducible apply Bk.mv hRwz29); (focus omega)) | ((with_reducible apply Bk.mv hRwz28); (focus omega)) | ((with_reducible apply Bk.mv hRwz27); (focus omega)) | ((with_reducible apply Bk.later); rotate_left; (with_reducible assumption)) | ((with_reducible apply Bk.put); rotate_left; (first | (dsimp only; omega)))))
                simp only [Bk] at G1
                have na01 : wz29.heap.size ≠ W.heap.size := by omega
                have nb01 := na01.symm
                go_simp
                refine hK.out _ _ (by refine ⟨?_, ?_, ?_, ?_⟩ <;> (repeat (first | with_reducible (first | assumption | apply Bk.drew | apply Bk.alloc | apply Bk.later (hB := hRwz29) | apply Bk.later (hB := hRwz28) | apply Bk.later (hB := hRwz27)) | ((with_reducible apply Bk.mv hRwz29); (focus omega)) | ((with_reducible apply Bk.mv hRwz28); (focus omega)) | ((with_reducible apply Bk.mv hRwz27); (focus omega)) | ((with_reducible apply Bk.later); rotate_left; (with_reducible assumption)) | ((with_reducible apply Bk.put); rotate_left; (first | (dsimp only; omega)))))) (fun hHeld => ?_)
                clear hK K hOld B0 B1 B2 B3
                try simp only [Act.put, List.setIfInBounds_toArray, List.set_cons_zero, List.set_cons_succ]
                refine wpAnyH_ready (rs := [14]) (by kernel_rfl) (by simp) ?_
                refine AllReadyH.cons rfl (fun K hK => ?_) ?_
                · have hOld := hHeld; clear hHeld
                  have B0 := hOld.1
                  have B1 := hOld.2.1
                  have B2 := hOld.2.2.1
                  have B3 := hOld.2.2.2
                  go_simp
                  refine hK.out _ _ (by refine ⟨?_, ?_, ?_, ?_⟩ <;> (repeat (first | with_reducible (first | assumption | apply Bk.drew | apply Bk.alloc | apply Bk.later (hB := hRwz29) | apply Bk.later (hB := hRwz28) | apply Bk.later (hB := hRwz27)) | ((with_reducible apply Bk.mv hRwz29); (focus omega)) | ((with_reducible apply Bk.mv hRwz28); (focus omega)) | ((with_reducible apply Bk.mv hRwz27); (focus omega)) | ((with_reducible apply Bk.later); rotate_left; (with_reducible assumption)) | ((with_reducible apply Bk.put); rotate_left; (first | (dsimp only; omega)))))) (fun hHeld => ?_)
                  clear hK K hOld B0 B1 B2 B3
                  try simp only [Act.put, List.setIfInBounds_toArray, List.set_cons_zero, List.set_cons_succ]
                  refine wpAnyH_take (i := 15) (v := ?_) (by simp only [List.getElem?_toArray, List.getElem?_cons_succ, List.getElem?_cons_zero]; rfl) (by kernel_rfl) (by kernel_rfl) (by kernel_rfl) (fun _ _ _ h => h) (Or.inl ⟨by rfl, ?_⟩) (by assumption) ?_
                  rotate_left
                  · intro w hSw; (try dsimp only at hSw); simp only [Bk] at hSw; go_simp; try with_reducible rfl
                  try simp only [Act.put, List.setIfInBounds_toArray, List.set_cons_zero, List.set_cons_succ]
                  refine wpAnyH_done (by kernel_rfl) ?_ _
                  (try refine NoPanic.normal ?_)
                  go_wp2
                  go_meet
                  exact ⟨_, _, rfl, rfl, rfl, by (repeat (first | with_reducible assumption | with_reducible apply Tw.alloc | with_reducible apply Tw.drew | ((with_reducible apply Tw.after); rotate_left; (with_reducible assumption)) | ((with_reducible apply Tw.setCell); rotate_left; (first | (dsimp only; omega) | omega | (simp; omega)); (first | (dsimp only; omega) | omega | (simp; omega)); (first | (dsimp only; omega) | omega | (simp; omega))))), by simp (maxDischargeDepth := 8) [Bk, go_sem, *], hHeld.2.2.1, hHeld.2.2.2⟩
                exact AllReadyH.nil
              exact AllReadyH.nil
            exact AllReadyH.nil
          refine AllReadyH.cons rfl (fun K hK => ?_) ?_
          · have hOld := hHeld; clear hHeld
            have B0 := hOld.1
            have B1 := hOld.2.1
            have B2 := hOld.2.2.1
            have B3 := hOld.2.2.2
            go_simp
            refine hK.out _ _ (by refine ⟨?_, ?_, ?_, ?_⟩ <;> (repeat (first | with_reducible (first | assumption | apply Bk.drew | apply Bk.alloc | apply Bk.later (hB := hRwz28) | apply Bk.later (hB := hRwz27)) | ((with_reducible apply Bk.mv hRwz28); (focus omega)) | ((with_reducible apply Bk.mv hRwz27); (focus omega)) | ((with_reducible apply Bk.later); rotate_left; (with_reducible assumption)) | ((with_reducible apply Bk.put); rotate_left; (first | (dsimp only; omega)))))) (fun hHeld => ?_)
            clear hK K hOld B0 B1 B2 B3
            try simp only [Act.put, List.setIfInBounds_toArray, List.set_cons_zero, List.set_cons_succ]
            refine wpAnyH_ready (rs := [6]) (by kernel_rfl) (by simp) ?_
            refine AllReadyH.cons rfl (fun K hK => ?_) ?_
            · have hOld := hHeld; clear hHeld
              have B0 := hOld.1
              have B1 := hOld.2.1
              have B2 := hOld.2.2.1
              have B3 := hOld.2.2.2
              go_simp
              (go_at_call 14; (with_reducible refine (Tw.call2 (by (repeat (first | with_reducible assumption | with_reducible apply Tw.alloc | with_reducible apply Tw.drew | ((with_reducible apply Tw.after); rotate_left; (with_reducible assumption)) | ((with_reducible apply Tw.setCell); rotate_left; (first | (dsimp only; omega) | omega | (simp; omega)); (first | (dsimp only; omega) | omega | (simp; omega)); (first | (dsimp only; omega) | omega | (simp; omega)))))) (k2 _ _ _)).mono ?_); rintro e wz30 ⟨rfl, hR, HT⟩)
              have hRwz30 := hR
              have hzR := hR.size
              (try simp at hzR)
              have GR0 : Bk (wz28.heap.size) 0 [.int .i64 0, .int .i64 0] wz30 := Bk.mv hR (by omega) (by first | (simp [Bk, go_sem]; done) | (repeat (first | with_reducible (first | assumption | apply Bk.drew | apply Bk.alloc | apply Bk.later (hB := hRwz30) | apply Bk.later (hB := hRwz28) | apply Bk.later (hB := hRwz27)) | ((with_reducible apply Bk.mv hRwz30); (focus omega)) | ((with_reducible apply Bk.mv hRwz28); (focus omega)) | ((with_reducible apply Bk.mv hRwz27); (focus omega)) | ((with_reducible apply Bk.later); rotate_left; (with_reducible assumption)) | ((with_reducible apply Bk.put); rotate_left; (first | (dsimp only; omega))))))
              have GS0 := GR0; simp only [Bk] at GS0
              have nl0 : wz28.heap.size < wz30.heap.size := by omega
              have GR1 : Bk (W.heap.size) 0 [.int .i64 0, .int .i64 0] wz30 := Bk.mv hR (by omega) (by first | (simp [Bk, go_sem]; done) | (repeat (first | with_reducible (first | assumption | apply Bk.drew | apply Bk.alloc | apply Bk.later (hB := hRwz30) | apply Bk.later (hB := hRwz28) | apply Bk.later (hB := hRwz27)) | ((with_reducible apply Bk.mv hRwz30); (focus omega)) | ((with_reducible apply Bk.mv hRwz28); (focus omega)) | ((with_reducible apply Bk.mv hRwz27); (focus omega)) | ((with_reducible apply Bk.later); rotate_left; (with_reducible assumption)) | ((with_reducible apply Bk.put); rotate_left; (first | (dsimp only; omega))))))
              have GS1 := GR1; simp only [Bk] at GS1
              have nl1 : W.heap.size < wz30.heap.size := by omega
              (try go_wp2_with (fail))
              refine hK.out _ _ (by refine ⟨?_, ?_, ?_, ?_⟩ <;> (repeat (first | with_reducible (first | assumption | apply Bk.drew | apply Bk.alloc | apply Bk.later (hB := hRwz30) | apply Bk.later (hB := hRwz28) | apply Bk.later (hB := hRwz27)) | ((with_reducible apply Bk.mv hRwz30); (focus omega)) | ((with_reducible apply Bk.mv hRwz28); (focus omega)) | ((with_reducible apply Bk.mv hRwz27); (focus omega)) | ((with_reducible apply Bk.later); rotate_left; (with_reducible assumption)) | ((with_reducible apply Bk.put); rotate_left; (first | (dsimp only; omega)))))) (fun hHeld => ?_)
              clear hK K hOld B0 B1 B2 B3
              try simp only [Act.put, List.setIfInBounds_toArray, List.set_cons_zero, List.set_cons_succ]
              refine wpAnyH_take (i := 7) (v := ?_) (by simp only [List.getElem?_toArray, List.getElem?_cons_succ, List.getElem?_cons_zero]; rfl) (by kernel_rfl) (by kernel_rfl) (by kernel_rfl) (fun _ _ _ h => h) (Or.inl ⟨by rfl, ?_⟩) (by assumption) ?_
              rotate_left
              · intro w hSw; (try dsimp only at hSw); simp only [Bk] at hSw; go_simp; try with_reducible rfl
              try simp only [Act.put, List.setIfInBounds_toArray, List.set_cons_zero, List.set_cons_succ]
              refine wpAnyH_take (i := 8) (v := ?_) (by simp only [List.getElem?_toArray, List.getElem?_cons_succ, List.getElem?_cons_zero]; rfl) (by kernel_rfl) (by kernel_rfl) (by kernel_rfl) (fun _ _ _ h => h) (Or.inl ⟨by rfl, ?_⟩) (by assumption) ?_
              rotate_left
              · intro w hSw; (try dsimp only at hSw); simp only [Bk] at hSw; go_simp; try with_reducible rfl
              try simp only [Act.put, List.setIfInBounds_toArray, List.set_cons_zero, List.set_cons_succ]
              refine wpAnyH_take (i := 9) (v := ?_) (by simp only [List.getElem?_toArray, List.getElem?_cons_succ, List.getElem?_cons_zero]; rfl) (by kernel_rfl) (by kernel_rfl) (by kernel_rfl) (fun _ _ _ h => h) (Or.inl ⟨by rfl, ?_⟩) (by assumption) ?_
              rotate_left
              · intro w hSw; (try dsimp only at hSw); simp only [Bk] at hSw; go_simp; try with_reducible rfl
              try simp only [Act.put, List.setIfInBounds_toArray, List.set_cons_zero, List.set_cons_succ]
              refine wpAnyH_take (i := 10) (v := ?_) (by simp only [List.getElem?_toArray, List.getElem?_cons_succ, List.getElem?_cons_zero]; rfl) (by kernel_rfl) (by kernel_rfl) (by kernel_rfl) (fun _ _ _ h => h) (Or.inl ⟨by rfl, ?_⟩) (by assumption) ?_
              rotate_left
              · intro w hSw; (try dsimp only at hSw); simp only [Bk] at hSw; go_simp; try with_reducible rfl
              try simp only [Act.put, List.setIfInBounds_toArray, List.set_cons_zero, List.set_cons_succ]
              refine wpAnyH_ready (rs := [13]) (by kernel_rfl) (by simp) ?_
              refine AllReadyH.cons rfl (fun K hK => ?_) ?_
              · have hOld := hHeld; clear hHeld
                have B0 := hOld.1
                have B1 := hOld.2.1
                have B2 := hOld.2.2.1
                have B3 := hOld.2.2.2
                have G0 : Bk (wz28.heap.size) 0 [.int .i64 0, .int .i64 0] (wz30) := by first | (simp [Bk, go_sem]; done) | (repeat (first | with_reducible (first | assumption | apply Bk.drew | apply Bk.alloc | apply Bk.later (hB := hRwz30) | apply Bk.later (hB := hRwz28) | apply Bk.later (hB := hRwz27)) | ((with_reducible apply Bk.mv hRwz30); (focus omega)) | ((with_reducible apply Bk.mv hRwz28); (focus omega)) | ((with_reducible apply Bk.mv hRwz27); (focus omega)) | ((with_reducible apply Bk.later); rotate_left; (with_reducible assumption)) | ((with_reducible apply Bk.put); rotate_left; (first | (dsimp only; omega)))))
                simp only [Bk] at G0
                have G1 : Bk (W.heap.size) 0 [.int .i64 0, .int .i64 0] (wz30) := by first | (simp [Bk, go_sem]; done) | (repeat (first | with_reducible (first | assumption | apply Bk.drew | apply Bk.alloc | apply Bk.later (hB := hRwz30) | apply Bk.later (hB := hRwz28) | apply Bk.later (hB := hRwz27)) | ((with_reducible apply Bk.mv hRwz30); (focus omega)) | ((with_reducible apply Bk.mv hRwz28); (focus omega)) | ((with_reducible apply Bk.mv hRwz27); (focus omega)) | ((with_reducible apply Bk.later); rotate_left; (with_reducible assumption)) | ((with_reducible apply Bk.put); rotate_left; (first | (dsimp only; omega)))))
                simp only [Bk] at G1
                have na01 : wz28.heap.size ≠ W.heap.size := by omega
                have nb01 := na01.symm
                go_simp
                refine hK.out _ _ (by refine ⟨?_, ?_, ?_, ?_⟩ <;> (repeat (first | with_reducible (first | assumption | apply Bk.drew | apply Bk.alloc | apply Bk.later (hB := hRwz30) | apply Bk.later (hB := hRwz28) | apply Bk.later (hB := hRwz27)) | ((with_reducible apply Bk.mv hRwz30); (focus omega)) | ((with_reducible apply Bk.mv hRwz28); (focus omega)) | ((with_reducible apply Bk.mv hRwz27); (focus omega)) | ((with_reducible apply Bk.later); rotate_left; (with_reducible assumption)) | ((with_reducible apply Bk.put); rotate_left; (first | (dsimp only; omega)))))) (fun hHeld => ?_)
                clear hK K hOld B0 B1 B2 B3
                try simp only [Act.put, List.setIfInBounds_toArray, List.set_cons_zero, List.set_cons_succ]
                refine wpAnyH_ready (rs := [14]) (by kernel_rfl) (by simp) ?_
                refine AllReadyH.cons rfl (fun K hK => ?_) ?_
                · have hOld := hHeld; clear hHeld
                  have B0 := hOld.1
                  have B1 := hOld.2.1
                  have B2 := hOld.2.2.1
                  have B3 := hOld.2.2.2
                  go_simp
                  refine hK.out _ _ (by refine ⟨?_, ?_, ?_, ?_⟩ <;> (repeat (first | with_reducible (first | assumption | apply Bk.drew | apply Bk.alloc | apply Bk.later (hB := hRwz30) | apply Bk.later (hB := hRwz28) | apply Bk.later (hB := hRwz27)) | ((with_reducible apply Bk.mv hRwz30); (focus omega)) | ((with_reducible apply Bk.mv hRwz28); (focus omega)) | ((with_reducible apply Bk.mv hRwz27); (focus omega)) | ((with_reducible apply Bk.later); rotate_left; (with_reducible assumption)) | ((with_reducible apply Bk.put); rotate_left; (first | (dsimp only; omega)))))) (fun hHeld => ?_)
                  clear hK K hOld B0 B1 B2 B3
                  try simp only [Act.put, List.setIfInBounds_toArray, List.set_cons_zero, List.set_cons_succ]
                  refine wpAnyH_take (i := 15) (v := ?_) (by simp only [List.getElem?_toArray, List.getElem?_cons_succ, List.getElem?_cons_zero]; rfl) (by kernel_rfl) (by kernel_rfl) (by kernel_rfl) (fun _ _ _ h => h) (Or.inl ⟨by rfl, ?_⟩) (by assumption) ?_
                  rotate_left
                  · intro w hSw; (try dsimp only at hSw); simp only [Bk] at hSw; go_simp; try with_reducible rfl
                  try simp only [Act.put, List.setIfInBounds_toArray, List.set_cons_zero, List.set_cons_succ]
                  refine wpAnyH_done (by kernel_rfl) ?_ _
                  (try refine NoPanic.normal ?_)
                  go_wp2
                  go_meet
                  exact ⟨_, _, rfl, rfl, rfl, by (repeat (first | with_reducible assumption | with_reducible apply Tw.alloc | with_reducible apply Tw.drew | ((with_reducible apply Tw.after); rotate_left; (with_reducible assumption)) | ((with_reducible apply Tw.setCell); rotate_left; (first | (dsimp only; omega) | omega | (simp; omega)); (first | (dsimp only; omega) | omega | (simp; omega)); (first | (dsimp only; omega) | omega | (simp; omega))))), by simp (maxDischargeDepth := 8) [Bk, go_sem, *], hHeld.2.2.1, hHeld.2.2.2⟩
                exact AllReadyH.nil
              exact AllReadyH.nil
            exact AllReadyH.nil
          exact AllReadyH.nil
        refine AllReadyH.cons rfl (fun K hK => ?_) ?_
        · have hOld := hHeld; clear hHeld
          have B0 := hOld.1
          have B1 := hOld.2.1
          have B2 := hOld.2.2.1
          have B3 := hOld.2.2.2
          go_simp
          refine hK.out _ _ (by refine ⟨?_, ?_, ?_, ?_⟩ <;> (repeat (first | with_reducible (first | assumption | apply Bk.drew | apply Bk.alloc | apply Bk.later (hB := hRwz27)) | ((with_reducible apply Bk.mv hRwz27); (focus omega)) | ((with_reducible apply Bk.later); rotate_left; (with_reducible assumption)) | ((with_reducible apply Bk.put); rotate_left; (first | (dsimp only; omega)))))) (fun hHeld => ?_)
          clear hK K hOld B0 B1 B2 B3
          try simp only [Act.put, List.setIfInBounds_toArray, List.set_cons_zero, List.set_cons_succ]
          refine wpAnyH_ready (rs := [4]) (by kernel_rfl) (by simp) ?_
          refine AllReadyH.cons rfl (fun K hK => ?_) ?_
          · have hOld := hHeld; clear hHeld
            have B0 := hOld.1
            have B1 := hOld.2.1
            have B2 := hOld.2.2.1
            have B3 := hOld.2.2.2
            go_simp
            (go_at_call 9; (with_reducible refine (kP2 _).mono ?_); rintro e wz31 ⟨rfl, hR⟩)
            have hRwz31 := hR
            have hzR := hR.size
            (try simp at hzR)
            have GR0 : Bk (wz27.heap.size) 0 [.int .i64 0, .int .i64 0] wz31 := Bk.later (by first | (simp [Bk, go_sem]; done) | (repeat (first | with_reducible (first | assumption | apply Bk.drew | apply Bk.alloc | apply Bk.later (hB := hRwz31) | apply Bk.later (hB := hRwz27)) | ((with_reducible apply Bk.mv hRwz31); (focus omega)) | ((with_reducible apply Bk.mv hRwz27); (focus omega)) | ((with_reducible apply Bk.later); rotate_left; (with_reducible assumption)) | ((with_reducible apply Bk.put); rotate_left; (first | (dsimp only; omega)))))) hR
            have GS0 := GR0; simp only [Bk] at GS0
            have nl0 : wz27.heap.size < wz31.heap.size := by omega
            have GR1 : Bk (W.heap.size) 0 [.int .i64 0, .int .i64 0] wz31 := Bk.later (by first | (simp [Bk, go_sem]; done) | (repeat (first | with_reducible (first | assumption | apply Bk.drew | apply Bk.alloc | apply Bk.later (hB := hRwz31) | apply Bk.later (hB := hRwz27)) | ((with_reducible apply Bk.mv hRwz31); (focus omega)) | ((with_reducible apply Bk.mv hRwz27); (focus omega)) | ((with_reducible apply Bk.later); rotate_left; (with_reducible assumption)) | ((with_reducible apply Bk.put); rotate_left; (first | (dsimp only; omega)))))) hR
            have GS1 := GR1; simp only [Bk] at GS1
            have nl1 : W.heap.size < wz31.heap.size := by omega
            (try go_wp2_with (fail))
            refine hK.out _ _ (by refine ⟨?_, ?_, ?_, ?_⟩ <;> (repeat (first | with_reducible (first | assumption | apply Bk.drew | apply Bk.alloc | apply Bk.later (hB := hRwz31) | apply Bk.later (hB := hRwz27)) | ((with_reducible apply Bk.mv hRwz31); (focus omega)) | ((with_reducible apply Bk.mv hRwz27); (focus omega)) | ((with_reducible apply Bk.later); rotate_left; (with_reducible assumption)) | ((with_reducible apply Bk.put); rotate_left; (first | (dsimp only; omega)))))) (fun hHeld => ?_)
            clear hK K hOld B0 B1 B2 B3
            try simp only [Act.put, List.setIfInBounds_toArray, List.set_cons_zero, List.set_cons_succ]
            refine wpAnyH_ready (rs := [6]) (by kernel_rfl) (by simp) ?_
            refine AllReadyH.cons rfl (fun K hK => ?_) ?_
            · have hOld := hHeld; clear hHeld
              have B0 := hOld.1
              have B1 := hOld.2.1
              have B2 := hOld.2.2.1
              have B3 := hOld.2.2.2
              go_simp
              (go_at_call 14; (with_reducible refine (Tw.call2 (by (repeat (first | with_reducible assumption | with_reducible apply Tw.alloc | with_reducible apply Tw.drew | ((with_reducible apply Tw.after); rotate_left; (with_reducible assumption)) | ((with_reducible apply Tw.setCell); rotate_left; (first | (dsimp only; omega) | omega | (simp; omega)); (first | (dsimp only; omega) | omega | (simp; omega)); (first | (dsimp only; omega) | omega | (simp; omega)))))) (k2 _ _ _)).mono ?_); rintro e wz32 ⟨rfl, hR, HT⟩)
              have hRwz32 := hR
              have hzR := hR.size
              (try simp at hzR)
              have GR0 : Bk (wz27.heap.size) 0 [.int .i64 0, .int .i64 0] wz32 := Bk.mv hR (by omega) (by first | (simp [Bk, go_sem]; done) | (repeat (first | with_reducible (first | assumption | apply Bk.drew | apply Bk.alloc | apply Bk.later (hB := hRwz32) | apply Bk.later (hB := hRwz31) | apply Bk.later (hB := hRwz27)) | ((with_reducible apply Bk.mv hRwz32); (focus omega)) | ((with_reducible apply Bk.mv hRwz31); (focus omega)) | ((with_reducible apply Bk.mv hRwz27); (focus omega)) | ((with_reducible apply Bk.later); rotate_left; (with_reducible assumption)) | ((with_reducible apply Bk.put); rotate_left; (first | (dsimp only; omega))))))
              have GS0 := GR0; simp only [Bk] at GS0
              have nl0 : wz27.heap.size < wz32.heap.size := by omega
              have GR1 : Bk (W.heap.size) 0 [.int .i64 0, .int .i64 0] wz32 := Bk.mv hR (by omega) (by first | (simp [Bk, go_sem]; done) | (repeat (first | with_reducible (first | assumption | apply Bk.drew | apply Bk.alloc | apply Bk.later (hB := hRwz32) | apply Bk.later (hB := hRwz31) | apply Bk.later (hB := hRwz27)) | ((with_reducible apply Bk.mv hRwz32); (focus omega)) | ((with_reducible apply Bk.mv hRwz31); (focus omega)) | ((with_reducible apply Bk.mv hRwz27); (focus omega)) | ((with_reducible apply Bk.later); rotate_left; (with_reducible assumption)) | ((with_reducible apply Bk.put); rotate_left; (first | (dsimp only; omega))))))
              have GS1 := GR1; simp only [Bk] at GS1
              have nl1 : W.heap.size < wz32.heap.size := by omega
              (try go_wp2_with (fail))
              refine hK.out _ _ (by refine ⟨?_, ?_, ?_, ?_⟩ <;> (repeat (first | with_reducible (first | assumption | apply Bk.drew | apply Bk.alloc | apply Bk.later (hB := hRwz32) | apply Bk.later (hB := hRwz31) | apply Bk.later (hB := hRwz27)) | ((with_reducible apply Bk.mv hRwz32); (focus omega)) | ((with_reducible apply Bk.mv hRwz31); (focus omega)) | ((with_reducible apply Bk.mv hRwz27); (focus omega)) | ((with_reducible apply Bk.later); rotate_left; (with_reducible assumption)) | ((with_reducible apply Bk.put); rotate_left; (first | (dsimp only; omega)))))) (fun hHeld => ?_)
              clear hK K hOld B0 B1 B2 B3
              try simp only [Act.put, List.setIfInBounds_toArray, List.set_cons_zero, List.set_cons_succ]
              refine wpAnyH_take (i := 7) (v := ?_) (by simp only [List.getElem?_toArray, List.getElem?_cons_succ, List.getElem?_cons_zero]; rfl) (by kernel_rfl) (by kernel_rfl) (by kernel_rfl) (fun _ _ _ h => h) (Or.inl ⟨by rfl, ?_⟩) (by assumption) ?_
              rotate_left
              · intro w hSw; (try dsimp only at hSw); simp only [Bk] at hSw; go_simp; try with_reducible rfl
              try simp only [Act.put, List.setIfInBounds_toArray, List.set_cons_zero, List.set_cons_succ]
              refine wpAnyH_take (i := 8) (v := ?_) (by simp only [List.getElem?_toArray, List.getElem?_cons_succ, List.getElem?_cons_zero]; rfl) (by kernel_rfl) (by kernel_rfl) (by kernel_rfl) (fun _ _ _ h => h) (Or.inl ⟨by rfl, ?_⟩) (by assumption) ?_
              rotate_left
              · intro w hSw; (try dsimp only at hSw); simp only [Bk] at hSw; go_simp; try with_reducible rfl
              try simp only [Act.put, List.setIfInBounds_toArray, List.set_cons_zero, List.set_cons_succ]
              refine wpAnyH_take (i := 9) (v := ?_) (by simp only [List.getElem?_toArray, List.getElem?_cons_succ, List.getElem?_cons_zero]; rfl) (by kernel_rfl) (by kernel_rfl) (by kernel_rfl) (fun _ _ _ h => h) (Or.inl ⟨by rfl, ?_⟩) (by assumption) ?_
              rotate_left
              · intro w hSw; (try dsimp only at hSw); simp only [Bk] at hSw; go_simp; try with_reducible rfl
              try simp only [Act.put, List.setIfInBounds_toArray, List.set_cons_zero, List.set_cons_succ]
              refine wpAnyH_take (i := 10) (v := ?_) (by simp only [List.getElem?_toArray, List.getElem?_cons_succ, List.getElem?_cons_zero]; rfl) (by kernel_rfl) (by kernel_rfl) (by kernel_rfl) (fun _ _ _ h => h) (Or.inl ⟨by rfl, ?_⟩) (by assumption) ?_
              rotate_left
              · intro w hSw; (try dsimp only at hSw); simp only [Bk] at hSw; go_simp; try with_reducible rfl
              try simp only [Act.put, List.setIfInBounds_toArray, List.set_cons_zero, List.set_cons_succ]
              refine wpAnyH_ready (rs := [13]) (by kernel_rfl) (by simp) ?_
              refine AllReadyH.cons rfl (fun K hK => ?_) ?_
              · have hOld := hHeld; clear hHeld
                have B0 := hOld.1
                have B1 := hOld.2.1
                have B2 := hOld.2.2.1
                have B3 := hOld.2.2.2
                have G0 : Bk (wz27.heap.size) 0 [.int .i64 0, .int .i64 0] (wz32) := by first | (simp [Bk, go_sem]; done) | (repeat (first | with_reducible (first | assumption | apply Bk.drew | apply Bk.alloc | apply Bk.later (hB := hRwz32) | apply Bk.later (hB := hRwz31) | apply Bk.later (hB := hRwz27)) | ((with_reducible apply Bk.mv hRwz32); (focus omega)) | ((with_reducible apply Bk.mv hRwz31); (focus omega)) | ((with_reducible apply Bk.mv hRwz27); (focus omega)) | ((with_reducible apply Bk.later); rotate_left; (with_reducible assumption)) | ((with_reducible apply Bk.put); rotate_left; (first | (dsimp only; omega)))))
                simp only [Bk] at G0
                have G1 : Bk (W.heap.size) 0 [.int .i64 0, .int .i64 0] (wz32) := by first | (simp [Bk, go_sem]; done) | (repeat (first | with_reducible (first | assumption | apply Bk.drew | apply Bk.alloc | apply Bk.later (hB := hRwz32) | apply Bk.later (hB := hRwz31) | apply Bk.later (hB := hRwz27)) | ((with_reducible apply Bk.mv hRwz32); (focus omega)) | ((with_reducible apply Bk.mv hRwz31); (focus omega)) | ((with_reducible apply Bk.mv hRwz27); (focus omega)) | ((with_reducible apply Bk.later); rotate_left; (with_reducible assumption)) | ((with_reducible apply Bk.put); rotate_left; (first | (dsimp only; omega)))))
                simp only [Bk] at G1
                have na01 : wz27.heap.size ≠ W.heap.size := by omega
                have nb01 := na01.symm
                go_simp
                refine hK.out _ _ (by refine ⟨?_, ?_, ?_, ?_⟩ <;> (repeat (first | with_reducible (first | assumption | apply Bk.drew | apply Bk.alloc | apply Bk.later (hB := hRwz32) | apply Bk.later (hB := hRwz31) | apply Bk.later (hB := hRwz27)) | ((with_reducible apply Bk.mv hRwz32); (focus omega)) | ((with_reducible apply Bk.mv hRwz31); (focus omega)) | ((with_reducible apply Bk.mv hRwz27); (focus omega)) | ((with_reducible apply Bk.later); rotate_left; (with_reducible assumption)) | ((with_reducible apply Bk.put); rotate_left; (first | (dsimp only; omega)))))) (fun hHeld => ?_)
                clear hK K hOld B0 B1 B2 B3
                try simp only [Act.put, List.setIfInBounds_toArray, List.set_cons_zero, List.set_cons_succ]
                refine wpAnyH_ready (rs := [14]) (by kernel_rfl) (by simp) ?_
                refine AllReadyH.cons rfl (fun K hK => ?_) ?_
                · have hOld := hHeld; clear hHeld
                  have B0 := hOld.1
                  have B1 := hOld.2.1
                  have B2 := hOld.2.2.1
                  have B3 := hOld.2.2.2
                  go_simp
                  refine hK.out _ _ (by refine ⟨?_, ?_, ?_, ?_⟩ <;> (repeat (first | with_reducible (first | assumption | apply Bk.drew | apply Bk.alloc | apply Bk.later (hB := hRwz32) | apply Bk.later (hB := hRwz31) | apply Bk.later (hB := hRwz27)) | ((with_reducible apply Bk.mv hRwz32); (focus omega)) | ((with_reducible apply Bk.mv hRwz31); (focus omega)) | ((with_reducible apply Bk.mv hRwz27); (focus omega)) | ((with_reducible apply Bk.later); rotate_left; (with_reducible assumption)) | ((with_reducible apply Bk.put); rotate_left; (first | (dsimp only; omega)))))) (fun hHeld => ?_)
                  clear hK K hOld B0 B1 B2 B3
                  try simp only [Act.put, List.setIfInBounds_toArray, List.set_cons_zero, List.set_cons_succ]
                  refine wpAnyH_take (i := 15) (v := ?_) (by simp only [List.getElem?_toArray, List.getElem?_cons_succ, List.getElem?_cons_zero]; rfl) (by kernel_rfl) (by kernel_rfl) (by kernel_rfl) (fun _ _ _ h => h) (Or.inl ⟨by rfl, ?_⟩) (by assumption) ?_
                  rotate_left
                  · intro w hSw; (try dsimp only at hSw); simp only [Bk] at hSw; go_simp; try with_reducible rfl
                  try simp only [Act.put, List.setIfInBounds_toArray, List.set_cons_zero, List.set_cons_succ]
                  refine wpAnyH_done (by kernel_rfl) ?_ _
                  (try refine NoPanic.normal ?_)
                  go_wp2
                  go_meet
                  exact ⟨_, _, rfl, rfl, rfl, by (repeat (first | with_reducible assumption | with_reducible apply Tw.alloc | with_reducible apply Tw.drew | ((with_reducible apply Tw.after); rotate_left; (with_reducible assumption)) | ((with_reducible apply Tw.setCell); rotate_left; (first | (dsimp only; omega) | omega | (simp; omega)); (first | (dsimp only; omega) | omega | (simp; omega)); (first | (dsimp only; omega) | omega | (simp; omega))))), by simp (maxDischargeDepth := 8) [Bk, go_sem, *], hHeld.2.2.1, hHeld.2.2.2⟩
                exact AllReadyH.nil
              exact AllReadyH.nil
            exact AllReadyH.nil
          exact AllReadyH.nil
        exact AllReadyH.nil
      refine AllReadyH.cons rfl (fun K hK => ?_) ?_
      · have hOld := hHeld; clear hHeld
        have B0 := hOld.1
        have B1 := hOld.2.1
        have B2 := hOld.2.2.1
        have B3 := hOld.2.2.2
        go_simp
        refine hK.out _ _ (by refine ⟨?_, ?_, ?_, ?_⟩ <;> (repeat (first | with_reducible (first | assumption | apply Bk.drew | apply Bk.alloc) | ((with_reducible apply Bk.later); rotate_left; (with_reducible assumption)) | ((with_reducible apply Bk.put); rotate_left; (first | (dsimp only; omega)))))) (fun hHeld => ?_)
        clear hK K hOld B0 B1 B2 B3
        try simp only [Act.put, List.setIfInBounds_toArray, List.set_cons_zero, List.set_cons_succ]
        refine wpAnyH_ready (rs := [2]) (by kernel_rfl) (by simp) ?_
        refine AllReadyH.cons rfl (fun K hK => ?_) ?_
        · have hOld := hHeld; clear hHeld
          have B0 := hOld.1
          have B1 := hOld.2.1
          have B2 := hOld.2.2.1
          have B3 := hOld.2.2.2
          go_simp
          (go_at_call 9; (with_reducible refine (kP1 _).mono ?_); rintro e wz33 ⟨rfl, hR⟩)
          have hRwz33 := hR
          have hzR := hR.size
          (try simp at hzR)
          have GR0 : Bk (W.heap.size + 1) 0 [.int .i64 0, .int .i64 0] wz33 := Bk.later (by first | (simp [Bk, go_sem]; done) | (repeat (first | with_reducible (first | assumption | apply Bk.drew | apply Bk.alloc | apply Bk.later (hB := hRwz33)) | ((with_reducible apply Bk.mv hRwz33); (focus omega)) | ((with_reducible apply Bk.later); rotate_left; (with_reducible assumption)) | ((with_reducible apply Bk.put); rotate_left; (first | (dsimp only; omega)))))) hR
          have GS0 := GR0; simp only [Bk] at GS0
          have nl0 : W.heap.size + 1 < wz33.heap.size := by omega
          have GR1 : Bk (W.heap.size) 0 [.int .i64 0, .int .i64 0] wz33 := Bk.later (by first | (simp [Bk, go_sem]; done) | (repeat (first | with_reducible (first | assumption | apply Bk.drew | apply Bk.alloc | apply Bk.later (hB := hRwz33)) | ((with_reducible apply Bk.mv hRwz33); (focus omega)) | ((with_reducible apply Bk.later); rotate_left; (with_reducible assumption)) | ((with_reducible apply Bk.put); rotate_left; (first | (dsimp only; omega)))))) hR
          have GS1 := GR1; simp only [Bk] at GS1
          have nl1 : W.heap.size < wz33.heap.size := by omega
          (try go_wp2_with (fail))
          refine hK.out _ _ (by refine ⟨?_, ?_, ?_, ?_⟩ <;> (repeat (first | with_reducible (first | assumption | apply Bk.drew | apply Bk.alloc | apply Bk.later (hB := hRwz33)) | ((with_reducible apply Bk.mv hRwz33); (focus omega)) | ((with_reducible apply Bk.later); rotate_left; (with_reducible assumption)) | ((with_reducible apply Bk.put); rotate_left; (first | (dsimp only; omega)))))) (fun hHeld => ?_)
          clear hK K hOld B0 B1 B2 B3
          try simp only [Act.put, List.setIfInBounds_toArray, List.set_cons_zero, List.set_cons_succ]
          refine wpAnyH_ready (rs := [4]) (by kernel_rfl) (by simp) ?_
          refine AllReadyH.cons rfl (fun K hK => ?_) ?_
          · have hOld := hHeld; clear hHeld
            have B0 := hOld.1
            have B1 := hOld.2.1
            have B2 := hOld.2.2.1
            have B3 := hOld.2.2.2
            go_simp
            (go_at_call 9; (with_reducible refine (kP2 _).mono ?_); rintro e wz34 ⟨rfl, hR⟩)
            have hRwz34 := hR
            have hzR := hR.size
            (try simp at hzR)
            have GR0 : Bk (W.heap.size + 1) 0 [.int .i64 0, .int .i64 0] wz34 := Bk.later (by first | (simp [Bk, go_sem]; done) | (repeat (first | with_reducible (first | assumption | apply Bk.drew | apply Bk.alloc | apply Bk.later (hB := hRwz34) | apply Bk.later (hB := hRwz33)) | ((with_reducible apply Bk.mv hRwz34); (focus omega)) | ((with_reducible apply Bk.mv hRwz33); (focus omega)) | ((with_reducible apply Bk.later); rotate_left; (with_reducible assumption)) | ((with_reducible apply Bk.put); rotate_left; (first | (dsimp only; omega)))))) hR
            have GS0 := GR0; simp only [Bk] at GS0
            have nl0 : W.heap.size + 1 < wz34.heap.size := by omega
            have GR1 : Bk (W.heap.size) 0 [.int .i64 0, .int .i64 0] wz34 := Bk.later (by first | (simp [Bk, go_sem]; done) | (repeat (first | with_reducible (first | assumption | apply Bk.drew | apply Bk.alloc | apply Bk.later (hB := hRwz34) | apply Bk.later (hB := hRwz33)) | ((with_reducible apply Bk.mv hRwz34); (focus omega)) | ((with_reducible apply Bk.mv hRwz33); (focus omega)) | ((with_reducible apply Bk.later); rotate_left; (with_reducible assumption)) | ((with_reducible apply Bk.put); rotate_left; (first | (dsimp only; omega)))))) hR
            have GS1 := GR1; simp only [Bk] at GS1
            have nl1 : W.heap.size < wz34.heap.size := by omega
            (try go_wp2_with (fail))
            refine hK.out _ _ (by refine ⟨?_, ?_, ?_, ?_⟩ <;> (repeat (first | with_reducible (first | assumption | apply Bk.drew | apply Bk.alloc | apply Bk.later (hB := hRwz34) | apply Bk.later (hB := hRwz33)) | ((with_reducible apply Bk.mv hRwz34); (focus omega)) | ((with_reducible apply Bk.mv hRwz33); (focus omega)) | ((with_reducible apply Bk.later); rotate_left; (with_reducible assumption)) | ((with_reducible apply Bk.put); rotate_left; (first | (dsimp only; omega)))))) (fun hHeld => ?_)
            clear hK K hOld B0 B1 B2 B3
            try simp only [Act.put, List.setIfInBounds_toArray, List.set_cons_zero, List.set_cons_succ]
            refine wpAnyH_ready (rs := [6]) (by kernel_rfl) (by simp) ?_
            refine AllReadyH.cons rfl (fun K hK => ?_) ?_
            · have hOld := hHeld; clear hHeld
              have B0 := hOld.1
              have B1 := hOld.2.1
              have B2 := hOld.2.2.1
              have B3 := hOld.2.2.2
              go_simp
              (go_at_call 14; (with_reducible refine (Tw.call2 (by (repeat (first | with_reducible assumption | with_reducible apply Tw.alloc | with_reducible apply Tw.drew | ((with_reducible apply Tw.after); rotate_left; (with_reducible assumption)) | ((with_reducible apply Tw.setCell); rotate_left; (first | (dsimp only; omega) | omega | (simp; omega)); (first | (dsimp only; omega) | omega | (simp; omega)); (first | (dsimp only; omega) | omega | (simp; omega)))))) (k2 _ _ _)).mono ?_); rintro e wz35 ⟨rfl, hR, HT⟩)
              have hRwz35 := hR
              have hzR := hR.size
              (try simp at hzR)
              have GR0 : Bk (W.heap.size + 1) 0 [.int .i64 0, .int .i64 0] wz35 := Bk.mv hR (by omega) (by first | (simp [Bk, go_sem]; done) | (repeat (first | with_reducible (first | assumption | apply Bk.drew | apply Bk.alloc | apply Bk.later (hB := hRwz35) | apply Bk.later (hB := hRwz34) | apply Bk.later (hB := hRwz33)) | ((with_reducible apply Bk.mv hRwz35); (focus omega)) | ((with_reducible apply Bk.mv hRwz34); (focus omega)) | ((with_reducible apply Bk.mv hRwz33); (focus omega)) | ((with_reducible apply Bk.later); rotate_left; (with_reducible assumption)) | ((with_reducible apply Bk.put); rotate_left; (first | (dsimp only; omega))))))
              have GS0 := GR0; simp only [Bk] at GS0
              have nl0 : W.heap.size + 1 < wz35.heap.size := by omega
              have GR1 : Bk (W.heap.size) 0 [.int .i64 0, .int .i64 0] wz35 := Bk.mv hR (by omega) (by first | (simp [Bk, go_sem]; done) | (repeat (first | with_reducible (first | assumption | apply Bk.drew | apply Bk.alloc | apply Bk.later (hB := hRwz35) | apply Bk.later (hB := hRwz34) | apply Bk.later (hB := hRwz33)) | ((with_reducible apply Bk.mv hRwz35); (focus omega)) | ((with_reducible apply Bk.mv hRwz34); (focus omega)) | ((with_reducible apply Bk.mv hRwz33); (focus omega)) | ((with_reducible apply Bk.later); rotate_left; (with_reducible assumption)) | ((with_reducible apply Bk.put); rotate_left; (first | (dsimp only; omega))))))
              have GS1 := GR1; simp only [Bk] at GS1
              have nl1 : W.heap.size < wz35.heap.size := by omega
              (try go_wp2_with (fail))
              refine hK.out _ _ (by refine ⟨?_, ?_, ?_, ?_⟩ <;> (repeat (first | with_reducible (first | assumption | apply Bk.drew | apply Bk.alloc | apply Bk.later (hB := hRwz35) | apply Bk.later (hB := hRwz34) | apply Bk.later (hB := hRwz33)) | ((with_reducible apply Bk.mv hRwz35); (focus omega)) | ((with_reducible apply Bk.mv hRwz34); (focus omega)) | ((with_reducible apply Bk.mv hRwz33); (focus omega)) | ((with_reducible apply Bk.later); rotate_left; (with_reducible assumption)) | ((with_reducible apply Bk.put); rotate_left; (first | (dsimp only; omega)))))) (fun hHeld => ?_)
              clear hK K hOld B0 B1 B2 B3
              try simp only [Act.put, List.setIfInBounds_toArray, List.set_cons_zero, List.set_cons_succ]
              refine wpAnyH_take (i := 7) (v := ?_) (by simp only [List.getElem?_toArray, List.getElem?_cons_succ, List.getElem?_cons_zero]; rfl) (by kernel_rfl) (by kernel_rfl) (by kernel_rfl) (fun _ _ _ h => h) (Or.inl ⟨by rfl, ?_⟩) (by assumption) ?_
              rotate_left
              · intro w hSw; (try dsimp only at hSw); simp only [Bk] at hSw; go_simp; try with_reducible rfl
              try simp only [Act.put, List.setIfInBounds_toArray, List.set_cons_zero, List.set_cons_succ]
              refine wpAnyH_take (i := 8) (v := ?_) (by simp only [List.getElem?_toArray, List.getElem?_cons_succ, List.getElem?_cons_zero]; rfl) (by kernel_rfl) (by kernel_rfl) (by kernel_rfl) (fun _ _ _ h => h) (Or.inl ⟨by rfl, ?_⟩) (by assumption) ?_
              rotate_left
              · intro w hSw; (try dsimp only at hSw); simp only [Bk] at hSw; go_simp; try with_reducible rfl
              try simp only [Act.put, List.setIfInBounds_toArray, List.set_cons_zero, List.set_cons_succ]
              refine wpAnyH_take (i := 9) (v := ?_) (by simp only [List.getElem?_toArray, List.getElem?_cons_succ, List.getElem?_cons_zero]; rfl) (by kernel_rfl) (by kernel_rfl) (by kernel_rfl) (fun _ _ _ h => h) (Or.inl ⟨by rfl, ?_⟩) (by assumption) ?_
              rotate_left
              · intro w hSw; (try dsimp only at hSw); simp only [Bk] at hSw; go_simp; try with_reducible rfl
              try simp only [Act.put, List.setIfInBounds_toArray, List.set_cons_zero, List.set_cons_succ]
              refine wpAnyH_take (i := 10) (v := ?_) (by simp only [List.getElem?_toArray, List.getElem?_cons_succ, List.getElem?_cons_zero]; rfl) (by kernel_rfl) (by kernel_rfl) (by kernel_rfl) (fun _ _ _ h => h) (Or.inl ⟨by rfl, ?_⟩) (by assumption) ?_
              rotate_left
              · intro w hSw; (try dsimp only at hSw); simp only [Bk] at hSw; go_simp; try with_reducible rfl
              try simp only [Act.put, List.setIfInBounds_toArray, List.set_cons_zero, List.set_cons_succ]
              refine wpAnyH_ready (rs := [13]) (by kernel_rfl) (by simp) ?_
              refine AllReadyH.cons rfl (fun K hK => ?_) ?_
              · have hOld := hHeld; clear hHeld
                have B0 := hOld.1
                have B1 := hOld.2.1
                have B2 := hOld.2.2.1
                have B3 := hOld.2.2.2
                have G0 : Bk (W.heap.size + 1) 0 [.int .i64 0, .int .i64 0] (wz35) := by first | (simp [Bk, go_sem]; done) | (repeat (first | with_reducible (first | assumption | apply Bk.drew | apply Bk.alloc | apply Bk.later (hB := hRwz35) | apply Bk.later (hB := hRwz34) | apply Bk.later (hB := hRwz33)) | ((with_reducible apply Bk.mv hRwz35); (focus omega)) | ((with_reducible apply Bk.mv hRwz34); (focus omega)) | ((with_reducible apply Bk.mv hRwz33); (focus omega)) | ((with_reducible apply Bk.later); rotate_left; (with_reducible assumption)) | ((with_reducible apply Bk.put); rotate_left; (first | (dsimp only; omega)))))
                simp only [Bk] at G0
                have G1 : Bk (W.heap.size) 0 [.int .i64 0, .int .i64 0] (wz35) := by first | (simp [Bk, go_sem]; done) | (repeat (first | with_reducible (first | assumption | apply Bk.drew | apply Bk.alloc | apply Bk.later (hB := hRwz35) | apply Bk.later (hB := hRwz34) | apply Bk.later (hB := hRwz33)) | ((with_reducible apply Bk.mv hRwz35); (focus omega)) | ((with_reducible apply Bk.mv hRwz34); (focus omega)) | ((with_reducible apply Bk.mv hRwz33); (focus omega)) | ((with_reducible apply Bk.later); rotate_left; (with_reducible assumption)) | ((with_reducible apply Bk.put); rotate_left; (first | (dsimp only; omega)))))
                simp only [Bk] at G1
                have na01 : W.heap.size + 1 ≠ W.heap.size := by omega
                have nb01 := na01.symm
                go_simp
                refine hK.out _ _ (by refine ⟨?_, ?_, ?_, ?_⟩ <;> (repeat (first | with_reducible (first | assumption | apply Bk.drew | apply Bk.alloc | apply Bk.later (hB := hRwz35) | apply Bk.later (hB := hRwz34) | apply Bk.later (hB := hRwz33)) | ((with_reducible apply Bk.mv hRwz35); (focus omega)) | ((with_reducible apply Bk.mv hRwz34); (focus omega)) | ((with_reducible apply Bk.mv hRwz33); (focus omega)) | ((with_reducible apply Bk.later); rotate_left; (with_reducible assumption)) | ((with_reducible apply Bk.put); rotate_left; (first | (dsimp only; omega)))))) (fun hHeld => ?_)
                clear hK K hOld B0 B1 B2 B3
                try simp only [Act.put, List.setIfInBounds_toArray, List.set_cons_zero, List.set_cons_succ]
                refine wpAnyH_ready (rs := [14]) (by kernel_rfl) (by simp) ?_
                refine AllReadyH.cons rfl (fun K hK => ?_) ?_
                · have hOld := hHeld; clear hHeld
                  have B0 := hOld.1
                  have B1 := hOld.2.1
                  have B2 := hOld.2.2.1
                  have B3 := hOld.2.2.2
                  go_simp
                  refine hK.out _ _ (by refine ⟨?_, ?_, ?_, ?_⟩ <;> (repeat (first | with_reducible (first | assumption | apply Bk.drew | apply Bk.alloc | apply Bk.later (hB := hRwz35) | apply Bk.later (hB := hRwz34) | apply Bk.later (hB := hRwz33)) | ((with_reducible apply Bk.mv hRwz35); (focus omega)) | ((with_reducible apply Bk.mv hRwz34); (focus omega)) | ((with_reducible apply Bk.mv hRwz33); (focus omega)) | ((with_reducible apply Bk.later); rotate_left; (with_reducible assumption)) | ((with_reducible apply Bk.put); rotate_left; (first | (dsimp only; omega)))))) (fun hHeld => ?_)
                  clear hK K hOld B0 B1 B2 B3
                  try simp only [Act.put, List.setIfInBounds_toArray, List.set_cons_zero, List.set_cons_succ]
                  refine wpAnyH_take (i := 15) (v := ?_) (by simp only [List.getElem?_toArray, List.getElem?_cons_succ, List.getElem?_cons_zero]; rfl) (by kernel_rfl) (by kernel_rfl) (by kernel_rfl) (fun _ _ _ h => h) (Or.inl ⟨by rfl, ?_⟩) (by assumption) ?_
                  rotate_left
                  · intro w hSw; (try dsimp only at hSw); simp only [Bk] at hSw; go_simp; try with_reducible rfl
                  try simp only [Act.put, List.setIfInBounds_toArray, List.set_cons_zero, List.set_cons_succ]
                  refine wpAnyH_done (by kernel_rfl) ?_ _
                  (try refine NoPanic.normal ?_)
                  go_wp2
                  go_meet
                  exact ⟨_, _, rfl, rfl, rfl, by (repeat (first | with_reducible assumption | with_reducible apply Tw.alloc | with_reducible apply Tw.drew | ((with_reducible apply Tw.after); rotate_left; (with_reducible assumption)) | ((with_reducible apply Tw.setCell); rotate_left; (first | (dsimp only; omega) | omega | (simp; omega)); (first | (dsimp only; omega) | omega | (simp; omega)); (first | (dsimp only; omega) | omega | (simp; omega))))), by simp (maxDischargeDepth := 8) [Bk, go_sem, *], hHeld.2.2.1, hHeld.2.2.2⟩
                exact AllReadyH.nil
              exact AllReadyH.nil
            exact AllReadyH.nil
          exact AllReadyH.nil
        exact AllReadyH.nil
      exact AllReadyH.nil
    exact AllReadyH.nil
  case rest =>
   obtain ⟨g0, g1, rfl, rfl, rfl, HT, ⟨K, L⟩, U, V⟩ := hcut
   rename World => wt
   generalize (false || !f) = ov at HT
   go_upto_region 5 with (fail)
   have HB := HT.below
   have hcb := HT.cb
   have hcc := HT.cc
   have C_K := K; simp only [Bk] at C_K
   have C_L := L; simp only [Bk] at C_L
   have C_U := U; simp only [Bk] at C_U
   have C_V := V; simp only [Bk] at C_V
   (try refine wp_region_noPanic ?_)
   refine wp_region_held_drew (S := (fun (w' : World) => w'.cell? ⟨g.heap.size, 0, none⟩ = some (.int .i64 p1) ∧ w'.cell? ⟨g.heap.size, 1, none⟩ = some (.int .i64 p2) ∧ w'.cell? ⟨g.heap.size + 1, 0, none⟩ = some (.int .i64 q1) ∧ w'.cell? ⟨g.heap.size + 1, 1, none⟩ = some (.int .i64 q2) ∧ w'.cell? ⟨g0, 0, none⟩ = some (.int .i64 p1) ∧ w'.cell? ⟨g0, 1, none⟩ = some (.int .i64 p2) ∧ w'.cell? ⟨g1, 0, none⟩ = some (.int .i64 q1) ∧ w'.cell? ⟨g1, 1, none⟩ = some (.int .i64 q2) ∧ w'.cell? ⟨w.heap.size + 1 + 1, 0, none⟩ = some (.bool ov) ∧ w'.cell? ⟨w.heap.size + 1 + 1 + 1, 0, none⟩ = some (.bool ov))) (by kernel_rfl) ⟨(by first | (simp (maxDischargeDepth := 6) [go_sem, *]; done)), (by first | (simp (maxDischargeDepth := 6) [go_sem, *]; done)), (by first | (simp (maxDischargeDepth := 6) [go_sem, *]; done)), (by first | (simp (maxDischargeDepth := 6) [go_sem, *]; done)), (by first | (simp (maxDischargeDepth := 6) [go_sem, *]; done)), (by first | (simp (maxDischargeDepth := 6) [go_sem, *]; done)), (by first | (simp (maxDischargeDepth := 6) [go_sem, *]; done)), (by first | (simp (maxDischargeDepth := 6) [go_sem, *]; done)), (by first | (simp (maxDischargeDepth := 6) [go_sem, *]; done)), (by first | (simp (maxDischargeDepth := 6) [go_sem, *]; done))⟩ (fun hHeld => ?_)
   refine wpAnyH_take (i := 0) (v := ?_) (by simp only [List.getElem?_toArray, List.getElem?_cons_succ, List.getElem?_cons_zero]; rfl) (by kernel_rfl) (by kernel_rfl) (by kernel_rfl) (fun _ _ _ h => h) (Or.inl ⟨by rfl, ?_⟩) (by assumption) ?_
   rotate_left
   · intro w hSw; (try dsimp only at hSw); go_simp; try with_reducible rfl
   try simp only [Act.put, List.setIfInBounds_toArray, List.set_cons_zero, List.set_cons_succ]
   refine wpAnyH_take (i := 1) (v := ?_) (by simp only [List.getElem?_toArray, List.getElem?_cons_succ, List.getElem?_cons_zero]; rfl) (by kernel_rfl) (by kernel_rfl) (by kernel_rfl) (fun _ _ _ h => h) (Or.inl ⟨by rfl, ?_⟩) (by assumption) ?_
   rotate_left
   · intro w hSw; (try dsimp only at hSw); go_simp; try with_reducible rfl
   try simp only [Act.put, List.setIfInBounds_toArray, List.set_cons_zero, List.set_cons_succ]
   refine wpAnyH_take (i := 2) (v := ?_) (by simp only [List.getElem?_toArray, List.getElem?_cons_succ, List.getElem?_cons_zero]; rfl) (by kernel_rfl) (by kernel_rfl) (by kernel_rfl) (fun _ _ _ h => h) (Or.inl ⟨by rfl, ?_⟩) (by assumption) ?_
   rotate_left
   · intro w hSw; (try dsimp only at hSw); go_simp; try with_reducible rfl
   try simp only [Act.put, List.setIfInBounds_toArray, List.set_cons_zero, List.set_cons_succ]
   refine wpAnyH_take (i := 3) (v := ?_) (by simp only [List.getElem?_toArray, List.getElem?_cons_succ, List.getElem?_cons_zero]; rfl) (by kernel_rfl) (by kernel_rfl) (by kernel_rfl) (fun _ _ _ h => h) (Or.inl ⟨by rfl, ?_⟩) (by assumption) ?_
   rotate_left
   · intro w hSw; (try dsimp only at hSw); go_simp; try with_reducible rfl
   try simp only [Act.put, List.setIfInBounds_toArray, List.set_cons_zero, List.set_cons_succ]
   refine wpAnyH_take (i := 4) (v := ?_) (by simp only [List.getElem?_toArray, List.getElem?_cons_succ, List.getElem?_cons_zero]; rfl) (by kernel_rfl) (by kernel_rfl) (by kernel_rfl) (fun _ _ _ h => h) (Or.inl ⟨by rfl, ?_⟩) (by assumption) ?_
   rotate_left
   · intro w hSw; (try dsimp only at hSw); go_simp; try with_reducible rfl
   try simp only [Act.put, List.setIfInBounds_toArray, List.set_cons_zero, List.set_cons_succ]
   refine wpAnyH_take (i := 5) (v := ?_) (by simp only [List.getElem?_toArray, List.getElem?_cons_succ, List.getElem?_cons_zero]; rfl) (by kernel_rfl) (by kernel_rfl) (by kernel_rfl) (fun _ _ _ h => h) (Or.inl ⟨by rfl, ?_⟩) (by assumption) ?_
   rotate_left
   · intro w hSw; (try dsimp only at hSw); go_simp; try with_reducible rfl
   try simp only [Act.put, List.setIfInBounds_toArray, List.set_cons_zero, List.set_cons_succ]
   refine wpAnyH_take (i := 6) (v := ?_) (by simp only [List.getElem?_toArray, List.getElem?_cons_succ, List.getElem?_cons_zero]; rfl) (by kernel_rfl) (by kernel_rfl) (by kernel_rfl) (fun _ _ _ h => h) (Or.inl ⟨by rfl, ?_⟩) (by assumption) ?_
   rotate_left
   · intro w hSw; (try dsimp only at hSw); go_simp; try with_reducible rfl
   try simp only [Act.put, List.setIfInBounds_toArray, List.set_cons_zero, List.set_cons_succ]
   refine wpAnyH_take (i := 7) (v := ?_) (by simp only [List.getElem?_toArray, List.getElem?_cons_succ, List.getElem?_cons_zero]; rfl) (by kernel_rfl) (by kernel_rfl) (by kernel_rfl) (fun _ _ _ h => h) (Or.inl ⟨by rfl, ?_⟩) (by assumption) ?_
   rotate_left
   · intro w hSw; (try dsimp only at hSw); go_simp; try with_reducible rfl
   try simp only [Act.put, List.setIfInBounds_toArray, List.set_cons_zero, List.set_cons_succ]
   refine wpAnyH_take (i := 8) (v := ?_) (by simp only [List.getElem?_toArray, List.getElem?_cons_succ, List.getElem?_cons_zero]; rfl) (by kernel_rfl) (by kernel_rfl) (by kernel_rfl) (fun _ _ _ h => h) (Or.inl ⟨by rfl, ?_⟩) (by assumption) ?_
   rotate_left
   · intro w hSw; (try dsimp only at hSw); go_simp; try with_reducible rfl
   try simp only [Act.put, List.setIfInBounds_toArray, List.set_cons_zero, List.set_cons_succ]
   refine wpAnyH_take (i := 9) (v := ?_) (by simp only [List.getElem?_toArray, List.getElem?_cons_succ, List.getElem?_cons_zero]; rfl) (by kernel_rfl) (by kernel_rfl) (by kernel_rfl) (fun _ _ _ h => h) (Or.inl ⟨by rfl, ?_⟩) (by assumption) ?_
   rotate_left
   · intro w hSw; (try dsimp only at hSw); go_simp; try with_reducible rfl
   try simp only [Act.put, List.setIfInBounds_toArray, List.set_cons_zero, List.set_cons_succ]
   refine wpAnyH_take (i := 10) (v := ?_) (by simp only [List.getElem?_toArray, List.getElem?_cons_succ, List.getElem?_cons_zero]; rfl) (by kernel_rfl) (by kernel_rfl) (by kernel_rfl) (fun _ _ _ h => h) (Or.inl ⟨by rfl, ?_⟩) (by assumption) ?_
   rotate_left
   · intro w hSw; (try dsimp only at hSw); go_simp; try with_reducible rfl
   try simp only [Act.put, List.setIfInBounds_toArray, List.set_cons_zero, List.set_cons_succ]
   refine wpAnyH_take (i := 11) (v := ?_) (by simp only [List.getElem?_toArray, List.getElem?_cons_succ, List.getElem?_cons_zero]; rfl) (by kernel_rfl) (by kernel_rfl) (by kernel_rfl) (fun _ _ _ h => h) (Or.inl ⟨by rfl, ?_⟩) (by assumption) ?_
   rotate_left
   · intro w hSw; (try dsimp only at hSw); go_simp; try with_reducible rfl
   try simp only [Act.put, List.setIfInBounds_toArray, List.set_cons_zero, List.set_cons_succ]
   refine wpAnyH_take (i := 12) (v := ?_) (by simp only [List.getElem?_toArray, List.getElem?_cons_succ, List.getElem?_cons_zero]; rfl) (by kernel_rfl) (by kernel_rfl) (by kernel_rfl) (fun _ _ _ h => h) (Or.inl ⟨by rfl, ?_⟩) (by assumption) ?_
   rotate_left
   · intro w hSw; (try dsimp only at hSw); go_simp; try with_reducible rfl
   try simp only [Act.put, List.setIfInBounds_toArray, List.set_cons_zero, List.set_cons_succ]
   refine wpAnyH_take (i := 13) (v := ?_) (by simp only [List.getElem?_toArray, List.getElem?_cons_succ, List.getElem?_cons_zero]; rfl) (by kernel_rfl) (by kernel_rfl) (by kernel_rfl) (fun _ _ _ h => h) (Or.inl ⟨by rfl, ?_⟩) (by assumption) ?_
   rotate_left
   · intro w hSw; (try dsimp only at hSw); go_simp; try with_reducible rfl
   try simp only [Act.put, List.setIfInBounds_toArray, List.set_cons_zero, List.set_cons_succ]
   refine wpAnyH_take (i := 14) (v := ?_) (by simp only [List.getElem?_toArray, List.getElem?_cons_succ, List.getElem?_cons_zero]; rfl) (by kernel_rfl) (by kernel_rfl) (by kernel_rfl) (fun _ _ _ h => h) (Or.inl ⟨by rfl, ?_⟩) (by assumption) ?_
   rotate_left
   · intro w hSw; (try dsimp only at hSw); go_simp; try with_reducible rfl
   try simp only [Act.put, List.setIfInBounds_toArray, List.set_cons_zero, List.set_cons_succ]
   refine wpAnyH_take (i := 15) (v := ?_) (by simp only [List.getElem?_toArray, List.getElem?_cons_succ, List.getElem?_cons_zero]; rfl) (by kernel_rfl) (by kernel_rfl) (by kernel_rfl) (fun _ _ _ h => h) (Or.inl ⟨by rfl, ?_⟩) (by assumption) ?_
   rotate_left
   · intro w hSw; (try dsimp only at hSw); go_simp; try with_reducible rfl
   try simp only [Act.put, List.setIfInBounds_toArray, List.set_cons_zero, List.set_cons_succ]
   refine wpAnyH_take (i := 16) (v := ?_) (by simp only [List.getElem?_toArray, List.getElem?_cons_succ, List.getElem?_cons_zero]; rfl) (by kernel_rfl) (by kernel_rfl) (by kernel_rfl) (fun _ _ _ h => h) (Or.inl ⟨by rfl, ?_⟩) (by assumption) ?_
   rotate_left
   · intro w hSw; (try dsimp only at hSw); go_simp; try with_reducible rfl
   try simp only [Act.put, List.setIfInBounds_toArray, List.set_cons_zero, List.set_cons_succ]
   refine wpAnyH_take (i := 18) (v := ?_) (by simp only [List.getElem?_toArray, List.getElem?_cons_succ, List.getElem?_cons_zero]; rfl) (by kernel_rfl) (by kernel_rfl) (by kernel_rfl) (fun _ _ _ h => h) (Or.inl ⟨by rfl, ?_⟩) (by assumption) ?_
   rotate_left
   · intro w hSw; (try dsimp only at hSw); go_simp; try with_reducible rfl
   try simp only [Act.put, List.setIfInBounds_toArray, List.set_cons_zero, List.set_cons_succ]
   refine wpAnyH_take (i := 19) (v := ?_) (by simp only [List.getElem?_toArray, List.getElem?_cons_succ, List.getElem?_cons_zero]; rfl) (by kernel_rfl) (by kernel_rfl) (by kernel_rfl) (fun _ _ _ h => h) (Or.inl ⟨by rfl, ?_⟩) (by assumption) ?_
   rotate_left
   · intro w hSw; (try dsimp only at hSw); go_simp; try with_reducible rfl
   try simp only [Act.put, List.setIfInBounds_toArray, List.set_cons_zero, List.set_cons_succ]
   refine wpAnyH_take (i := 20) (v := ?_) (by simp only [List.getElem?_toArray, List.getElem?_cons_succ, List.getElem?_cons_zero]; rfl) (by kernel_rfl) (by kernel_rfl) (by kernel_rfl) (fun _ _ _ h => h) (Or.inl ⟨by rfl, ?_⟩) (by assumption) ?_
   rotate_left
   · intro w hSw; (try dsimp only at hSw); go_simp; try with_reducible rfl
   try simp only [Act.put, List.setIfInBounds_toArray, List.set_cons_zero, List.set_cons_succ]
   refine wpAnyH_take (i := 17) (v := ?_) (by simp only [List.getElem?_toArray, List.getElem?_cons_succ, List.getElem?_cons_zero]; rfl) (by kernel_rfl) (by kernel_rfl) (by kernel_rfl) (fun _ _ _ h => h) (Or.inl ⟨by rfl, ?_⟩) (by assumption) ?_
   rotate_left
   · intro w hSw; (try dsimp only at hSw); go_simp; try with_reducible rfl
   try simp only [Act.put, List.setIfInBounds_toArray, List.set_cons_zero, List.set_cons_succ]
   refine wpAnyH_take (i := 21) (v := ?_) (by simp only [List.getElem?_toArray, List.getElem?_cons_succ, List.getElem?_cons_zero]; rfl) (by kernel_rfl) (by kernel_rfl) (by kernel_rfl) (fun _ _ _ h => h) (Or.inl ⟨by rfl, ?_⟩) (by assumption) ?_
   rotate_left
   · intro w hSw; (try dsimp only at hSw); go_simp; try with_reducible rfl
   try simp only [Act.put, List.setIfInBounds_toArray, List.set_cons_zero, List.set_cons_succ]
   refine wpAnyH_take (i := 22) (v := ?_) (by simp only [List.getElem?_toArray, List.getElem?_cons_succ, List.getElem?_cons_zero]; rfl) (by kernel_rfl) (by kernel_rfl) (by kernel_rfl) (fun _ _ _ h => h) (Or.inl ⟨by rfl, ?_⟩) (by assumption) ?_
   rotate_left
   · intro w hSw; (try dsimp only at hSw); go_simp; try with_reducible rfl
   try simp only [Act.put, List.setIfInBounds_toArray, List.set_cons_zero, List.set_cons_succ]
   refine wpAnyH_take (i := 23) (v := ?_) (by simp only [List.getElem?_toArray, List.getElem?_cons_succ, List.getElem?_cons_zero]; rfl) (by kernel_rfl) (by kernel_rfl) (by kernel_rfl) (fun _ _ _ h => h) (Or.inl ⟨by rfl, ?_⟩) (by assumption) ?_
   rotate_left
   · intro w hSw; (try dsimp only at hSw); go_simp; try with_reducible rfl
   try simp only [Act.put, List.setIfInBounds_toArray, List.set_cons_zero, List.set_cons_succ]
   refine wpAnyH_take (i := 24) (v := ?_) (by simp only [List.getElem?_toArray, List.getElem?_cons_succ, List.getElem?_cons_zero]; rfl) (by kernel_rfl) (by kernel_rfl) (by kernel_rfl) (fun _ _ _ h => h) (Or.inl ⟨by rfl, ?_⟩) (by assumption) ?_
   rotate_left
   · intro w hSw; (try dsimp only at hSw); go_simp; try with_reducible rfl
   try simp only [Act.put, List.setIfInBounds_toArray, List.set_cons_zero, List.set_cons_succ]
   refine wpAnyH_ready (rs := [25]) (by kernel_rfl) (by simp) ?_
   refine AllReadyH.cons rfl (fun K hK => ?_) AllReadyH.nil
   have hOld := hHeld; clear hHeld
   go_simp
   (go_at_call 12; (with_reducible refine (cAwake9 _).mono ?_); rintro e w1 ⟨rfl, hM⟩)
   (try go_wp2_with (fail))
   refine hK.out _ _ ⟨(by first | exact mv_cell hM (by first | (dsimp only; omega) | (simp; omega)) hOld.1 | exact cell_later hM hOld.1 | exact HT.cb | exact HT.cc | (simp (maxDischargeDepth := 6) [go_sem, *]; done)), (by first | exact mv_cell hM (by first | (dsimp only; omega) | (simp; omega)) hOld.2.1 | exact cell_later hM hOld.2.1 | exact HT.cb | exact HT.cc | (simp (maxDischargeDepth := 6) [go_sem, *]; done)), (by first | exact mv_cell hM (by first | (dsimp only; omega) | (simp; omega)) hOld.2.2.1 | exact cell_later hM hOld.2.2.1 | exact HT.cb | exact HT.cc | (simp (maxDischargeDepth := 6) [go_sem, *]; done)), (by first | exact mv_cell hM (by first | (dsimp only; omega) | (simp; omega)) hOld.2.2.2.1 | exact cell_later hM hOld.2.2.2.1 | exact HT.cb | exact HT.cc | (simp (maxDischargeDepth := 6) [go_sem, *]; done)), (by first | exact mv_cell hM (by first | (dsimp only; omega) | (simp; omega)) hOld.2.2.2.2.1 | exact cell_later hM hOld.2.2.2.2.1 | exact HT.cb | exact HT.cc | (simp (maxDischargeDepth := 6) [go_sem, *]; done)), (by first | exact mv_cell hM (by first | (dsimp only; omega) | (simp; omega)) hOld.2.2.2.2.2.1 | exact cell_later hM hOld.2.2.2.2.2.1 | exact HT.cb | exact HT.cc | (simp (maxDischargeDepth := 6) [go_sem, *]; done)), (by first | exact mv_cell hM (by first | (dsimp only; omega) | (simp; omega)) hOld.2.2.2.2.2.2.1 | exact cell_later hM hOld.2.2.2.2.2.2.1 | exact HT.cb | exact HT.cc | (simp (maxDischargeDepth := 6) [go_sem, *]; done)), (by first | exact mv_cell hM (by first | (dsimp only; omega) | (simp; omega)) hOld.2.2.2.2.2.2.2.1 | exact cell_later hM hOld.2.2.2.2.2.2.2.1 | exact HT.cb | exact HT.cc | (simp (maxDischargeDepth := 6) [go_sem, *]; done)), (by first | exact mv_cell hM (by first | (dsimp only; omega) | (simp; omega)) hOld.2.2.2.2.2.2.2.2.1 | exact cell_later hM hOld.2.2.2.2.2.2.2.2.1 | exact HT.cb | exact HT.cc | (simp (maxDischargeDepth := 6) [go_sem, *]; done)), (by first | exact mv_cell hM (by first | (dsimp only; omega) | (simp; omega)) hOld.2.2.2.2.2.2.2.2.2 | exact cell_later hM hOld.2.2.2.2.2.2.2.2.2 | exact HT.cb | exact HT.cc | (simp (maxDischargeDepth := 6) [go_sem, *]; done))⟩ (fun hHeld => ?_)
   clear hK K hOld
   try simp only [Act.put, List.setIfInBounds_toArray, List.set_cons_zero, List.set_cons_succ]
   have HB := below_step (W := _) (by (repeat (first | with_reducible assumption | with_reducible exact Below.refl _ _ | ((with_reducible refine Below.setCell ?_ ?_ _); rotate_left; (first | exact Nat.le_refl _ | (dsimp only; omega) | (simp; done) | (simp; omega))) | with_reducible refine below_alloc ?_ _ | with_reducible apply below_drewN | with_reducible apply Below.drew | with_reducible refine below_step ?_ (by assumption)))) hM
   refine wpAnyH_take (i := 26) (v := ?_) (by simp only [List.getElem?_toArray, List.getElem?_cons_succ, List.getElem?_cons_zero]; rfl) (by kernel_rfl) (by kernel_rfl) (by kernel_rfl) (fun _ _ _ h => h) (Or.inl ⟨by rfl, ?_⟩) (by assumption) ?_
   rotate_left
   · intro w hSw; (try dsimp only at hSw); go_simp; try with_reducible rfl
   try simp only [Act.put, List.setIfInBounds_toArray, List.set_cons_zero, List.set_cons_succ]
   refine wpAnyH_take (i := 27) (v := ?_) (by simp only [List.getElem?_toArray, List.getElem?_cons_succ, List.getElem?_cons_zero]; rfl) (by kernel_rfl) (by kernel_rfl) (by kernel_rfl) (fun _ _ _ h => h) (Or.inl ⟨by rfl, ?_⟩) (by assumption) ?_
   rotate_left
   · intro w hSw; (try dsimp only at hSw); go_simp; try with_reducible rfl
   try simp only [Act.put, List.setIfInBounds_toArray, List.set_cons_zero, List.set_cons_succ]
   refine wpAnyH_done (by kernel_rfl) ?_ _
   (try refine NoPanic.normal ?_)
   (try clear q0); (try clear q1); (try clear q2); (try clear q3); (try clear q4); (try clear q5); (try clear q6); (try clear q7); (try clear q8); (try clear q9); obtain ⟨q0, q1, q2, q3, q4, q5, q6, q7, q8, q9⟩ := hHeld
   go_wp2
   go_ret
   exact ⟨rfl, by first | exact HB | (repeat (first | with_reducible assumption | with_reducible exact Below.refl _ _ | ((with_reducible refine Below.setCell ?_ ?_ _); rotate_left; (first | exact Nat.le_refl _ | (dsimp only; omega) | (simp; done) | (simp; omega))) | with_reducible refine below_alloc ?_ _ | with_reducible apply below_drewN | with_reducible apply Below.drew | with_reducible refine below_step ?_ (by assumption)))⟩
end Go.Proofs.Ytgdoaibgcjdklaa
