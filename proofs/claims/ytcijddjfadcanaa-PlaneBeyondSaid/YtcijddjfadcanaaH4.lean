/- The contract of plane.Crosses. -/
import Derived.Test.YtcijddjfadcanaaH3
import Derived.Test.YtcijddjfadcanaaW2
import Derived.Deep.CutBlock
import Derived.Deep.DeepCutAuto
set_option linter.unusedSimpArgs false
set_option linter.unusedVariables false
namespace Go.Proofs.Ytcijddjfadcanaa
open Go.RowKit
theorem cmp3_pos (n : Int) : 0 < cmp3 n 0 ↔ 0 < n := by unfold cmp3; split <;> (try split) <;> omega
theorem cmp3_neg (n : Int) : cmp3 n 0 < 0 ↔ n < 0 := by unfold cmp3; split <;> (try split) <;> omega
theorem cmp3_nil (n : Int) : cmp3 n 0 = 0 ↔ n = 0 := by unfold cmp3; split <;> (try split) <;> omega
/-- Is a gate crossed ahead? -/
def cxb (ax ay bx bY px py qx qy : Int) : Bool :=
  (pn ax ay && pn bx bY && pn px py && pn qx qy) && !(decide (0 < ar ax ay bx bY px py) || decide (ar ax ay bx bY qx qy ≤ 0)) && !(decide (sd px py qx qy ax ay < 0) || decide (0 ≤ sd px py qx qy bx bY))
/-- Where. -/
def cxv (ax ay bx bY px py qx qy : Int) : Int :=
  if cxb ax ay bx bY px py qx qy = true then pt (-ar ax ay bx bY px py) (ar ax ay bx bY qx qy - ar ax ay bx bY px py) else 0
set_option maxHeartbeats 16000000 in
theorem cCrosses (ax ay bx bY px py qx qy : Int) (w : World) :
    Calls Try.prog 13 #[.agg #[.int .i64 ax, .int .i64 ay], .agg #[.int .i64 bx, .int .i64 bY], .agg #[.int .i64 px, .int .i64 py], .agg #[.int .i64 qx, .int .i64 qy]] w fun e w' => e = .returned (.tuple #[.int .u32 (cxv ax ay bx bY px py qx qy), .bool (cxb ax ay bx bY px py qx qy)]) ∧ Below w.heap.size w w' := by
  have k1 := fun q W => cNear4 q ax ay bx bY px py qx qy W
  cases hn : (pn ax ay && pn bx bY && pn px py && pn qx qy) with
  | false =>
    have E : Hid (cxb ax ay bx bY px py qx qy = false ∧ cxv ax ay bx bY px py qx qy = 0) := Lib.hid (by
      have h : cxb ax ay bx bY px py qx qy = false := by unfold cxb; rw [hn]; rfl
      exact ⟨h, by unfold cxv; rw [h]; rfl⟩)
    rw [hn] at k1
    clear hn
    go_enter Try.func13, Try.ntmps13
    go_wp2_with (fail)
    (go_at_call 19; (with_reducible refine (k1 _ _ (by simp [go_sem]) (by simp [go_sem]) (by simp [go_sem]) (by simp [go_sem]) (by simp [go_sem]) (by simp [go_sem]) (by simp [go_sem]) (by simp [go_sem])).mono ?_); rintro e w1 ⟨rfl, hM⟩)
    go_wp2
    go_ret2
    exact ⟨by rw [E.out.1, E.out.2]; rfl, by (repeat (first | with_reducible assumption | with_reducible exact Below.refl _ _ | ((with_reducible refine Below.setCell ?_ ?_ _); rotate_left; (first | exact Nat.le_refl _ | (dsimp only; omega) | (simp; done) | (simp; omega))) | with_reducible refine below_alloc ?_ _ | with_reducible apply below_drewN | with_reducible apply Below.drew | with_reducible refine below_step ?_ (by assumption)))⟩
  | true =>
    have E0 : cxb ax ay bx bY px py qx qy = (!(decide (0 < ar ax ay bx bY px py) || decide (ar ax ay bx bY qx qy ≤ 0)) && !(decide (sd px py qx qy ax ay < 0) || decide (0 ≤ sd px py qx qy bx bY))) := by unfold cxb; rw [hn, Bool.true_and]
    have E1 : cxv ax ay bx bY px py qx qy = if cxb ax ay bx bY px py qx qy = true then pt (-ar ax ay bx bY px py) (ar ax ay bx bY qx qy - ar ax ay bx bY px py) else 0 := rfl
    rw [hn] at k1
    simp only [Bool.and_eq_true] at hn
    obtain ⟨⟨⟨ha, hb⟩, hp⟩, hq⟩ := hn
    have k2 := fun W => cArea ax ay bx bY px py W ha hb hp
    have k3 := fun W => cArea ax ay bx bY qx qy W ha hb hq
    have k4 := fun W => cSide px py qx qy ax ay W
    have k5 := fun W => cSide px py qx qy bx bY W
    have b1 := ar_bd ax ay bx bY px py ha hb hp
    have b2 := ar_bd ax ay bx bY qx qy ha hb hq
    clear ha hb hp hq
    generalize cxv ax ay bx bY px py qx qy = V at *
    generalize cxb ax ay bx bY px py qx qy = B at *
    generalize ar ax ay bx bY px py = s at *
    generalize ar ax ay bx bY qx qy = t at *
    generalize sd px py qx qy ax ay = e at *
    generalize sd px py qx qy bx bY = f at *
    have k6 := fun W => nWSign s W (by omega) (by omega)
    have k7 := fun W => nWSign t W (by omega) (by omega)
    have k8 := fun W => cPLess 0 s W (by omega) (by omega) (by omega) (by omega)
    rw [show hw 0 = 0 by decide, show lw 0 = 0 by decide, show (0 : Int) - s = -s by omega] at k8
    have k9 := fun W => cPLess t s W (by omega) (by omega) (by omega) (by omega)
    have kp := fun W => nWPart (-s) (t - s) W (by omega) (by omega) (by omega) (by omega)
    obtain ⟨zs, hzs⟩ : ∃ z, cmp3 s 0 = z := ⟨_, rfl⟩
    obtain ⟨zt, hzt⟩ : ∃ z, cmp3 t 0 = z := ⟨_, rfl⟩
    rw [hzs] at k6
    rw [hzt] at k7
    have c1 := cmp3_pos s
    have c2 := cmp3_pos t
    rw [hzs] at c1
    rw [hzt] at c2
    have HE := Lib.hid (And.intro E0 E1)
    have HC := Lib.hid (And.intro c1 c2)
    clear E0 E1 c1 c2 hzs hzt b1 b2
    go_enter Try.func13, Try.ntmps13
    go_wp2_with (fail)
    (go_at_call 19; (with_reducible refine (k1 _ _ (by simp [go_sem]) (by simp [go_sem]) (by simp [go_sem]) (by simp [go_sem]) (by simp [go_sem]) (by simp [go_sem]) (by simp [go_sem]) (by simp [go_sem])).mono ?_); rintro e1 w1 ⟨rfl, hM⟩)
    have B0 : Bk (w.heap.size) 0 [.int .i64 ax, .int .i64 ay] w1 := Bk.later (by simp [Bk, go_sem]; done) hM
    have B1 : Bk (w.heap.size + 1) 0 [.int .i64 bx, .int .i64 bY] w1 := Bk.later (by simp [Bk, go_sem]; done) hM
    have B2 : Bk (w.heap.size + 1 + 1) 0 [.int .i64 px, .int .i64 py] w1 := Bk.later (by simp [Bk, go_sem]; done) hM
    have B3 : Bk (w.heap.size + 1 + 1 + 1) 0 [.int .i64 qx, .int .i64 qy] w1 := Bk.later (by simp [Bk, go_sem]; done) hM
    have HB : Below w.heap.size w w1 := by (repeat (first | with_reducible assumption | with_reducible exact Below.refl _ _ | ((with_reducible refine Below.setCell ?_ ?_ _); rotate_left; (first | exact Nat.le_refl _ | (dsimp only; omega) | (simp; done) | (simp; omega))) | with_reducible refine below_alloc ?_ _ | with_reducible apply below_drewN | with_reducible apply Below.drew | with_reducible refine below_step ?_ (by assumption)))
    have hz : w.heap.size + 1 + 1 + 1 < w1.heap.size := World.block_lt_of_cell? w1 _ B3.1
    clear hM k1
    have C0 := B0; have C1 := B1; have C2 := B2; have C3 := B3
    simp only [Bk] at C0 C1 C2 C3
    go_upto_region 3 with (fail)
    clear C0 C1 C2 C3
    go_cut [10, 11] (fun p q wx => ∃ g h : Nat, p = .pointer (some ⟨g, 0, none⟩) ∧ q = .pointer (some ⟨h, 0, none⟩) ∧ Below w.heap.size w wx ∧ (Bk g 0 [.int .i64 (hw s), .int .u64 (lw s)] wx ∧ Bk h 0 [.int .i64 (hw t), .int .u64 (lw t)] wx) ∧
      Bk (w.heap.size) 0 [.int .i64 ax, .int .i64 ay] wx ∧ Bk (w.heap.size + 1) 0 [.int .i64 bx, .int .i64 bY] wx ∧ Bk (w.heap.size + 1 + 1) 0 [.int .i64 px, .int .i64 py] wx ∧ Bk (w.heap.size + 1 + 1 + 1) 0 [.int .i64 qx, .int .i64 qy] wx)
    case first =>
      (try refine wp_region_noPanic ?_)
      refine wp_region_held_drew (S := (fun (w' : World) => Bk w.heap.size 0 [.int .i64 ax, .int .i64 ay] w' ∧ Bk (w.heap.size + 1) 0 [.int .i64 bx, .int .i64 bY] w' ∧ Bk (w.heap.size + 1 + 1) 0 [.int .i64 px, .int .i64 py] w' ∧ Bk (w.heap.size + 1 + 1 + 1) 0 [.int .i64 qx, .int .i64 qy] w')) (by kernel_rfl) ⟨by (repeat (first | with_reducible assumption | with_reducible apply Bk.drew | with_reducible apply Bk.alloc | ((with_reducible apply Bk.later); rotate_left; (with_reducible assumption)) | ((with_reducible apply Bk.put); rotate_left; (first | (dsimp only; omega))))), by (repeat (first | with_reducible assumption | with_reducible apply Bk.drew | with_reducible apply Bk.alloc | ((with_reducible apply Bk.later); rotate_left; (with_reducible assumption)) | ((with_reducible apply Bk.put); rotate_left; (first | (dsimp only; omega))))), by (repeat (first | with_reducible assumption | with_reducible apply Bk.drew | with_reducible apply Bk.alloc | ((with_reducible apply Bk.later); rotate_left; (with_reducible assumption)) | ((with_reducible apply Bk.put); rotate_left; (first | (dsimp only; omega))))), by (repeat (first | with_reducible assumption | with_reducible apply Bk.drew | with_reducible apply Bk.alloc | ((with_reducible apply Bk.later); rotate_left; (with_reducible assumption)) | ((with_reducible apply Bk.put); rotate_left; (first | (dsimp only; omega)))))⟩ (fun hHeld => ?_)
      refine wpAnyH_take (i := 0) (v := ?_) (by simp only [List.getElem?_toArray, List.getElem?_cons_succ, List.getElem?_cons_zero]; rfl) (by kernel_rfl) (by kernel_rfl) (by kernel_rfl) (fun _ _ _ h => h) (Or.inl ⟨by rfl, ?_⟩) (by assumption) ?_
      rotate_left
      · intro w hSw; (try dsimp only at hSw); simp only [Bk] at hSw; go_simp; try with_reducible rfl
      try simp only [Act.put, List.setIfInBounds_toArray, List.set_cons_zero, List.set_cons_succ]
      refine wpAnyH_take (i := 1) (v := ?_) (by simp only [List.getElem?_toArray, List.getElem?_cons_succ, List.getElem?_cons_zero]; rfl) (by kernel_rfl) (by kernel_rfl) (by kernel_rfl) (fun _ _ _ h => h) (Or.inl ⟨by rfl, ?_⟩) (by assumption) ?_
      rotate_left
      · intro w hSw; (try dsimp only at hSw); simp only [Bk] at hSw; go_simp; try with_reducible rfl
      try simp only [Act.put, List.setIfInBounds_toArray, List.set_cons_zero, List.set_cons_succ]
      refine wpAnyH_take (i := 2) (v := ?_) (by simp only [List.getElem?_toArray, List.getElem?_cons_succ, List.getElem?_cons_zero]; rfl) (by kernel_rfl) (by kernel_rfl) (by kernel_rfl) (fun _ _ _ h => h) (Or.inl ⟨by rfl, ?_⟩) (by assumption) ?_
      rotate_left
      · intro w hSw; (try dsimp only at hSw); simp only [Bk] at hSw; go_simp; try with_reducible rfl
      try simp only [Act.put, List.setIfInBounds_toArray, List.set_cons_zero, List.set_cons_succ]
      refine wpAnyH_take (i := 4) (v := ?_) (by simp only [List.getElem?_toArray, List.getElem?_cons_succ, List.getElem?_cons_zero]; rfl) (by kernel_rfl) (by kernel_rfl) (by kernel_rfl) (fun _ _ _ h => h) (Or.inl ⟨by rfl, ?_⟩) (by assumption) ?_
      rotate_left
      · intro w hSw; (try dsimp only at hSw); simp only [Bk] at hSw; go_simp; try with_reducible rfl
      try simp only [Act.put, List.setIfInBounds_toArray, List.set_cons_zero, List.set_cons_succ]
      refine wpAnyH_take (i := 5) (v := ?_) (by simp only [List.getElem?_toArray, List.getElem?_cons_succ, List.getElem?_cons_zero]; rfl) (by kernel_rfl) (by kernel_rfl) (by kernel_rfl) (fun _ _ _ h => h) (Or.inl ⟨by rfl, ?_⟩) (by assumption) ?_
      rotate_left
      · intro w hSw; (try dsimp only at hSw); simp only [Bk] at hSw; go_simp; try with_reducible rfl
      try simp only [Act.put, List.setIfInBounds_toArray, List.set_cons_zero, List.set_cons_succ]
      refine wpAnyH_take (i := 6) (v := ?_) (by simp only [List.getElem?_toArray, List.getElem?_cons_succ, List.getElem?_cons_zero]; rfl) (by kernel_rfl) (by kernel_rfl) (by kernel_rfl) (fun _ _ _ h => h) (Or.inl ⟨by rfl, ?_⟩) (by assumption) ?_
      rotate_left
      · intro w hSw; (try dsimp only at hSw); simp only [Bk] at hSw; go_simp; try with_reducible rfl
      try simp only [Act.put, List.setIfInBounds_toArray, List.set_cons_zero, List.set_cons_succ]
      refine wpAnyH_ready (rs := [3, 8, 9]) (by kernel_rfl) (by simp) ?_
      refine AllReadyH.cons rfl (fun K hK => ?_) ?_
      · have hOld := hHeld; clear hHeld
        have B0 := hOld.1
        have B1 := hOld.2.1
        have B2 := hOld.2.2.1
        have B3 := hOld.2.2.2
        go_simp
        (go_at_call 21; (with_reducible refine (k2 _).mono ?_); rintro e wz1 ⟨rfl, hR⟩)
        have hzR := hR.size
        (try simp at hzR)
        have HB := below_step (W := _) (by (repeat (first | with_reducible assumption | with_reducible exact Below.refl _ _ | ((with_reducible refine Below.setCell ?_ ?_ _); rotate_left; (first | exact Nat.le_refl _ | (dsimp only; omega) | (simp; done) | (simp; omega))) | with_reducible refine below_alloc ?_ _ | with_reducible apply below_drewN | with_reducible apply Below.drew | with_reducible refine below_step ?_ (by assumption)))) hR
        (try go_wp2_with (fail))
        refine hK.out _ _ ⟨by (repeat (first | with_reducible assumption | with_reducible apply Bk.drew | with_reducible apply Bk.alloc | ((with_reducible apply Bk.later); rotate_left; (with_reducible assumption)) | ((with_reducible apply Bk.put); rotate_left; (first | (dsimp only; omega))))), by (repeat (first | with_reducible assumption | with_reducible apply Bk.drew | with_reducible apply Bk.alloc | ((with_reducible apply Bk.later); rotate_left; (with_reducible assumption)) | ((with_reducible apply Bk.put); rotate_left; (first | (dsimp only; omega))))), by (repeat (first | with_reducible assumption | with_reducible apply Bk.drew | with_reducible apply Bk.alloc | ((with_reducible apply Bk.later); rotate_left; (with_reducible assumption)) | ((with_reducible apply Bk.put); rotate_left; (first | (dsimp only; omega))))), by (repeat (first | with_reducible assumption | with_reducible apply Bk.drew | with_reducible apply Bk.alloc | ((with_reducible apply Bk.later); rotate_left; (with_reducible assumption)) | ((with_reducible apply Bk.put); rotate_left; (first | (dsimp only; omega)))))⟩ (fun hHeld => ?_)
        clear hK K hOld B0 B1 B2 B3
        try simp only [Act.put, List.setIfInBounds_toArray, List.set_cons_zero, List.set_cons_succ]
        refine wpAnyH_ready (rs := [7, 8, 9]) (by kernel_rfl) (by simp) ?_
        refine AllReadyH.cons rfl (fun K hK => ?_) ?_
        · have hOld := hHeld; clear hHeld
          have B0 := hOld.1
          have B1 := hOld.2.1
          have B2 := hOld.2.2.1
          have B3 := hOld.2.2.2
          go_simp
          (go_at_call 21; (with_reducible refine (k3 _).mono ?_); rintro e wz2 ⟨rfl, hR⟩)
          have hzR := hR.size
          (try simp at hzR)
          have HB := below_step (W := _) (by (repeat (first | with_reducible assumption | with_reducible exact Below.refl _ _ | ((with_reducible refine Below.setCell ?_ ?_ _); rotate_left; (first | exact Nat.le_refl _ | (dsimp only; omega) | (simp; done) | (simp; omega))) | with_reducible refine below_alloc ?_ _ | with_reducible apply below_drewN | with_reducible apply Below.drew | with_reducible refine below_step ?_ (by assumption)))) hR
          (try go_wp2_with (fail))
          refine hK.out _ _ ⟨by (repeat (first | with_reducible assumption | with_reducible apply Bk.drew | with_reducible apply Bk.alloc | ((with_reducible apply Bk.later); rotate_left; (with_reducible assumption)) | ((with_reducible apply Bk.put); rotate_left; (first | (dsimp only; omega))))), by (repeat (first | with_reducible assumption | with_reducible apply Bk.drew | with_reducible apply Bk.alloc | ((with_reducible apply Bk.later); rotate_left; (with_reducible assumption)) | ((with_reducible apply Bk.put); rotate_left; (first | (dsimp only; omega))))), by (repeat (first | with_reducible assumption | with_reducible apply Bk.drew | with_reducible apply Bk.alloc | ((with_reducible apply Bk.later); rotate_left; (with_reducible assumption)) | ((with_reducible apply Bk.put); rotate_left; (first | (dsimp only; omega))))), by (repeat (first | with_reducible assumption | with_reducible apply Bk.drew | with_reducible apply Bk.alloc | ((with_reducible apply Bk.later); rotate_left; (with_reducible assumption)) | ((with_reducible apply Bk.put); rotate_left; (first | (dsimp only; omega)))))⟩ (fun hHeld => ?_)
          clear hK K hOld B0 B1 B2 B3
          try simp only [Act.put, List.setIfInBounds_toArray, List.set_cons_zero, List.set_cons_succ]
          refine wpAnyH_ready (rs := [8, 9]) (by kernel_rfl) (by simp) ?_
          refine AllReadyH.cons rfl (fun K hK => ?_) ?_
          · have hOld := hHeld; clear hHeld
            have B0 := hOld.1
            have B1 := hOld.2.1
            have B2 := hOld.2.2.1
            have B3 := hOld.2.2.2
            go_simp
            refine hK.out _ _ ⟨by (repeat (first | with_reducible assumption | with_reducible apply Bk.drew | with_reducible apply Bk.alloc | ((with_reducible apply Bk.later); rotate_left; (with_reducible assumption)) | ((with_reducible apply Bk.put); rotate_left; (first | (dsimp only; omega))))), by (repeat (first | with_reducible assumption | with_reducible apply Bk.drew | with_reducible apply Bk.alloc | ((with_reducible apply Bk.later); rotate_left; (with_reducible assumption)) | ((with_reducible apply Bk.put); rotate_left; (first | (dsimp only; omega))))), by (repeat (first | with_reducible assumption | with_reducible apply Bk.drew | with_reducible apply Bk.alloc | ((with_reducible apply Bk.later); rotate_left; (with_reducible assumption)) | ((with_reducible apply Bk.put); rotate_left; (first | (dsimp only; omega))))), by (repeat (first | with_reducible assumption | with_reducible apply Bk.drew | with_reducible apply Bk.alloc | ((with_reducible apply Bk.later); rotate_left; (with_reducible assumption)) | ((with_reducible apply Bk.put); rotate_left; (first | (dsimp only; omega)))))⟩ (fun hHeld => ?_)
            clear hK K hOld B0 B1 B2 B3
            try simp only [Act.put, List.setIfInBounds_toArray, List.set_cons_zero, List.set_cons_succ]
            refine wpAnyH_ready (rs := [9]) (by kernel_rfl) (by simp) ?_
            refine AllReadyH.cons rfl (fun K hK => ?_) ?_
            · have hOld := hHeld; clear hHeld
              have B0 := hOld.1
              have B1 := hOld.2.1
              have B2 := hOld.2.2.1
              have B3 := hOld.2.2.2
              go_simp
              refine hK.out _ _ ⟨by (repeat (first | with_reducible assumption | with_reducible apply Bk.drew | with_reducible apply Bk.alloc | ((with_reducible apply Bk.later); rotate_left; (with_reducible assumption)) | ((with_reducible apply Bk.put); rotate_left; (first | (dsimp only; omega))))), by (repeat (first | with_reducible assumption | with_reducible apply Bk.drew | with_reducible apply Bk.alloc | ((with_reducible apply Bk.later); rotate_left; (with_reducible assumption)) | ((with_reducible apply Bk.put); rotate_left; (first | (dsimp only; omega))))), by (repeat (first | with_reducible assumption | with_reducible apply Bk.drew | with_reducible apply Bk.alloc | ((with_reducible apply Bk.later); rotate_left; (with_reducible assumption)) | ((with_reducible apply Bk.put); rotate_left; (first | (dsimp only; omega))))), by (repeat (first | with_reducible assumption | with_reducible apply Bk.drew | with_reducible apply Bk.alloc | ((with_reducible apply Bk.later); rotate_left; (with_reducible assumption)) | ((with_reducible apply Bk.put); rotate_left; (first | (dsimp only; omega)))))⟩ (fun hHeld => ?_)
              clear hK K hOld B0 B1 B2 B3
              try simp only [Act.put, List.setIfInBounds_toArray, List.set_cons_zero, List.set_cons_succ]
              refine wpAnyH_ready (rs := [10]) (by kernel_rfl) (by simp) ?_
              refine AllReadyH.cons rfl (fun K hK => ?_) ?_
              · have hOld := hHeld; clear hHeld
                have B0 := hOld.1
                have B1 := hOld.2.1
                have B2 := hOld.2.2.1
                have B3 := hOld.2.2.2
                have G0 : Bk (wz2.heap.size) 0 [.int .i64 0, .int .u64 0] (((wz2).alloc (Obj.cells #[.int .i64 0, .int .u64 0] 41)).alloc (Obj.cells #[.int .i64 0, .int .u64 0] 41)) := by first | (simp [Bk, go_sem]; done) | (repeat (first | with_reducible assumption | with_reducible apply Bk.drew | with_reducible apply Bk.alloc | ((with_reducible apply Bk.later); rotate_left; (with_reducible assumption)) | ((with_reducible apply Bk.put); rotate_left; (first | (dsimp only; omega)))))
                simp only [Bk] at G0
                have G1 : Bk (wz2.heap.size + 1) 0 [.int .i64 0, .int .u64 0] (((wz2).alloc (Obj.cells #[.int .i64 0, .int .u64 0] 41)).alloc (Obj.cells #[.int .i64 0, .int .u64 0] 41)) := by first | (simp [Bk, go_sem]; done) | (repeat (first | with_reducible assumption | with_reducible apply Bk.drew | with_reducible apply Bk.alloc | ((with_reducible apply Bk.later); rotate_left; (with_reducible assumption)) | ((with_reducible apply Bk.put); rotate_left; (first | (dsimp only; omega)))))
                simp only [Bk] at G1
                have na01 : wz2.heap.size ≠ wz2.heap.size + 1 := by omega
                have nb01 := na01.symm
                go_simp
                refine hK.out _ _ ⟨by (repeat (first | with_reducible assumption | with_reducible apply Bk.drew | with_reducible apply Bk.alloc | ((with_reducible apply Bk.later); rotate_left; (with_reducible assumption)) | ((with_reducible apply Bk.put); rotate_left; (first | (dsimp only; omega))))), by (repeat (first | with_reducible assumption | with_reducible apply Bk.drew | with_reducible apply Bk.alloc | ((with_reducible apply Bk.later); rotate_left; (with_reducible assumption)) | ((with_reducible apply Bk.put); rotate_left; (first | (dsimp only; omega))))), by (repeat (first | with_reducible assumption | with_reducible apply Bk.drew | with_reducible apply Bk.alloc | ((with_reducible apply Bk.later); rotate_left; (with_reducible assumption)) | ((with_reducible apply Bk.put); rotate_left; (first | (dsimp only; omega))))), by (repeat (first | with_reducible assumption | with_reducible apply Bk.drew | with_reducible apply Bk.alloc | ((with_reducible apply Bk.later); rotate_left; (with_reducible assumption)) | ((with_reducible apply Bk.put); rotate_left; (first | (dsimp only; omega)))))⟩ (fun hHeld => ?_)
                clear hK K hOld B0 B1 B2 B3
                try simp only [Act.put, List.setIfInBounds_toArray, List.set_cons_zero, List.set_cons_succ]
                refine wpAnyH_ready (rs := [11]) (by kernel_rfl) (by simp) ?_
                refine AllReadyH.cons rfl (fun K hK => ?_) ?_
                · have hOld := hHeld; clear hHeld
                  have B0 := hOld.1
                  have B1 := hOld.2.1
                  have B2 := hOld.2.2.1
                  have B3 := hOld.2.2.2
                  go_simp
                  refine hK.out _ _ ⟨by (repeat (first | with_reducible assumption | with_reducible apply Bk.drew | with_reducible apply Bk.alloc | ((with_reducible apply Bk.later); rotate_left; (with_reducible assumption)) | ((with_reducible apply Bk.put); rotate_left; (first | (dsimp only; omega))))), by (repeat (first | with_reducible assumption | with_reducible apply Bk.drew | with_reducible apply Bk.alloc | ((with_reducible apply Bk.later); rotate_left; (with_reducible assumption)) | ((with_reducible apply Bk.put); rotate_left; (first | (dsimp only; omega))))), by (repeat (first | with_reducible assumption | with_reducible apply Bk.drew | with_reducible apply Bk.alloc | ((with_reducible apply Bk.later); rotate_left; (with_reducible assumption)) | ((with_reducible apply Bk.put); rotate_left; (first | (dsimp only; omega))))), by (repeat (first | with_reducible assumption | with_reducible apply Bk.drew | with_reducible apply Bk.alloc | ((with_reducible apply Bk.later); rotate_left; (with_reducible assumption)) | ((with_reducible apply Bk.put); rotate_left; (first | (dsimp only; omega)))))⟩ (fun hHeld => ?_)
                  clear hK K hOld B0 B1 B2 B3
                  try simp only [Act.put, List.setIfInBounds_toArray, List.set_cons_zero, List.set_cons_succ]
                  refine wpAnyH_done (by kernel_rfl) ?_ _
                  (try refine NoPanic.normal ?_)
                  go_wp2
                  go_meet
                  exact ⟨_, _, rfl, rfl, by (repeat (first | with_reducible assumption | with_reducible exact Below.refl _ _ | ((with_reducible refine Below.setCell ?_ ?_ _); rotate_left; (first | exact Nat.le_refl _ | (dsimp only; omega) | (simp; done) | (simp; omega))) | with_reducible refine below_alloc ?_ _ | with_reducible apply below_drewN | with_reducible apply Below.drew | with_reducible refine below_step ?_ (by assumption))), ⟨by simp (maxDischargeDepth := 8) [Bk, go_sem, *], by simp (maxDischargeDepth := 8) [Bk, go_sem, *]⟩, hHeld⟩
                exact AllReadyH.nil
              exact AllReadyH.nil
            exact AllReadyH.nil
          refine AllReadyH.cons rfl (fun K hK => ?_) ?_
          · have hOld := hHeld; clear hHeld
            have B0 := hOld.1
            have B1 := hOld.2.1
            have B2 := hOld.2.2.1
            have B3 := hOld.2.2.2
            go_simp
            refine hK.out _ _ ⟨by (repeat (first | with_reducible assumption | with_reducible apply Bk.drew | with_reducible apply Bk.alloc | ((with_reducible apply Bk.later); rotate_left; (with_reducible assumption)) | ((with_reducible apply Bk.put); rotate_left; (first | (dsimp only; omega))))), by (repeat (first | with_reducible assumption | with_reducible apply Bk.drew | with_reducible apply Bk.alloc | ((with_reducible apply Bk.later); rotate_left; (with_reducible assumption)) | ((with_reducible apply Bk.put); rotate_left; (first | (dsimp only; omega))))), by (repeat (first | with_reducible assumption | with_reducible apply Bk.drew | with_reducible apply Bk.alloc | ((with_reducible apply Bk.later); rotate_left; (with_reducible assumption)) | ((with_reducible apply Bk.put); rotate_left; (first | (dsimp only; omega))))), by (repeat (first | with_reducible assumption | with_reducible apply Bk.drew | with_reducible apply Bk.alloc | ((with_reducible apply Bk.later); rotate_left; (with_reducible assumption)) | ((with_reducible apply Bk.put); rotate_left; (first | (dsimp only; omega)))))⟩ (fun hHeld => ?_)
            clear hK K hOld B0 B1 B2 B3
            try simp only [Act.put, List.setIfInBounds_toArray, List.set_cons_zero, List.set_cons_succ]
            refine wpAnyH_ready (rs := [8]) (by kernel_rfl) (by simp) ?_
            refine AllReadyH.cons rfl (fun K hK => ?_) ?_
            · have hOld := hHeld; clear hHeld
              have B0 := hOld.1
              have B1 := hOld.2.1
              have B2 := hOld.2.2.1
              have B3 := hOld.2.2.2
              go_simp
              refine hK.out _ _ ⟨by (repeat (first | with_reducible assumption | with_reducible apply Bk.drew | with_reducible apply Bk.alloc | ((with_reducible apply Bk.later); rotate_left; (with_reducible assumption)) | ((with_reducible apply Bk.put); rotate_left; (first | (dsimp only; omega))))), by (repeat (first | with_reducible assumption | with_reducible apply Bk.drew | with_reducible apply Bk.alloc | ((with_reducible apply Bk.later); rotate_left; (with_reducible assumption)) | ((with_reducible apply Bk.put); rotate_left; (first | (dsimp only; omega))))), by (repeat (first | with_reducible assumption | with_reducible apply Bk.drew | with_reducible apply Bk.alloc | ((with_reducible apply Bk.later); rotate_left; (with_reducible assumption)) | ((with_reducible apply Bk.put); rotate_left; (first | (dsimp only; omega))))), by (repeat (first | with_reducible assumption | with_reducible apply Bk.drew | with_reducible apply Bk.alloc | ((with_reducible apply Bk.later); rotate_left; (with_reducible assumption)) | ((with_reducible apply Bk.put); rotate_left; (first | (dsimp only; omega)))))⟩ (fun hHeld => ?_)
              clear hK K hOld B0 B1 B2 B3
              try simp only [Act.put, List.setIfInBounds_toArray, List.set_cons_zero, List.set_cons_succ]
              refine wpAnyH_ready (rs := [10]) (by kernel_rfl) (by simp) ?_
              refine AllReadyH.cons rfl (fun K hK => ?_) ?_
              · have hOld := hHeld; clear hHeld
                have B0 := hOld.1
                have B1 := hOld.2.1
                have B2 := hOld.2.2.1
                have B3 := hOld.2.2.2
                have G0 : Bk (wz2.heap.size + 1) 0 [.int .i64 0, .int .u64 0] (((wz2).alloc (Obj.cells #[.int .i64 0, .int .u64 0] 41)).alloc (Obj.cells #[.int .i64 0, .int .u64 0] 41)) := by first | (simp [Bk, go_sem]; done) | (repeat (first | with_reducible assumption | with_reducible apply Bk.drew | with_reducible apply Bk.alloc | ((with_reducible apply Bk.later); rotate_left; (with_reducible assumption)) | ((with_reducible apply Bk.put); rotate_left; (first | (dsimp only; omega)))))
                simp only [Bk] at G0
                have G1 : Bk (wz2.heap.size) 0 [.int .i64 0, .int .u64 0] (((wz2).alloc (Obj.cells #[.int .i64 0, .int .u64 0] 41)).alloc (Obj.cells #[.int .i64 0, .int .u64 0] 41)) := by first | (simp [Bk, go_sem]; done) | (repeat (first | with_reducible assumption | with_reducible apply Bk.drew | with_reducible apply Bk.alloc | ((with_reducible apply Bk.later); rotate_left; (with_reducible assumption)) | ((with_reducible apply Bk.put); rotate_left; (first | (dsimp only; omega)))))
                simp only [Bk] at G1
                have na01 : wz2.heap.size + 1 ≠ wz2.heap.size := by omega
                have nb01 := na01.symm
                go_simp
                refine hK.out _ _ ⟨by (repeat (first | with_reducible assumption | with_reducible apply Bk.drew | with_reducible apply Bk.alloc | ((with_reducible apply Bk.later); rotate_left; (with_reducible assumption)) | ((with_reducible apply Bk.put); rotate_left; (first | (dsimp only; omega))))), by (repeat (first | with_reducible assumption | with_reducible apply Bk.drew | with_reducible apply Bk.alloc | ((with_reducible apply Bk.later); rotate_left; (with_reducible assumption)) | ((with_reducible apply Bk.put); rotate_left; (first | (dsimp only; omega))))), by (repeat (first | with_reducible assumption | with_reducible apply Bk.drew | with_reducible apply Bk.alloc | ((with_reducible apply Bk.later); rotate_left; (with_reducible assumption)) | ((with_reducible apply Bk.put); rotate_left; (first | (dsimp only; omega))))), by (repeat (first | with_reducible assumption | with_reducible apply Bk.drew | with_reducible apply Bk.alloc | ((with_reducible apply Bk.later); rotate_left; (with_reducible assumption)) | ((with_reducible apply Bk.put); rotate_left; (first | (dsimp only; omega)))))⟩ (fun hHeld => ?_)
                clear hK K hOld B0 B1 B2 B3
                try simp only [Act.put, List.setIfInBounds_toArray, List.set_cons_zero, List.set_cons_succ]
                refine wpAnyH_ready (rs := [11]) (by kernel_rfl) (by simp) ?_
                refine AllReadyH.cons rfl (fun K hK => ?_) ?_
                · have hOld := hHeld; clear hHeld
                  have B0 := hOld.1
                  have B1 := hOld.2.1
                  have B2 := hOld.2.2.1
                  have B3 := hOld.2.2.2
                  go_simp
                  refine hK.out _ _ ⟨by (repeat (first | with_reducible assumption | with_reducible apply Bk.drew | with_reducible apply Bk.alloc | ((with_reducible apply Bk.later); rotate_left; (with_reducible assumption)) | ((with_reducible apply Bk.put); rotate_left; (first | (dsimp only; omega))))), by (repeat (first | with_reducible assumption | with_reducible apply Bk.drew | with_reducible apply Bk.alloc | ((with_reducible apply Bk.later); rotate_left; (with_reducible assumption)) | ((with_reducible apply Bk.put); rotate_left; (first | (dsimp only; omega))))), by (repeat (first | with_reducible assumption | with_reducible apply Bk.drew | with_reducible apply Bk.alloc | ((with_reducible apply Bk.later); rotate_left; (with_reducible assumption)) | ((with_reducible apply Bk.put); rotate_left; (first | (dsimp only; omega))))), by (repeat (first | with_reducible assumption | with_reducible apply Bk.drew | with_reducible apply Bk.alloc | ((with_reducible apply Bk.later); rotate_left; (with_reducible assumption)) | ((with_reducible apply Bk.put); rotate_left; (first | (dsimp only; omega)))))⟩ (fun hHeld => ?_)
                  clear hK K hOld B0 B1 B2 B3
                  try simp only [Act.put, List.setIfInBounds_toArray, List.set_cons_zero, List.set_cons_succ]
                  refine wpAnyH_done (by kernel_rfl) ?_ _
                  (try refine NoPanic.normal ?_)
                  go_wp2
                  go_meet
                  exact ⟨_, _, rfl, rfl, by (repeat (first | with_reducible assumption | with_reducible exact Below.refl _ _ | ((with_reducible refine Below.setCell ?_ ?_ _); rotate_left; (first | exact Nat.le_refl _ | (dsimp only; omega) | (simp; done) | (simp; omega))) | with_reducible refine below_alloc ?_ _ | with_reducible apply below_drewN | with_reducible apply Below.drew | with_reducible refine below_step ?_ (by assumption))), ⟨by simp (maxDischargeDepth := 8) [Bk, go_sem, *], by simp (maxDischargeDepth := 8) [Bk, go_sem, *]⟩, hHeld⟩
                exact AllReadyH.nil
              exact AllReadyH.nil
            exact AllReadyH.nil
          exact AllReadyH.nil
        refine AllReadyH.cons rfl (fun K hK => ?_) ?_
        · have hOld := hHeld; clear hHeld
          have B0 := hOld.1
          have B1 := hOld.2.1
          have B2 := hOld.2.2.1
          have B3 := hOld.2.2.2
          go_simp
          refine hK.out _ _ ⟨by (repeat (first | with_reducible assumption | with_reducible apply Bk.drew | with_reducible apply Bk.alloc | ((with_reducible apply Bk.later); rotate_left; (with_reducible assumption)) | ((with_reducible apply Bk.put); rotate_left; (first | (dsimp only; omega))))), by (repeat (first | with_reducible assumption | with_reducible apply Bk.drew | with_reducible apply Bk.alloc | ((with_reducible apply Bk.later); rotate_left; (with_reducible assumption)) | ((with_reducible apply Bk.put); rotate_left; (first | (dsimp only; omega))))), by (repeat (first | with_reducible assumption | with_reducible apply Bk.drew | with_reducible apply Bk.alloc | ((with_reducible apply Bk.later); rotate_left; (with_reducible assumption)) | ((with_reducible apply Bk.put); rotate_left; (first | (dsimp only; omega))))), by (repeat (first | with_reducible assumption | with_reducible apply Bk.drew | with_reducible apply Bk.alloc | ((with_reducible apply Bk.later); rotate_left; (with_reducible assumption)) | ((with_reducible apply Bk.put); rotate_left; (first | (dsimp only; omega)))))⟩ (fun hHeld => ?_)
          clear hK K hOld B0 B1 B2 B3
          try simp only [Act.put, List.setIfInBounds_toArray, List.set_cons_zero, List.set_cons_succ]
          refine wpAnyH_ready (rs := [7, 9]) (by kernel_rfl) (by simp) ?_
          refine AllReadyH.cons rfl (fun K hK => ?_) ?_
          · have hOld := hHeld; clear hHeld
            have B0 := hOld.1
            have B1 := hOld.2.1
            have B2 := hOld.2.2.1
            have B3 := hOld.2.2.2
            go_simp
            (go_at_call 21; (with_reducible refine (k3 _).mono ?_); rintro e wz3 ⟨rfl, hR⟩)
            have hzR := hR.size
            (try simp at hzR)
            have GR0 : Bk (wz1.heap.size) 0 [.int .i64 0, .int .u64 0] wz3 := Bk.later (by first | (simp [Bk, go_sem]; done) | (repeat (first | with_reducible assumption | with_reducible apply Bk.drew | with_reducible apply Bk.alloc | ((with_reducible apply Bk.later); rotate_left; (with_reducible assumption)) | ((with_reducible apply Bk.put); rotate_left; (first | (dsimp only; omega)))))) hR
            have GS0 := GR0; simp only [Bk] at GS0
            have nl0 : wz1.heap.size < wz3.heap.size := by omega
            have HB := below_step (W := _) (by (repeat (first | with_reducible assumption | with_reducible exact Below.refl _ _ | ((with_reducible refine Below.setCell ?_ ?_ _); rotate_left; (first | exact Nat.le_refl _ | (dsimp only; omega) | (simp; done) | (simp; omega))) | with_reducible refine below_alloc ?_ _ | with_reducible apply below_drewN | with_reducible apply Below.drew | with_reducible refine below_step ?_ (by assumption)))) hR
            (try go_wp2_with (fail))
            refine hK.out _ _ ⟨by (repeat (first | with_reducible assumption | with_reducible apply Bk.drew | with_reducible apply Bk.alloc | ((with_reducible apply Bk.later); rotate_left; (with_reducible assumption)) | ((with_reducible apply Bk.put); rotate_left; (first | (dsimp only; omega))))), by (repeat (first | with_reducible assumption | with_reducible apply Bk.drew | with_reducible apply Bk.alloc | ((with_reducible apply Bk.later); rotate_left; (with_reducible assumption)) | ((with_reducible apply Bk.put); rotate_left; (first | (dsimp only; omega))))), by (repeat (first | with_reducible assumption | with_reducible apply Bk.drew | with_reducible apply Bk.alloc | ((with_reducible apply Bk.later); rotate_left; (with_reducible assumption)) | ((with_reducible apply Bk.put); rotate_left; (first | (dsimp only; omega))))), by (repeat (first | with_reducible assumption | with_reducible apply Bk.drew | with_reducible apply Bk.alloc | ((with_reducible apply Bk.later); rotate_left; (with_reducible assumption)) | ((with_reducible apply Bk.put); rotate_left; (first | (dsimp only; omega)))))⟩ (fun hHeld => ?_)
            clear hK K hOld B0 B1 B2 B3
            try simp only [Act.put, List.setIfInBounds_toArray, List.set_cons_zero, List.set_cons_succ]
            refine wpAnyH_ready (rs := [9]) (by kernel_rfl) (by simp) ?_
            refine AllReadyH.cons rfl (fun K hK => ?_) ?_
            · have hOld := hHeld; clear hHeld
              have B0 := hOld.1
              have B1 := hOld.2.1
              have B2 := hOld.2.2.1
              have B3 := hOld.2.2.2
              go_simp
              refine hK.out _ _ ⟨by (repeat (first | with_reducible assumption | with_reducible apply Bk.drew | with_reducible apply Bk.alloc | ((with_reducible apply Bk.later); rotate_left; (with_reducible assumption)) | ((with_reducible apply Bk.put); rotate_left; (first | (dsimp only; omega))))), by (repeat (first | with_reducible assumption | with_reducible apply Bk.drew | with_reducible apply Bk.alloc | ((with_reducible apply Bk.later); rotate_left; (with_reducible assumption)) | ((with_reducible apply Bk.put); rotate_left; (first | (dsimp only; omega))))), by (repeat (first | with_reducible assumption | with_reducible apply Bk.drew | with_reducible apply Bk.alloc | ((with_reducible apply Bk.later); rotate_left; (with_reducible assumption)) | ((with_reducible apply Bk.put); rotate_left; (first | (dsimp only; omega))))), by (repeat (first | with_reducible assumption | with_reducible apply Bk.drew | with_reducible apply Bk.alloc | ((with_reducible apply Bk.later); rotate_left; (with_reducible assumption)) | ((with_reducible apply Bk.put); rotate_left; (first | (dsimp only; omega)))))⟩ (fun hHeld => ?_)
              clear hK K hOld B0 B1 B2 B3
              try simp only [Act.put, List.setIfInBounds_toArray, List.set_cons_zero, List.set_cons_succ]
              refine wpAnyH_ready (rs := [10]) (by kernel_rfl) (by simp) ?_
              refine AllReadyH.cons rfl (fun K hK => ?_) ?_
              · have hOld := hHeld; clear hHeld
                have B0 := hOld.1
                have B1 := hOld.2.1
                have B2 := hOld.2.2.1
                have B3 := hOld.2.2.2
                have G0 : Bk (wz1.heap.size) 0 [.int .i64 0, .int .u64 0] ((wz3).alloc (Obj.cells #[.int .i64 0, .int .u64 0] 41)) := by first | (simp [Bk, go_sem]; done) | (repeat (first | with_reducible assumption | with_reducible apply Bk.drew | with_reducible apply Bk.alloc | ((with_reducible apply Bk.later); rotate_left; (with_reducible assumption)) | ((with_reducible apply Bk.put); rotate_left; (first | (dsimp only; omega)))))
                simp only [Bk] at G0
                have G1 : Bk (wz3.heap.size) 0 [.int .i64 0, .int .u64 0] ((wz3).alloc (Obj.cells #[.int .i64 0, .int .u64 0] 41)) := by first | (simp [Bk, go_sem]; done) | (repeat (first | with_reducible assumption | with_reducible apply Bk.drew | with_reducible apply Bk.alloc | ((with_reducible apply Bk.later); rotate_left; (with_reducible assumption)) | ((with_reducible apply Bk.put); rotate_left; (first | (dsimp only; omega)))))
                simp only [Bk] at G1
                have na01 : wz1.heap.size ≠ wz3.heap.size := by omega
                have nb01 := na01.symm
                go_simp
                refine hK.out _ _ ⟨by (repeat (first | with_reducible assumption | with_reducible apply Bk.drew | with_reducible apply Bk.alloc | ((with_reducible apply Bk.later); rotate_left; (with_reducible assumption)) | ((with_reducible apply Bk.put); rotate_left; (first | (dsimp only; omega))))), by (repeat (first | with_reducible assumption | with_reducible apply Bk.drew | with_reducible apply Bk.alloc | ((with_reducible apply Bk.later); rotate_left; (with_reducible assumption)) | ((with_reducible apply Bk.put); rotate_left; (first | (dsimp only; omega))))), by (repeat (first | with_reducible assumption | with_reducible apply Bk.drew | with_reducible apply Bk.alloc | ((with_reducible apply Bk.later); rotate_left; (with_reducible assumption)) | ((with_reducible apply Bk.put); rotate_left; (first | (dsimp only; omega))))), by (repeat (first | with_reducible assumption | with_reducible apply Bk.drew | with_reducible apply Bk.alloc | ((with_reducible apply Bk.later); rotate_left; (with_reducible assumption)) | ((with_reducible apply Bk.put); rotate_left; (first | (dsimp only; omega)))))⟩ (fun hHeld => ?_)
                clear hK K hOld B0 B1 B2 B3
                try simp only [Act.put, List.setIfInBounds_toArray, List.set_cons_zero, List.set_cons_succ]
                refine wpAnyH_ready (rs := [11]) (by kernel_rfl) (by simp) ?_
                refine AllReadyH.cons rfl (fun K hK => ?_) ?_
                · have hOld := hHeld; clear hHeld
                  have B0 := hOld.1
                  have B1 := hOld.2.1
                  have B2 := hOld.2.2.1
                  have B3 := hOld.2.2.2
                  go_simp
                  refine hK.out _ _ ⟨by (repeat (first | with_reducible assumption | with_reducible apply Bk.drew | with_reducible apply Bk.alloc | ((with_reducible apply Bk.later); rotate_left; (with_reducible assumption)) | ((with_reducible apply Bk.put); rotate_left; (first | (dsimp only; omega))))), by (repeat (first | with_reducible assumption | with_reducible apply Bk.drew | with_reducible apply Bk.alloc | ((with_reducible apply Bk.later); rotate_left; (with_reducible assumption)) | ((with_reducible apply Bk.put); rotate_left; (first | (dsimp only; omega))))), by (repeat (first | with_reducible assumption | with_reducible apply Bk.drew | with_reducible apply Bk.alloc | ((with_reducible apply Bk.later); rotate_left; (with_reducible assumption)) | ((with_reducible apply Bk.put); rotate_left; (first | (dsimp only; omega))))), by (repeat (first | with_reducible assumption | with_reducible apply Bk.drew | with_reducible apply Bk.alloc | ((with_reducible apply Bk.later); rotate_left; (with_reducible assumption)) | ((with_reducible apply Bk.put); rotate_left; (first | (dsimp only; omega)))))⟩ (fun hHeld => ?_)
                  clear hK K hOld B0 B1 B2 B3
                  try simp only [Act.put, List.setIfInBounds_toArray, List.set_cons_zero, List.set_cons_succ]
                  refine wpAnyH_done (by kernel_rfl) ?_ _
                  (try refine NoPanic.normal ?_)
                  go_wp2
                  go_meet
                  exact ⟨_, _, rfl, rfl, by (repeat (first | with_reducible assumption | with_reducible exact Below.refl _ _ | ((with_reducible refine Below.setCell ?_ ?_ _); rotate_left; (first | exact Nat.le_refl _ | (dsimp only; omega) | (simp; done) | (simp; omega))) | with_reducible refine below_alloc ?_ _ | with_reducible apply below_drewN | with_reducible apply Below.drew | with_reducible refine below_step ?_ (by assumption))), ⟨by simp (maxDischargeDepth := 8) [Bk, go_sem, *], by simp (maxDischargeDepth := 8) [Bk, go_sem, *]⟩, hHeld⟩
                exact AllReadyH.nil
              exact AllReadyH.nil
            exact AllReadyH.nil
          refine AllReadyH.cons rfl (fun K hK => ?_) ?_
          · have hOld := hHeld; clear hHeld
            have B0 := hOld.1
            have B1 := hOld.2.1
            have B2 := hOld.2.2.1
            have B3 := hOld.2.2.2
            go_simp
            refine hK.out _ _ ⟨by (repeat (first | with_reducible assumption | with_reducible apply Bk.drew | with_reducible apply Bk.alloc | ((with_reducible apply Bk.later); rotate_left; (with_reducible assumption)) | ((with_reducible apply Bk.put); rotate_left; (first | (dsimp only; omega))))), by (repeat (first | with_reducible assumption | with_reducible apply Bk.drew | with_reducible apply Bk.alloc | ((with_reducible apply Bk.later); rotate_left; (with_reducible assumption)) | ((with_reducible apply Bk.put); rotate_left; (first | (dsimp only; omega))))), by (repeat (first | with_reducible assumption | with_reducible apply Bk.drew | with_reducible apply Bk.alloc | ((with_reducible apply Bk.later); rotate_left; (with_reducible assumption)) | ((with_reducible apply Bk.put); rotate_left; (first | (dsimp only; omega))))), by (repeat (first | with_reducible assumption | with_reducible apply Bk.drew | with_reducible apply Bk.alloc | ((with_reducible apply Bk.later); rotate_left; (with_reducible assumption)) | ((with_reducible apply Bk.put); rotate_left; (first | (dsimp only; omega)))))⟩ (fun hHeld => ?_)
            clear hK K hOld B0 B1 B2 B3
            try simp only [Act.put, List.setIfInBounds_toArray, List.set_cons_zero, List.set_cons_succ]
            refine wpAnyH_ready (rs := [7]) (by kernel_rfl) (by simp) ?_
            refine AllReadyH.cons rfl (fun K hK => ?_) ?_
            · have hOld := hHeld; clear hHeld
              have B0 := hOld.1
              have B1 := hOld.2.1
              have B2 := hOld.2.2.1
              have B3 := hOld.2.2.2
              go_simp
              (go_at_call 21; (with_reducible refine (k3 _).mono ?_); rintro e wz4 ⟨rfl, hR⟩)
              have hzR := hR.size
              (try simp at hzR)
              have GR0 : Bk (wz1.heap.size) 0 [.int .i64 0, .int .u64 0] wz4 := Bk.later (by first | (simp [Bk, go_sem]; done) | (repeat (first | with_reducible assumption | with_reducible apply Bk.drew | with_reducible apply Bk.alloc | ((with_reducible apply Bk.later); rotate_left; (with_reducible assumption)) | ((with_reducible apply Bk.put); rotate_left; (first | (dsimp only; omega)))))) hR
              have GS0 := GR0; simp only [Bk] at GS0
              have nl0 : wz1.heap.size < wz4.heap.size := by omega
              have GR1 : Bk (wz1.heap.size + 1) 0 [.int .i64 0, .int .u64 0] wz4 := Bk.later (by first | (simp [Bk, go_sem]; done) | (repeat (first | with_reducible assumption | with_reducible apply Bk.drew | with_reducible apply Bk.alloc | ((with_reducible apply Bk.later); rotate_left; (with_reducible assumption)) | ((with_reducible apply Bk.put); rotate_left; (first | (dsimp only; omega)))))) hR
              have GS1 := GR1; simp only [Bk] at GS1
              have nl1 : wz1.heap.size + 1 < wz4.heap.size := by omega
              have HB := below_step (W := _) (by (repeat (first | with_reducible assumption | with_reducible exact Below.refl _ _ | ((with_reducible refine Below.setCell ?_ ?_ _); rotate_left; (first | exact Nat.le_refl _ | (dsimp only; omega) | (simp; done) | (simp; omega))) | with_reducible refine below_alloc ?_ _ | with_reducible apply below_drewN | with_reducible apply Below.drew | with_reducible refine below_step ?_ (by assumption)))) hR
              (try go_wp2_with (fail))
              refine hK.out _ _ ⟨by (repeat (first | with_reducible assumption | with_reducible apply Bk.drew | with_reducible apply Bk.alloc | ((with_reducible apply Bk.later); rotate_left; (with_reducible assumption)) | ((with_reducible apply Bk.put); rotate_left; (first | (dsimp only; omega))))), by (repeat (first | with_reducible assumption | with_reducible apply Bk.drew | with_reducible apply Bk.alloc | ((with_reducible apply Bk.later); rotate_left; (with_reducible assumption)) | ((with_reducible apply Bk.put); rotate_left; (first | (dsimp only; omega))))), by (repeat (first | with_reducible assumption | with_reducible apply Bk.drew | with_reducible apply Bk.alloc | ((with_reducible apply Bk.later); rotate_left; (with_reducible assumption)) | ((with_reducible apply Bk.put); rotate_left; (first | (dsimp only; omega))))), by (repeat (first | with_reducible assumption | with_reducible apply Bk.drew | with_reducible apply Bk.alloc | ((with_reducible apply Bk.later); rotate_left; (with_reducible assumption)) | ((with_reducible apply Bk.put); rotate_left; (first | (dsimp only; omega)))))⟩ (fun hHeld => ?_)
              clear hK K hOld B0 B1 B2 B3
              try simp only [Act.put, List.setIfInBounds_toArray, List.set_cons_zero, List.set_cons_succ]
              refine wpAnyH_ready (rs := [10]) (by kernel_rfl) (by simp) ?_
              refine AllReadyH.cons rfl (fun K hK => ?_) ?_
              · have hOld := hHeld; clear hHeld
                have B0 := hOld.1
                have B1 := hOld.2.1
                have B2 := hOld.2.2.1
                have B3 := hOld.2.2.2
                have G0 : Bk (wz1.heap.size) 0 [.int .i64 0, .int .u64 0] (wz4) := by first | (simp [Bk, go_sem]; done) | (repeat (first | with_reducible assumption | with_reducible apply Bk.drew | with_reducible apply Bk.alloc | ((with_reducible apply Bk.later); rotate_left; (with_reducible assumption)) | ((with_reducible apply Bk.put); rotate_left; (first | (dsimp only; omega)))))
                simp only [Bk] at G0
                have G1 : Bk (wz1.heap.size + 1) 0 [.int .i64 0, .int .u64 0] (wz4) := by first | (simp [Bk, go_sem]; done) | (repeat (first | with_reducible assumption | with_reducible apply Bk.drew | with_reducible apply Bk.alloc | ((with_reducible apply Bk.later); rotate_left; (with_reducible assumption)) | ((with_reducible apply Bk.put); rotate_left; (first | (dsimp only; omega)))))
                simp only [Bk] at G1
                have na01 : wz1.heap.size ≠ wz1.heap.size + 1 := by omega
                have nb01 := na01.symm
                go_simp
                refine hK.out _ _ ⟨by (repeat (first | with_reducible assumption | with_reducible apply Bk.drew | with_reducible apply Bk.alloc | ((with_reducible apply Bk.later); rotate_left; (with_reducible assumption)) | ((with_reducible apply Bk.put); rotate_left; (first | (dsimp only; omega))))), by (repeat (first | with_reducible assumption | with_reducible apply Bk.drew | with_reducible apply Bk.alloc | ((with_reducible apply Bk.later); rotate_left; (with_reducible assumption)) | ((with_reducible apply Bk.put); rotate_left; (first | (dsimp only; omega))))), by (repeat (first | with_reducible assumption | with_reducible apply Bk.drew | with_reducible apply Bk.alloc | ((with_reducible apply Bk.later); rotate_left; (with_reducible assumption)) | ((with_reducible apply Bk.put); rotate_left; (first | (dsimp only; omega))))), by (repeat (first | with_reducible assumption | with_reducible apply Bk.drew | with_reducible apply Bk.alloc | ((with_reducible apply Bk.later); rotate_left; (with_reducible assumption)) | ((with_reducible apply Bk.put); rotate_left; (first | (dsimp only; omega)))))⟩ (fun hHeld => ?_)
                clear hK K hOld B0 B1 B2 B3
                try simp only [Act.put, List.setIfInBounds_toArray, List.set_cons_zero, List.set_cons_succ]
                refine wpAnyH_ready (rs := [11]) (by kernel_rfl) (by simp) ?_
                refine AllReadyH.cons rfl (fun K hK => ?_) ?_
                · have hOld := hHeld; clear hHeld
                  have B0 := hOld.1
                  have B1 := hOld.2.1
                  have B2 := hOld.2.2.1
                  have B3 := hOld.2.2.2
                  go_simp
                  refine hK.out _ _ ⟨by (repeat (first | with_reducible assumption | with_reducible apply Bk.drew | with_reducible apply Bk.alloc | ((with_reducible apply Bk.later); rotate_left; (with_reducible assumption)) | ((with_reducible apply Bk.put); rotate_left; (first | (dsimp only; omega))))), by (repeat (first | with_reducible assumption | with_reducible apply Bk.drew | with_reducible apply Bk.alloc | ((with_reducible apply Bk.later); rotate_left; (with_reducible assumption)) | ((with_reducible apply Bk.put); rotate_left; (first | (dsimp only; omega))))), by (repeat (first | with_reducible assumption | with_reducible apply Bk.drew | with_reducible apply Bk.alloc | ((with_reducible apply Bk.later); rotate_left; (with_reducible assumption)) | ((with_reducible apply Bk.put); rotate_left; (first | (dsimp only; omega))))), by (repeat (first | with_reducible assumption | with_reducible apply Bk.drew | with_reducible apply Bk.alloc | ((with_reducible apply Bk.later); rotate_left; (with_reducible assumption)) | ((with_reducible apply Bk.put); rotate_left; (first | (dsimp only; omega)))))⟩ (fun hHeld => ?_)
                  clear hK K hOld B0 B1 B2 B3
                  try simp only [Act.put, List.setIfInBounds_toArray, List.set_cons_zero, List.set_cons_succ]
                  refine wpAnyH_done (by kernel_rfl) ?_ _
                  (try refine NoPanic.normal ?_)
                  go_wp2
                  go_meet
                  exact ⟨_, _, rfl, rfl, by (repeat (first | with_reducible assumption | with_reducible exact Below.refl _ _ | ((with_reducible refine Below.setCell ?_ ?_ _); rotate_left; (first | exact Nat.le_refl _ | (dsimp only; omega) | (simp; done) | (simp; omega))) | with_reducible refine below_alloc ?_ _ | with_reducible apply below_drewN | with_reducible apply Below.drew | with_reducible refine below_step ?_ (by assumption))), ⟨by simp (maxDischargeDepth := 8) [Bk, go_sem, *], by simp (maxDischargeDepth := 8) [Bk, go_sem, *]⟩, hHeld⟩
                exact AllReadyH.nil
              exact AllReadyH.nil
            exact AllReadyH.nil
          exact AllReadyH.nil
        refine AllReadyH.cons rfl (fun K hK => ?_) ?_
        · have hOld := hHeld; clear hHeld
          have B0 := hOld.1
          have B1 := hOld.2.1
          have B2 := hOld.2.2.1
          have B3 := hOld.2.2.2
          go_simp
          refine hK.out _ _ ⟨by (repeat (first | with_reducible assumption | with_reducible apply Bk.drew | with_reducible apply Bk.alloc | ((with_reducible apply Bk.later); rotate_left; (with_reducible assumption)) | ((with_reducible apply Bk.put); rotate_left; (first | (dsimp only; omega))))), by (repeat (first | with_reducible assumption | with_reducible apply Bk.drew | with_reducible apply Bk.alloc | ((with_reducible apply Bk.later); rotate_left; (with_reducible assumption)) | ((with_reducible apply Bk.put); rotate_left; (first | (dsimp only; omega))))), by (repeat (first | with_reducible assumption | with_reducible apply Bk.drew | with_reducible apply Bk.alloc | ((with_reducible apply Bk.later); rotate_left; (with_reducible assumption)) | ((with_reducible apply Bk.put); rotate_left; (first | (dsimp only; omega))))), by (repeat (first | with_reducible assumption | with_reducible apply Bk.drew | with_reducible apply Bk.alloc | ((with_reducible apply Bk.later); rotate_left; (with_reducible assumption)) | ((with_reducible apply Bk.put); rotate_left; (first | (dsimp only; omega)))))⟩ (fun hHeld => ?_)
          clear hK K hOld B0 B1 B2 B3
          try simp only [Act.put, List.setIfInBounds_toArray, List.set_cons_zero, List.set_cons_succ]
          refine wpAnyH_ready (rs := [7, 8]) (by kernel_rfl) (by simp) ?_
          refine AllReadyH.cons rfl (fun K hK => ?_) ?_
          · have hOld := hHeld; clear hHeld
            have B0 := hOld.1
            have B1 := hOld.2.1
            have B2 := hOld.2.2.1
            have B3 := hOld.2.2.2
            go_simp
            (go_at_call 21; (with_reducible refine (k3 _).mono ?_); rintro e wz5 ⟨rfl, hR⟩)
            have hzR := hR.size
            (try simp at hzR)
            have GR1 : Bk (wz1.heap.size) 0 [.int .i64 0, .int .u64 0] wz5 := Bk.later (by first | (simp [Bk, go_sem]; done) | (repeat (first | with_reducible assumption | with_reducible apply Bk.drew | with_reducible apply Bk.alloc | ((with_reducible apply Bk.later); rotate_left; (with_reducible assumption)) | ((with_reducible apply Bk.put); rotate_left; (first | (dsimp only; omega)))))) hR
            have GS1 := GR1; simp only [Bk] at GS1
            have nl1 : wz1.heap.size < wz5.heap.size := by omega
            have HB := below_step (W := _) (by (repeat (first | with_reducible assumption | with_reducible exact Below.refl _ _ | ((with_reducible refine Below.setCell ?_ ?_ _); rotate_left; (first | exact Nat.le_refl _ | (dsimp only; omega) | (simp; done) | (simp; omega))) | with_reducible refine below_alloc ?_ _ | with_reducible apply below_drewN | with_reducible apply Below.drew | with_reducible refine below_step ?_ (by assumption)))) hR
            (try go_wp2_with (fail))
            refine hK.out _ _ ⟨by (repeat (first | with_reducible assumption | with_reducible apply Bk.drew | with_reducible apply Bk.alloc | ((with_reducible apply Bk.later); rotate_left; (with_reducible assumption)) | ((with_reducible apply Bk.put); rotate_left; (first | (dsimp only; omega))))), by (repeat (first | with_reducible assumption | with_reducible apply Bk.drew | with_reducible apply Bk.alloc | ((with_reducible apply Bk.later); rotate_left; (with_reducible assumption)) | ((with_reducible apply Bk.put); rotate_left; (first | (dsimp only; omega))))), by (repeat (first | with_reducible assumption | with_reducible apply Bk.drew | with_reducible apply Bk.alloc | ((with_reducible apply Bk.later); rotate_left; (with_reducible assumption)) | ((with_reducible apply Bk.put); rotate_left; (first | (dsimp only; omega))))), by (repeat (first | with_reducible assumption | with_reducible apply Bk.drew | with_reducible apply Bk.alloc | ((with_reducible apply Bk.later); rotate_left; (with_reducible assumption)) | ((with_reducible apply Bk.put); rotate_left; (first | (dsimp only; omega)))))⟩ (fun hHeld => ?_)
            clear hK K hOld B0 B1 B2 B3
            try simp only [Act.put, List.setIfInBounds_toArray, List.set_cons_zero, List.set_cons_succ]
            refine wpAnyH_ready (rs := [8]) (by kernel_rfl) (by simp) ?_
            refine AllReadyH.cons rfl (fun K hK => ?_) ?_
            · have hOld := hHeld; clear hHeld
              have B0 := hOld.1
              have B1 := hOld.2.1
              have B2 := hOld.2.2.1
              have B3 := hOld.2.2.2
              go_simp
              refine hK.out _ _ ⟨by (repeat (first | with_reducible assumption | with_reducible apply Bk.drew | with_reducible apply Bk.alloc | ((with_reducible apply Bk.later); rotate_left; (with_reducible assumption)) | ((with_reducible apply Bk.put); rotate_left; (first | (dsimp only; omega))))), by (repeat (first | with_reducible assumption | with_reducible apply Bk.drew | with_reducible apply Bk.alloc | ((with_reducible apply Bk.later); rotate_left; (with_reducible assumption)) | ((with_reducible apply Bk.put); rotate_left; (first | (dsimp only; omega))))), by (repeat (first | with_reducible assumption | with_reducible apply Bk.drew | with_reducible apply Bk.alloc | ((with_reducible apply Bk.later); rotate_left; (with_reducible assumption)) | ((with_reducible apply Bk.put); rotate_left; (first | (dsimp only; omega))))), by (repeat (first | with_reducible assumption | with_reducible apply Bk.drew | with_reducible apply Bk.alloc | ((with_reducible apply Bk.later); rotate_left; (with_reducible assumption)) | ((with_reducible apply Bk.put); rotate_left; (first | (dsimp only; omega)))))⟩ (fun hHeld => ?_)
              clear hK K hOld B0 B1 B2 B3
              try simp only [Act.put, List.setIfInBounds_toArray, List.set_cons_zero, List.set_cons_succ]
              refine wpAnyH_ready (rs := [10]) (by kernel_rfl) (by simp) ?_
              refine AllReadyH.cons rfl (fun K hK => ?_) ?_
              · have hOld := hHeld; clear hHeld
                have B0 := hOld.1
                have B1 := hOld.2.1
                have B2 := hOld.2.2.1
                have B3 := hOld.2.2.2
                have G0 : Bk (wz5.heap.size) 0 [.int .i64 0, .int .u64 0] ((wz5).alloc (Obj.cells #[.int .i64 0, .int .u64 0] 41)) := by first | (simp [Bk, go_sem]; done) | (repeat (first | with_reducible assumption | with_reducible apply Bk.drew | with_reducible apply Bk.alloc | ((with_reducible apply Bk.later); rotate_left; (with_reducible assumption)) | ((with_reducible apply Bk.put); rotate_left; (first | (dsimp only; omega)))))
                simp only [Bk] at G0
                have G1 : Bk (wz1.heap.size) 0 [.int .i64 0, .int .u64 0] ((wz5).alloc (Obj.cells #[.int .i64 0, .int .u64 0] 41)) := by first | (simp [Bk, go_sem]; done) | (repeat (first | with_reducible assumption | with_reducible apply Bk.drew | with_reducible apply Bk.alloc | ((with_reducible apply Bk.later); rotate_left; (with_reducible assumption)) | ((with_reducible apply Bk.put); rotate_left; (first | (dsimp only; omega)))))
                simp only [Bk] at G1
                have na01 : wz5.heap.size ≠ wz1.heap.size := by omega
                have nb01 := na01.symm
                go_simp
                refine hK.out _ _ ⟨by (repeat (first | with_reducible assumption | with_reducible apply Bk.drew | with_reducible apply Bk.alloc | ((with_reducible apply Bk.later); rotate_left; (with_reducible assumption)) | ((with_reducible apply Bk.put); rotate_left; (first | (dsimp only; omega))))), by (repeat (first | with_reducible assumption | with_reducible apply Bk.drew | with_reducible apply Bk.alloc | ((with_reducible apply Bk.later); rotate_left; (with_reducible assumption)) | ((with_reducible apply Bk.put); rotate_left; (first | (dsimp only; omega))))), by (repeat (first | with_reducible assumption | with_reducible apply Bk.drew | with_reducible apply Bk.alloc | ((with_reducible apply Bk.later); rotate_left; (with_reducible assumption)) | ((with_reducible apply Bk.put); rotate_left; (first | (dsimp only; omega))))), by (repeat (first | with_reducible assumption | with_reducible apply Bk.drew | with_reducible apply Bk.alloc | ((with_reducible apply Bk.later); rotate_left; (with_reducible assumption)) | ((with_reducible apply Bk.put); rotate_left; (first | (dsimp only; omega)))))⟩ (fun hHeld => ?_)
                clear hK K hOld B0 B1 B2 B3
                try simp only [Act.put, List.setIfInBounds_toArray, List.set_cons_zero, List.set_cons_succ]
                refine wpAnyH_ready (rs := [11]) (by kernel_rfl) (by simp) ?_
                refine AllReadyH.cons rfl (fun K hK => ?_) ?_
                · have hOld := hHeld; clear hHeld
                  have B0 := hOld.1
                  have B1 := hOld.2.1
                  have B2 := hOld.2.2.1
                  have B3 := hOld.2.2.2
                  go_simp
                  refine hK.out _ _ ⟨by (repeat (first | with_reducible assumption | with_reducible apply Bk.drew | with_reducible apply Bk.alloc | ((with_reducible apply Bk.later); rotate_left; (with_reducible assumption)) | ((with_reducible apply Bk.put); rotate_left; (first | (dsimp only; omega))))), by (repeat (first | with_reducible assumption | with_reducible apply Bk.drew | with_reducible apply Bk.alloc | ((with_reducible apply Bk.later); rotate_left; (with_reducible assumption)) | ((with_reducible apply Bk.put); rotate_left; (first | (dsimp only; omega))))), by (repeat (first | with_reducible assumption | with_reducible apply Bk.drew | with_reducible apply Bk.alloc | ((with_reducible apply Bk.later); rotate_left; (with_reducible assumption)) | ((with_reducible apply Bk.put); rotate_left; (first | (dsimp only; omega))))), by (repeat (first | with_reducible assumption | with_reducible apply Bk.drew | with_reducible apply Bk.alloc | ((with_reducible apply Bk.later); rotate_left; (with_reducible assumption)) | ((with_reducible apply Bk.put); rotate_left; (first | (dsimp only; omega)))))⟩ (fun hHeld => ?_)
                  clear hK K hOld B0 B1 B2 B3
                  try simp only [Act.put, List.setIfInBounds_toArray, List.set_cons_zero, List.set_cons_succ]
                  refine wpAnyH_done (by kernel_rfl) ?_ _
                  (try refine NoPanic.normal ?_)
                  go_wp2
                  go_meet
                  exact ⟨_, _, rfl, rfl, by (repeat (first | with_reducible assumption | with_reducible exact Below.refl _ _ | ((with_reducible refine Below.setCell ?_ ?_ _); rotate_left; (first | exact Nat.le_refl _ | (dsimp only; omega) | (simp; done) | (simp; omega))) | with_reducible refine below_alloc ?_ _ | with_reducible apply below_drewN | with_reducible apply Below.drew | with_reducible refine below_step ?_ (by assumption))), ⟨by simp (maxDischargeDepth := 8) [Bk, go_sem, *], by simp (maxDischargeDepth := 8) [Bk, go_sem, *]⟩, hHeld⟩
                exact AllReadyH.nil
              exact AllReadyH.nil
            exact AllReadyH.nil
          refine AllReadyH.cons rfl (fun K hK => ?_) ?_
          · have hOld := hHeld; clear hHeld
            have B0 := hOld.1
            have B1 := hOld.2.1
            have B2 := hOld.2.2.1
            have B3 := hOld.2.2.2
            go_simp
            refine hK.out _ _ ⟨by (repeat (first | with_reducible assumption | with_reducible apply Bk.drew | with_reducible apply Bk.alloc | ((with_reducible apply Bk.later); rotate_left; (with_reducible assumption)) | ((with_reducible apply Bk.put); rotate_left; (first | (dsimp only; omega))))), by (repeat (first | with_reducible assumption | with_reducible apply Bk.drew | with_reducible apply Bk.alloc | ((with_reducible apply Bk.later); rotate_left; (with_reducible assumption)) | ((with_reducible apply Bk.put); rotate_left; (first | (dsimp only; omega))))), by (repeat (first | with_reducible assumption | with_reducible apply Bk.drew | with_reducible apply Bk.alloc | ((with_reducible apply Bk.later); rotate_left; (with_reducible assumption)) | ((with_reducible apply Bk.put); rotate_left; (first | (dsimp only; omega))))), by (repeat (first | with_reducible assumption | with_reducible apply Bk.drew | with_reducible apply Bk.alloc | ((with_reducible apply Bk.later); rotate_left; (with_reducible assumption)) | ((with_reducible apply Bk.put); rotate_left; (first | (dsimp only; omega)))))⟩ (fun hHeld => ?_)
            clear hK K hOld B0 B1 B2 B3
            try simp only [Act.put, List.setIfInBounds_toArray, List.set_cons_zero, List.set_cons_succ]
            refine wpAnyH_ready (rs := [7]) (by kernel_rfl) (by simp) ?_
            refine AllReadyH.cons rfl (fun K hK => ?_) ?_
            · have hOld := hHeld; clear hHeld
              have B0 := hOld.1
              have B1 := hOld.2.1
              have B2 := hOld.2.2.1
              have B3 := hOld.2.2.2
              go_simp
              (go_at_call 21; (with_reducible refine (k3 _).mono ?_); rintro e wz6 ⟨rfl, hR⟩)
              have hzR := hR.size
              (try simp at hzR)
              have GR0 : Bk (wz1.heap.size + 1) 0 [.int .i64 0, .int .u64 0] wz6 := Bk.later (by first | (simp [Bk, go_sem]; done) | (repeat (first | with_reducible assumption | with_reducible apply Bk.drew | with_reducible apply Bk.alloc | ((with_reducible apply Bk.later); rotate_left; (with_reducible assumption)) | ((with_reducible apply Bk.put); rotate_left; (first | (dsimp only; omega)))))) hR
              have GS0 := GR0; simp only [Bk] at GS0
              have nl0 : wz1.heap.size + 1 < wz6.heap.size := by omega
              have GR1 : Bk (wz1.heap.size) 0 [.int .i64 0, .int .u64 0] wz6 := Bk.later (by first | (simp [Bk, go_sem]; done) | (repeat (first | with_reducible assumption | with_reducible apply Bk.drew | with_reducible apply Bk.alloc | ((with_reducible apply Bk.later); rotate_left; (with_reducible assumption)) | ((with_reducible apply Bk.put); rotate_left; (first | (dsimp only; omega)))))) hR
              have GS1 := GR1; simp only [Bk] at GS1
              have nl1 : wz1.heap.size < wz6.heap.size := by omega
              have HB := below_step (W := _) (by (repeat (first | with_reducible assumption | with_reducible exact Below.refl _ _ | ((with_reducible refine Below.setCell ?_ ?_ _); rotate_left; (first | exact Nat.le_refl _ | (dsimp only; omega) | (simp; done) | (simp; omega))) | with_reducible refine below_alloc ?_ _ | with_reducible apply below_drewN | with_reducible apply Below.drew | with_reducible refine below_step ?_ (by assumption)))) hR
              (try go_wp2_with (fail))
              refine hK.out _ _ ⟨by (repeat (first | with_reducible assumption | with_reducible apply Bk.drew | with_reducible apply Bk.alloc | ((with_reducible apply Bk.later); rotate_left; (with_reducible assumption)) | ((with_reducible apply Bk.put); rotate_left; (first | (dsimp only; omega))))), by (repeat (first | with_reducible assumption | with_reducible apply Bk.drew | with_reducible apply Bk.alloc | ((with_reducible apply Bk.later); rotate_left; (with_reducible assumption)) | ((with_reducible apply Bk.put); rotate_left; (first | (dsimp only; omega))))), by (repeat (first | with_reducible assumption | with_reducible apply Bk.drew | with_reducible apply Bk.alloc | ((with_reducible apply Bk.later); rotate_left; (with_reducible assumption)) | ((with_reducible apply Bk.put); rotate_left; (first | (dsimp only; omega))))), by (repeat (first | with_reducible assumption | with_reducible apply Bk.drew | with_reducible apply Bk.alloc | ((with_reducible apply Bk.later); rotate_left; (with_reducible assumption)) | ((with_reducible apply Bk.put); rotate_left; (first | (dsimp only; omega)))))⟩ (fun hHeld => ?_)
              clear hK K hOld B0 B1 B2 B3
              try simp only [Act.put, List.setIfInBounds_toArray, List.set_cons_zero, List.set_cons_succ]
              refine wpAnyH_ready (rs := [10]) (by kernel_rfl) (by simp) ?_
              refine AllReadyH.cons rfl (fun K hK => ?_) ?_
              · have hOld := hHeld; clear hHeld
                have B0 := hOld.1
                have B1 := hOld.2.1
                have B2 := hOld.2.2.1
                have B3 := hOld.2.2.2
                have G0 : Bk (wz1.heap.size + 1) 0 [.int .i64 0, .int .u64 0] (wz6) := by first | (simp [Bk, go_sem]; done) | (repeat (first | with_reducible assumption | with_reducible apply Bk.drew | with_reducible apply Bk.alloc | ((with_reducible apply Bk.later); rotate_left; (with_reducible assumption)) | ((with_reducible apply Bk.put); rotate_left; (first | (dsimp only; omega)))))
                simp only [Bk] at G0
                have G1 : Bk (wz1.heap.size) 0 [.int .i64 0, .int .u64 0] (wz6) := by first | (simp [Bk, go_sem]; done) | (repeat (first | with_reducible assumption | with_reducible apply Bk.drew | with_reducible apply Bk.alloc | ((with_reducible apply Bk.later); rotate_left; (with_reducible assumption)) | ((with_reducible apply Bk.put); rotate_left; (first | (dsimp only; omega)))))
                simp only [Bk] at G1
                have na01 : wz1.heap.size + 1 ≠ wz1.heap.size := by omega
                have nb01 := na01.symm
                go_simp
                refine hK.out _ _ ⟨by (repeat (first | with_reducible assumption | with_reducible apply Bk.drew | with_reducible apply Bk.alloc | ((with_reducible apply Bk.later); rotate_left; (with_reducible assumption)) | ((with_reducible apply Bk.put); rotate_left; (first | (dsimp only; omega))))), by (repeat (first | with_reducible assumption | with_reducible apply Bk.drew | with_reducible apply Bk.alloc | ((with_reducible apply Bk.later); rotate_left; (with_reducible assumption)) | ((with_reducible apply Bk.put); rotate_left; (first | (dsimp only; omega))))), by (repeat (first | with_reducible assumption | with_reducible apply Bk.drew | with_reducible apply Bk.alloc | ((with_reducible apply Bk.later); rotate_left; (with_reducible assumption)) | ((with_reducible apply Bk.put); rotate_left; (first | (dsimp only; omega))))), by (repeat (first | with_reducible assumption | with_reducible apply Bk.drew | with_reducible apply Bk.alloc | ((with_reducible apply Bk.later); rotate_left; (with_reducible assumption)) | ((with_reducible apply Bk.put); rotate_left; (first | (dsimp only; omega)))))⟩ (fun hHeld => ?_)
                clear hK K hOld B0 B1 B2 B3
                try simp only [Act.put, List.setIfInBounds_toArray, List.set_cons_zero, List.set_cons_succ]
                refine wpAnyH_ready (rs := [11]) (by kernel_rfl) (by simp) ?_
                refine AllReadyH.cons rfl (fun K hK => ?_) ?_
                · have hOld := hHeld; clear hHeld
                  have B0 := hOld.1
                  have B1 := hOld.2.1
                  have B2 := hOld.2.2.1
                  have B3 := hOld.2.2.2
                  go_simp
                  refine hK.out _ _ ⟨by (repeat (first | with_reducible assumption | with_reducible apply Bk.drew | with_reducible apply Bk.alloc | ((with_reducible apply Bk.later); rotate_left; (with_reducible assumption)) | ((with_reducible apply Bk.put); rotate_left; (first | (dsimp only; omega))))), by (repeat (first | with_reducible assumption | with_reducible apply Bk.drew | with_reducible apply Bk.alloc | ((with_reducible apply Bk.later); rotate_left; (with_reducible assumption)) | ((with_reducible apply Bk.put); rotate_left; (first | (dsimp only; omega))))), by (repeat (first | with_reducible assumption | with_reducible apply Bk.drew | with_reducible apply Bk.alloc | ((with_reducible apply Bk.later); rotate_left; (with_reducible assumption)) | ((with_reducible apply Bk.put); rotate_left; (first | (dsimp only; omega))))), by (repeat (first | with_reducible assumption | with_reducible apply Bk.drew | with_reducible apply Bk.alloc | ((with_reducible apply Bk.later); rotate_left; (with_reducible assumption)) | ((with_reducible apply Bk.put); rotate_left; (first | (dsimp only; omega)))))⟩ (fun hHeld => ?_)
                  clear hK K hOld B0 B1 B2 B3
                  try simp only [Act.put, List.setIfInBounds_toArray, List.set_cons_zero, List.set_cons_succ]
                  refine wpAnyH_done (by kernel_rfl) ?_ _
                  (try refine NoPanic.normal ?_)
                  go_wp2
                  go_meet
                  exact ⟨_, _, rfl, rfl, by (repeat (first | with_reducible assumption | with_reducible exact Below.refl _ _ | ((with_reducible refine Below.setCell ?_ ?_ _); rotate_left; (first | exact Nat.le_refl _ | (dsimp only; omega) | (simp; done) | (simp; omega))) | with_reducible refine below_alloc ?_ _ | with_reducible apply below_drewN | with_reducible apply Below.drew | with_reducible refine below_step ?_ (by assumption))), ⟨by simp (maxDischargeDepth := 8) [Bk, go_sem, *], by simp (maxDischargeDepth := 8) [Bk, go_sem, *]⟩, hHeld⟩
                exact AllReadyH.nil
              exact AllReadyH.nil
            exact AllReadyH.nil
          exact AllReadyH.nil
        exact AllReadyH.nil
      refine AllReadyH.cons rfl (fun K hK => ?_) ?_
      · have hOld := hHeld; clear hHeld
        have B0 := hOld.1
        have B1 := hOld.2.1
        have B2 := hOld.2.2.1
        have B3 := hOld.2.2.2
        go_simp
        refine hK.out _ _ ⟨by (repeat (first | with_reducible assumption | with_reducible apply Bk.drew | with_reducible apply Bk.alloc | ((with_reducible apply Bk.later); rotate_left; (with_reducible assumption)) | ((with_reducible apply Bk.put); rotate_left; (first | (dsimp only; omega))))), by (repeat (first | with_reducible assumption | with_reducible apply Bk.drew | with_reducible apply Bk.alloc | ((with_reducible apply Bk.later); rotate_left; (with_reducible assumption)) | ((with_reducible apply Bk.put); rotate_left; (first | (dsimp only; omega))))), by (repeat (first | with_reducible assumption | with_reducible apply Bk.drew | with_reducible apply Bk.alloc | ((with_reducible apply Bk.later); rotate_left; (with_reducible assumption)) | ((with_reducible apply Bk.put); rotate_left; (first | (dsimp only; omega))))), by (repeat (first | with_reducible assumption | with_reducible apply Bk.drew | with_reducible apply Bk.alloc | ((with_reducible apply Bk.later); rotate_left; (with_reducible assumption)) | ((with_reducible apply Bk.put); rotate_left; (first | (dsimp only; omega)))))⟩ (fun hHeld => ?_)
        clear hK K hOld B0 B1 B2 B3
        try simp only [Act.put, List.setIfInBounds_toArray, List.set_cons_zero, List.set_cons_succ]
        refine wpAnyH_ready (rs := [3, 9]) (by kernel_rfl) (by simp) ?_
        refine AllReadyH.cons rfl (fun K hK => ?_) ?_
        · have hOld := hHeld; clear hHeld
          have B0 := hOld.1
          have B1 := hOld.2.1
          have B2 := hOld.2.2.1
          have B3 := hOld.2.2.2
          go_simp
          (go_at_call 21; (with_reducible refine (k2 _).mono ?_); rintro e wz7 ⟨rfl, hR⟩)
          have hzR := hR.size
          (try simp at hzR)
          have GR0 : Bk (w1.heap.size) 0 [.int .i64 0, .int .u64 0] wz7 := Bk.later (by first | (simp [Bk, go_sem]; done) | (repeat (first | with_reducible assumption | with_reducible apply Bk.drew | with_reducible apply Bk.alloc | ((with_reducible apply Bk.later); rotate_left; (with_reducible assumption)) | ((with_reducible apply Bk.put); rotate_left; (first | (dsimp only; omega)))))) hR
          have GS0 := GR0; simp only [Bk] at GS0
          have nl0 : w1.heap.size < wz7.heap.size := by omega
          have HB := below_step (W := _) (by (repeat (first | with_reducible assumption | with_reducible exact Below.refl _ _ | ((with_reducible refine Below.setCell ?_ ?_ _); rotate_left; (first | exact Nat.le_refl _ | (dsimp only; omega) | (simp; done) | (simp; omega))) | with_reducible refine below_alloc ?_ _ | with_reducible apply below_drewN | with_reducible apply Below.drew | with_reducible refine below_step ?_ (by assumption)))) hR
          (try go_wp2_with (fail))
          refine hK.out _ _ ⟨by (repeat (first | with_reducible assumption | with_reducible apply Bk.drew | with_reducible apply Bk.alloc | ((with_reducible apply Bk.later); rotate_left; (with_reducible assumption)) | ((with_reducible apply Bk.put); rotate_left; (first | (dsimp only; omega))))), by (repeat (first | with_reducible assumption | with_reducible apply Bk.drew | with_reducible apply Bk.alloc | ((with_reducible apply Bk.later); rotate_left; (with_reducible assumption)) | ((with_reducible apply Bk.put); rotate_left; (first | (dsimp only; omega))))), by (repeat (first | with_reducible assumption | with_reducible apply Bk.drew | with_reducible apply Bk.alloc | ((with_reducible apply Bk.later); rotate_left; (with_reducible assumption)) | ((with_reducible apply Bk.put); rotate_left; (first | (dsimp only; omega))))), by (repeat (first | with_reducible assumption | with_reducible apply Bk.drew | with_reducible apply Bk.alloc | ((with_reducible apply Bk.later); rotate_left; (with_reducible assumption)) | ((with_reducible apply Bk.put); rotate_left; (first | (dsimp only; omega)))))⟩ (fun hHeld => ?_)
          clear hK K hOld B0 B1 B2 B3
          try simp only [Act.put, List.setIfInBounds_toArray, List.set_cons_zero, List.set_cons_succ]
          refine wpAnyH_ready (rs := [7, 9]) (by kernel_rfl) (by simp) ?_
          refine AllReadyH.cons rfl (fun K hK => ?_) ?_
          · have hOld := hHeld; clear hHeld
            have B0 := hOld.1
            have B1 := hOld.2.1
            have B2 := hOld.2.2.1
            have B3 := hOld.2.2.2
            go_simp
            (go_at_call 21; (with_reducible refine (k3 _).mono ?_); rintro e wz8 ⟨rfl, hR⟩)
            have hzR := hR.size
            (try simp at hzR)
            have GR0 : Bk (w1.heap.size) 0 [.int .i64 0, .int .u64 0] wz8 := Bk.later (by first | (simp [Bk, go_sem]; done) | (repeat (first | with_reducible assumption | with_reducible apply Bk.drew | with_reducible apply Bk.alloc | ((with_reducible apply Bk.later); rotate_left; (with_reducible assumption)) | ((with_reducible apply Bk.put); rotate_left; (first | (dsimp only; omega)))))) hR
            have GS0 := GR0; simp only [Bk] at GS0
            have nl0 : w1.heap.size < wz8.heap.size := by omega
            have HB := below_step (W := _) (by (repeat (first | with_reducible assumption | with_reducible exact Below.refl _ _ | ((with_reducible refine Below.setCell ?_ ?_ _); rotate_left; (first | exact Nat.le_refl _ | (dsimp only; omega) | (simp; done) | (simp; omega))) | with_reducible refine below_alloc ?_ _ | with_reducible apply below_drewN | with_reducible apply Below.drew | with_reducible refine below_step ?_ (by assumption)))) hR
            (try go_wp2_with (fail))
            refine hK.out _ _ ⟨by (repeat (first | with_reducible assumption | with_reducible apply Bk.drew | with_reducible apply Bk.alloc | ((with_reducible apply Bk.later); rotate_left; (with_reducible assumption)) | ((with_reducible apply Bk.put); rotate_left; (first | (dsimp only; omega))))), by (repeat (first | with_reducible assumption | with_reducible apply Bk.drew | with_reducible apply Bk.alloc | ((with_reducible apply Bk.later); rotate_left; (with_reducible assumption)) | ((with_reducible apply Bk.put); rotate_left; (first | (dsimp only; omega))))), by (repeat (first | with_reducible assumption | with_reducible apply Bk.drew | with_reducible apply Bk.alloc | ((with_reducible apply Bk.later); rotate_left; (with_reducible assumption)) | ((with_reducible apply Bk.put); rotate_left; (first | (dsimp only; omega))))), by (repeat (first | with_reducible assumption | with_reducible apply Bk.drew | with_reducible apply Bk.alloc | ((with_reducible apply Bk.later); rotate_left; (with_reducible assumption)) | ((with_reducible apply Bk.put); rotate_left; (first | (dsimp only; omega)))))⟩ (fun hHeld => ?_)
            clear hK K hOld B0 B1 B2 B3
            try simp only [Act.put, List.setIfInBounds_toArray, List.set_cons_zero, List.set_cons_succ]
            refine wpAnyH_ready (rs := [9]) (by kernel_rfl) (by simp) ?_
            refine AllReadyH.cons rfl (fun K hK => ?_) ?_
            · have hOld := hHeld; clear hHeld
              have B0 := hOld.1
              have B1 := hOld.2.1
              have B2 := hOld.2.2.1
              have B3 := hOld.2.2.2
              go_simp
              refine hK.out _ _ ⟨by (repeat (first | with_reducible assumption | with_reducible apply Bk.drew | with_reducible apply Bk.alloc | ((with_reducible apply Bk.later); rotate_left; (with_reducible assumption)) | ((with_reducible apply Bk.put); rotate_left; (first | (dsimp only; omega))))), by (repeat (first | with_reducible assumption | with_reducible apply Bk.drew | with_reducible apply Bk.alloc | ((with_reducible apply Bk.later); rotate_left; (with_reducible assumption)) | ((with_reducible apply Bk.put); rotate_left; (first | (dsimp only; omega))))), by (repeat (first | with_reducible assumption | with_reducible apply Bk.drew | with_reducible apply Bk.alloc | ((with_reducible apply Bk.later); rotate_left; (with_reducible assumption)) | ((with_reducible apply Bk.put); rotate_left; (first | (dsimp only; omega))))), by (repeat (first | with_reducible assumption | with_reducible apply Bk.drew | with_reducible apply Bk.alloc | ((with_reducible apply Bk.later); rotate_left; (with_reducible assumption)) | ((with_reducible apply Bk.put); rotate_left; (first | (dsimp only; omega)))))⟩ (fun hHeld => ?_)
              clear hK K hOld B0 B1 B2 B3
              try simp only [Act.put, List.setIfInBounds_toArray, List.set_cons_zero, List.set_cons_succ]
              refine wpAnyH_ready (rs := [10]) (by kernel_rfl) (by simp) ?_
              refine AllReadyH.cons rfl (fun K hK => ?_) ?_
              · have hOld := hHeld; clear hHeld
                have B0 := hOld.1
                have B1 := hOld.2.1
                have B2 := hOld.2.2.1
                have B3 := hOld.2.2.2
                have G0 : Bk (w1.heap.size) 0 [.int .i64 0, .int .u64 0] ((wz8).alloc (Obj.cells #[.int .i64 0, .int .u64 0] 41)) := by first | (simp [Bk, go_sem]; done) | (repeat (first | with_reducible assumption | with_reducible apply Bk.drew | with_reducible apply Bk.alloc | ((with_reducible apply Bk.later); rotate_left; (with_reducible assumption)) | ((with_reducible apply Bk.put); rotate_left; (first | (dsimp only; omega)))))
                simp only [Bk] at G0
                have G1 : Bk (wz8.heap.size) 0 [.int .i64 0, .int .u64 0] ((wz8).alloc (Obj.cells #[.int .i64 0, .int .u64 0] 41)) := by first | (simp [Bk, go_sem]; done) | (repeat (first | with_reducible assumption | with_reducible apply Bk.drew | with_reducible apply Bk.alloc | ((with_reducible apply Bk.later); rotate_left; (with_reducible assumption)) | ((with_reducible apply Bk.put); rotate_left; (first | (dsimp only; omega)))))
                simp only [Bk] at G1
                have na01 : w1.heap.size ≠ wz8.heap.size := by omega
                have nb01 := na01.symm
                go_simp
                refine hK.out _ _ ⟨by (repeat (first | with_reducible assumption | with_reducible apply Bk.drew | with_reducible apply Bk.alloc | ((with_reducible apply Bk.later); rotate_left; (with_reducible assumption)) | ((with_reducible apply Bk.put); rotate_left; (first | (dsimp only; omega))))), by (repeat (first | with_reducible assumption | with_reducible apply Bk.drew | with_reducible apply Bk.alloc | ((with_reducible apply Bk.later); rotate_left; (with_reducible assumption)) | ((with_reducible apply Bk.put); rotate_left; (first | (dsimp only; omega))))), by (repeat (first | with_reducible assumption | with_reducible apply Bk.drew | with_reducible apply Bk.alloc | ((with_reducible apply Bk.later); rotate_left; (with_reducible assumption)) | ((with_reducible apply Bk.put); rotate_left; (first | (dsimp only; omega))))), by (repeat (first | with_reducible assumption | with_reducible apply Bk.drew | with_reducible apply Bk.alloc | ((with_reducible apply Bk.later); rotate_left; (with_reducible assumption)) | ((with_reducible apply Bk.put); rotate_left; (first | (dsimp only; omega)))))⟩ (fun hHeld => ?_)
                clear hK K hOld B0 B1 B2 B3
                try simp only [Act.put, List.setIfInBounds_toArray, List.set_cons_zero, List.set_cons_succ]
                refine wpAnyH_ready (rs := [11]) (by kernel_rfl) (by simp) ?_
                refine AllReadyH.cons rfl (fun K hK => ?_) ?_
                · have hOld := hHeld; clear hHeld
                  have B0 := hOld.1
                  have B1 := hOld.2.1
                  have B2 := hOld.2.2.1
                  have B3 := hOld.2.2.2
                  go_simp
                  refine hK.out _ _ ⟨by (repeat (first | with_reducible assumption | with_reducible apply Bk.drew | with_reducible apply Bk.alloc | ((with_reducible apply Bk.later); rotate_left; (with_reducible assumption)) | ((with_reducible apply Bk.put); rotate_left; (first | (dsimp only; omega))))), by (repeat (first | with_reducible assumption | with_reducible apply Bk.drew | with_reducible apply Bk.alloc | ((with_reducible apply Bk.later); rotate_left; (with_reducible assumption)) | ((with_reducible apply Bk.put); rotate_left; (first | (dsimp only; omega))))), by (repeat (first | with_reducible assumption | with_reducible apply Bk.drew | with_reducible apply Bk.alloc | ((with_reducible apply Bk.later); rotate_left; (with_reducible assumption)) | ((with_reducible apply Bk.put); rotate_left; (first | (dsimp only; omega))))), by (repeat (first | with_reducible assumption | with_reducible apply Bk.drew | with_reducible apply Bk.alloc | ((with_reducible apply Bk.later); rotate_left; (with_reducible assumption)) | ((with_reducible apply Bk.put); rotate_left; (first | (dsimp only; omega)))))⟩ (fun hHeld => ?_)
                  clear hK K hOld B0 B1 B2 B3
                  try simp only [Act.put, List.setIfInBounds_toArray, List.set_cons_zero, List.set_cons_succ]
                  refine wpAnyH_done (by kernel_rfl) ?_ _
                  (try refine NoPanic.normal ?_)
                  go_wp2
                  go_meet
                  exact ⟨_, _, rfl, rfl, by (repeat (first | with_reducible assumption | with_reducible exact Below.refl _ _ | ((with_reducible refine Below.setCell ?_ ?_ _); rotate_left; (first | exact Nat.le_refl _ | (dsimp only; omega) | (simp; done) | (simp; omega))) | with_reducible refine below_alloc ?_ _ | with_reducible apply below_drewN | with_reducible apply Below.drew | with_reducible refine below_step ?_ (by assumption))), ⟨by simp (maxDischargeDepth := 8) [Bk, go_sem, *], by simp (maxDischargeDepth := 8) [Bk, go_sem, *]⟩, hHeld⟩
                exact AllReadyH.nil
              exact AllReadyH.nil
            exact AllReadyH.nil
          refine AllReadyH.cons rfl (fun K hK => ?_) ?_
          · have hOld := hHeld; clear hHeld
            have B0 := hOld.1
            have B1 := hOld.2.1
            have B2 := hOld.2.2.1
            have B3 := hOld.2.2.2
            go_simp
            refine hK.out _ _ ⟨by (repeat (first | with_reducible assumption | with_reducible apply Bk.drew | with_reducible apply Bk.alloc | ((with_reducible apply Bk.later); rotate_left; (with_reducible assumption)) | ((with_reducible apply Bk.put); rotate_left; (first | (dsimp only; omega))))), by (repeat (first | with_reducible assumption | with_reducible apply Bk.drew | with_reducible apply Bk.alloc | ((with_reducible apply Bk.later); rotate_left; (with_reducible assumption)) | ((with_reducible apply Bk.put); rotate_left; (first | (dsimp only; omega))))), by (repeat (first | with_reducible assumption | with_reducible apply Bk.drew | with_reducible apply Bk.alloc | ((with_reducible apply Bk.later); rotate_left; (with_reducible assumption)) | ((with_reducible apply Bk.put); rotate_left; (first | (dsimp only; omega))))), by (repeat (first | with_reducible assumption | with_reducible apply Bk.drew | with_reducible apply Bk.alloc | ((with_reducible apply Bk.later); rotate_left; (with_reducible assumption)) | ((with_reducible apply Bk.put); rotate_left; (first | (dsimp only; omega)))))⟩ (fun hHeld => ?_)
            clear hK K hOld B0 B1 B2 B3
            try simp only [Act.put, List.setIfInBounds_toArray, List.set_cons_zero, List.set_cons_succ]
            refine wpAnyH_ready (rs := [7]) (by kernel_rfl) (by simp) ?_
            refine AllReadyH.cons rfl (fun K hK => ?_) ?_
            · have hOld := hHeld; clear hHeld
              have B0 := hOld.1
              have B1 := hOld.2.1
              have B2 := hOld.2.2.1
              have B3 := hOld.2.2.2
              go_simp
              (go_at_call 21; (with_reducible refine (k3 _).mono ?_); rintro e wz9 ⟨rfl, hR⟩)
              have hzR := hR.size
              (try simp at hzR)
              have GR0 : Bk (w1.heap.size) 0 [.int .i64 0, .int .u64 0] wz9 := Bk.later (by first | (simp [Bk, go_sem]; done) | (repeat (first | with_reducible assumption | with_reducible apply Bk.drew | with_reducible apply Bk.alloc | ((with_reducible apply Bk.later); rotate_left; (with_reducible assumption)) | ((with_reducible apply Bk.put); rotate_left; (first | (dsimp only; omega)))))) hR
              have GS0 := GR0; simp only [Bk] at GS0
              have nl0 : w1.heap.size < wz9.heap.size := by omega
              have GR1 : Bk (wz7.heap.size) 0 [.int .i64 0, .int .u64 0] wz9 := Bk.later (by first | (simp [Bk, go_sem]; done) | (repeat (first | with_reducible assumption | with_reducible apply Bk.drew | with_reducible apply Bk.alloc | ((with_reducible apply Bk.later); rotate_left; (with_reducible assumption)) | ((with_reducible apply Bk.put); rotate_left; (first | (dsimp only; omega)))))) hR
              have GS1 := GR1; simp only [Bk] at GS1
              have nl1 : wz7.heap.size < wz9.heap.size := by omega
              have HB := below_step (W := _) (by (repeat (first | with_reducible assumption | with_reducible exact Below.refl _ _ | ((with_reducible refine Below.setCell ?_ ?_ _); rotate_left; (first | exact Nat.le_refl _ | (dsimp only; omega) | (simp; done) | (simp; omega))) | with_reducible refine below_alloc ?_ _ | with_reducible apply below_drewN | with_reducible apply Below.drew | with_reducible refine below_step ?_ (by assumption)))) hR
              (try go_wp2_with (fail))
              refine hK.out _ _ ⟨by (repeat (first | with_reducible assumption | with_reducible apply Bk.drew | with_reducible apply Bk.alloc | ((with_reducible apply Bk.later); rotate_left; (with_reducible assumption)) | ((with_reducible apply Bk.put); rotate_left; (first | (dsimp only; omega))))), by (repeat (first | with_reducible assumption | with_reducible apply Bk.drew | with_reducible apply Bk.alloc | ((with_reducible apply Bk.later); rotate_left; (with_reducible assumption)) | ((with_reducible apply Bk.put); rotate_left; (first | (dsimp only; omega))))), by (repeat (first | with_reducible assumption | with_reducible apply Bk.drew | with_reducible apply Bk.alloc | ((with_reducible apply Bk.later); rotate_left; (with_reducible assumption)) | ((with_reducible apply Bk.put); rotate_left; (first | (dsimp only; omega))))), by (repeat (first | with_reducible assumption | with_reducible apply Bk.drew | with_reducible apply Bk.alloc | ((with_reducible apply Bk.later); rotate_left; (with_reducible assumption)) | ((with_reducible apply Bk.put); rotate_left; (first | (dsimp only; omega)))))⟩ (fun hHeld => ?_)
              clear hK K hOld B0 B1 B2 B3
              try simp only [Act.put, List.setIfInBounds_toArray, List.set_cons_zero, List.set_cons_succ]
              refine wpAnyH_ready (rs := [10]) (by kernel_rfl) (by simp) ?_
              refine AllReadyH.cons rfl (fun K hK => ?_) ?_
              · have hOld := hHeld; clear hHeld
                have B0 := hOld.1
                have B1 := hOld.2.1
                have B2 := hOld.2.2.1
                have B3 := hOld.2.2.2
                have G0 : Bk (w1.heap.size) 0 [.int .i64 0, .int .u64 0] (wz9) := by first | (simp [Bk, go_sem]; done) | (repeat (first | with_reducible assumption | with_reducible apply Bk.drew | with_reducible apply Bk.alloc | ((with_reducible apply Bk.later); rotate_left; (with_reducible assumption)) | ((with_reducible apply Bk.put); rotate_left; (first | (dsimp only; omega)))))
                simp only [Bk] at G0
                have G1 : Bk (wz7.heap.size) 0 [.int .i64 0, .int .u64 0] (wz9) := by first | (simp [Bk, go_sem]; done) | (repeat (first | with_reducible assumption | with_reducible apply Bk.drew | with_reducible apply Bk.alloc | ((with_reducible apply Bk.later); rotate_left; (with_reducible assumption)) | ((with_reducible apply Bk.put); rotate_left; (first | (dsimp only; omega)))))
                simp only [Bk] at G1
                have na01 : w1.heap.size ≠ wz7.heap.size := by omega
                have nb01 := na01.symm
                go_simp
                refine hK.out _ _ ⟨by (repeat (first | with_reducible assumption | with_reducible apply Bk.drew | with_reducible apply Bk.alloc | ((with_reducible apply Bk.later); rotate_left; (with_reducible assumption)) | ((with_reducible apply Bk.put); rotate_left; (first | (dsimp only; omega))))), by (repeat (first | with_reducible assumption | with_reducible apply Bk.drew | with_reducible apply Bk.alloc | ((with_reducible apply Bk.later); rotate_left; (with_reducible assumption)) | ((with_reducible apply Bk.put); rotate_left; (first | (dsimp only; omega))))), by (repeat (first | with_reducible assumption | with_reducible apply Bk.drew | with_reducible apply Bk.alloc | ((with_reducible apply Bk.later); rotate_left; (with_reducible assumption)) | ((with_reducible apply Bk.put); rotate_left; (first | (dsimp only; omega))))), by (repeat (first | with_reducible assumption | with_reducible apply Bk.drew | with_reducible apply Bk.alloc | ((with_reducible apply Bk.later); rotate_left; (with_reducible assumption)) | ((with_reducible apply Bk.put); rotate_left; (first | (dsimp only; omega)))))⟩ (fun hHeld => ?_)
                clear hK K hOld B0 B1 B2 B3
                try simp only [Act.put, List.setIfInBounds_toArray, List.set_cons_zero, List.set_cons_succ]
                refine wpAnyH_ready (rs := [11]) (by kernel_rfl) (by simp) ?_
                refine AllReadyH.cons rfl (fun K hK => ?_) ?_
                · have hOld := hHeld; clear hHeld
                  have B0 := hOld.1
                  have B1 := hOld.2.1
                  have B2 := hOld.2.2.1
                  have B3 := hOld.2.2.2
                  go_simp
                  refine hK.out _ _ ⟨by (repeat (first | with_reducible assumption | with_reducible apply Bk.drew | with_reducible apply Bk.alloc | ((with_reducible apply Bk.later); rotate_left; (with_reducible assumption)) | ((with_reducible apply Bk.put); rotate_left; (first | (dsimp only; omega))))), by (repeat (first | with_reducible assumption | with_reducible apply Bk.drew | with_reducible apply Bk.alloc | ((with_reducible apply Bk.later); rotate_left; (with_reducible assumption)) | ((with_reducible apply Bk.put); rotate_left; (first | (dsimp only; omega))))), by (repeat (first | with_reducible assumption | with_reducible apply Bk.drew | with_reducible apply Bk.alloc | ((with_reducible apply Bk.later); rotate_left; (with_reducible assumption)) | ((with_reducible apply Bk.put); rotate_left; (first | (dsimp only; omega))))), by (repeat (first | with_reducible assumption | with_reducible apply Bk.drew | with_reducible apply Bk.alloc | ((with_reducible apply Bk.later); rotate_left; (with_reducible assumption)) | ((with_reducible apply Bk.put); rotate_left; (first | (dsimp only; omega)))))⟩ (fun hHeld => ?_)
                  clear hK K hOld B0 B1 B2 B3
                  try simp only [Act.put, List.setIfInBounds_toArray, List.set_cons_zero, List.set_cons_succ]
                  refine wpAnyH_done (by kernel_rfl) ?_ _
                  (try refine NoPanic.normal ?_)
                  go_wp2
                  go_meet
                  exact ⟨_, _, rfl, rfl, by (repeat (first | with_reducible assumption | with_reducible exact Below.refl _ _ | ((with_reducible refine Below.setCell ?_ ?_ _); rotate_left; (first | exact Nat.le_refl _ | (dsimp only; omega) | (simp; done) | (simp; omega))) | with_reducible refine below_alloc ?_ _ | with_reducible apply below_drewN | with_reducible apply Below.drew | with_reducible refine below_step ?_ (by assumption))), ⟨by simp (maxDischargeDepth := 8) [Bk, go_sem, *], by simp (maxDischargeDepth := 8) [Bk, go_sem, *]⟩, hHeld⟩
                exact AllReadyH.nil
              exact AllReadyH.nil
            exact AllReadyH.nil
          exact AllReadyH.nil
        refine AllReadyH.cons rfl (fun K hK => ?_) ?_
        · have hOld := hHeld; clear hHeld
          have B0 := hOld.1
          have B1 := hOld.2.1
          have B2 := hOld.2.2.1
          have B3 := hOld.2.2.2
          go_simp
          refine hK.out _ _ ⟨by (repeat (first | with_reducible assumption | with_reducible apply Bk.drew | with_reducible apply Bk.alloc | ((with_reducible apply Bk.later); rotate_left; (with_reducible assumption)) | ((with_reducible apply Bk.put); rotate_left; (first | (dsimp only; omega))))), by (repeat (first | with_reducible assumption | with_reducible apply Bk.drew | with_reducible apply Bk.alloc | ((with_reducible apply Bk.later); rotate_left; (with_reducible assumption)) | ((with_reducible apply Bk.put); rotate_left; (first | (dsimp only; omega))))), by (repeat (first | with_reducible assumption | with_reducible apply Bk.drew | with_reducible apply Bk.alloc | ((with_reducible apply Bk.later); rotate_left; (with_reducible assumption)) | ((with_reducible apply Bk.put); rotate_left; (first | (dsimp only; omega))))), by (repeat (first | with_reducible assumption | with_reducible apply Bk.drew | with_reducible apply Bk.alloc | ((with_reducible apply Bk.later); rotate_left; (with_reducible assumption)) | ((with_reducible apply Bk.put); rotate_left; (first | (dsimp only; omega)))))⟩ (fun hHeld => ?_)
          clear hK K hOld B0 B1 B2 B3
          try simp only [Act.put, List.setIfInBounds_toArray, List.set_cons_zero, List.set_cons_succ]
          refine wpAnyH_ready (rs := [3]) (by kernel_rfl) (by simp) ?_
          refine AllReadyH.cons rfl (fun K hK => ?_) ?_
          · have hOld := hHeld; clear hHeld
            have B0 := hOld.1
            have B1 := hOld.2.1
            have B2 := hOld.2.2.1
            have B3 := hOld.2.2.2
            go_simp
            (go_at_call 21; (with_reducible refine (k2 _).mono ?_); rintro e wz10 ⟨rfl, hR⟩)
            have hzR := hR.size
            (try simp at hzR)
            have GR0 : Bk (w1.heap.size) 0 [.int .i64 0, .int .u64 0] wz10 := Bk.later (by first | (simp [Bk, go_sem]; done) | (repeat (first | with_reducible assumption | with_reducible apply Bk.drew | with_reducible apply Bk.alloc | ((with_reducible apply Bk.later); rotate_left; (with_reducible assumption)) | ((with_reducible apply Bk.put); rotate_left; (first | (dsimp only; omega)))))) hR
            have GS0 := GR0; simp only [Bk] at GS0
            have nl0 : w1.heap.size < wz10.heap.size := by omega
            have GR1 : Bk (w1.heap.size + 1) 0 [.int .i64 0, .int .u64 0] wz10 := Bk.later (by first | (simp [Bk, go_sem]; done) | (repeat (first | with_reducible assumption | with_reducible apply Bk.drew | with_reducible apply Bk.alloc | ((with_reducible apply Bk.later); rotate_left; (with_reducible assumption)) | ((with_reducible apply Bk.put); rotate_left; (first | (dsimp only; omega)))))) hR
            have GS1 := GR1; simp only [Bk] at GS1
            have nl1 : w1.heap.size + 1 < wz10.heap.size := by omega
            have HB := below_step (W := _) (by (repeat (first | with_reducible assumption | with_reducible exact Below.refl _ _ | ((with_reducible refine Below.setCell ?_ ?_ _); rotate_left; (first | exact Nat.le_refl _ | (dsimp only; omega) | (simp; done) | (simp; omega))) | with_reducible refine below_alloc ?_ _ | with_reducible apply below_drewN | with_reducible apply Below.drew | with_reducible refine below_step ?_ (by assumption)))) hR
            (try go_wp2_with (fail))
            refine hK.out _ _ ⟨by (repeat (first | with_reducible assumption | with_reducible apply Bk.drew | with_reducible apply Bk.alloc | ((with_reducible apply Bk.later); rotate_left; (with_reducible assumption)) | ((with_reducible apply Bk.put); rotate_left; (first | (dsimp only; omega))))), by (repeat (first | with_reducible assumption | with_reducible apply Bk.drew | with_reducible apply Bk.alloc | ((with_reducible apply Bk.later); rotate_left; (with_reducible assumption)) | ((with_reducible apply Bk.put); rotate_left; (first | (dsimp only; omega))))), by (repeat (first | with_reducible assumption | with_reducible apply Bk.drew | with_reducible apply Bk.alloc | ((with_reducible apply Bk.later); rotate_left; (with_reducible assumption)) | ((with_reducible apply Bk.put); rotate_left; (first | (dsimp only; omega))))), by (repeat (first | with_reducible assumption | with_reducible apply Bk.drew | with_reducible apply Bk.alloc | ((with_reducible apply Bk.later); rotate_left; (with_reducible assumption)) | ((with_reducible apply Bk.put); rotate_left; (first | (dsimp only; omega)))))⟩ (fun hHeld => ?_)
            clear hK K hOld B0 B1 B2 B3
            try simp only [Act.put, List.setIfInBounds_toArray, List.set_cons_zero, List.set_cons_succ]
            refine wpAnyH_ready (rs := [7]) (by kernel_rfl) (by simp) ?_
            refine AllReadyH.cons rfl (fun K hK => ?_) ?_
            · have hOld := hHeld; clear hHeld
              have B0 := hOld.1
              have B1 := hOld.2.1
              have B2 := hOld.2.2.1
              have B3 := hOld.2.2.2
              go_simp
              (go_at_call 21; (with_reducible refine (k3 _).mono ?_); rintro e wz11 ⟨rfl, hR⟩)
              have hzR := hR.size
              (try simp at hzR)
              have GR0 : Bk (w1.heap.size) 0 [.int .i64 0, .int .u64 0] wz11 := Bk.later (by first | (simp [Bk, go_sem]; done) | (repeat (first | with_reducible assumption | with_reducible apply Bk.drew | with_reducible apply Bk.alloc | ((with_reducible apply Bk.later); rotate_left; (with_reducible assumption)) | ((with_reducible apply Bk.put); rotate_left; (first | (dsimp only; omega)))))) hR
              have GS0 := GR0; simp only [Bk] at GS0
              have nl0 : w1.heap.size < wz11.heap.size := by omega
              have GR1 : Bk (w1.heap.size + 1) 0 [.int .i64 0, .int .u64 0] wz11 := Bk.later (by first | (simp [Bk, go_sem]; done) | (repeat (first | with_reducible assumption | with_reducible apply Bk.drew | with_reducible apply Bk.alloc | ((with_reducible apply Bk.later); rotate_left; (with_reducible assumption)) | ((with_reducible apply Bk.put); rotate_left; (first | (dsimp only; omega)))))) hR
              have GS1 := GR1; simp only [Bk] at GS1
              have nl1 : w1.heap.size + 1 < wz11.heap.size := by omega
              have HB := below_step (W := _) (by (repeat (first | with_reducible assumption | with_reducible exact Below.refl _ _ | ((with_reducible refine Below.setCell ?_ ?_ _); rotate_left; (first | exact Nat.le_refl _ | (dsimp only; omega) | (simp; done) | (simp; omega))) | with_reducible refine below_alloc ?_ _ | with_reducible apply below_drewN | with_reducible apply Below.drew | with_reducible refine below_step ?_ (by assumption)))) hR
              (try go_wp2_with (fail))
              refine hK.out _ _ ⟨by (repeat (first | with_reducible assumption | with_reducible apply Bk.drew | with_reducible apply Bk.alloc | ((with_reducible apply Bk.later); rotate_left; (with_reducible assumption)) | ((with_reducible apply Bk.put); rotate_left; (first | (dsimp only; omega))))), by (repeat (first | with_reducible assumption | with_reducible apply Bk.drew | with_reducible apply Bk.alloc | ((with_reducible apply Bk.later); rotate_left; (with_reducible assumption)) | ((with_reducible apply Bk.put); rotate_left; (first | (dsimp only; omega))))), by (repeat (first | with_reducible assumption | with_reducible apply Bk.drew | with_reducible apply Bk.alloc | ((with_reducible apply Bk.later); rotate_left; (with_reducible assumption)) | ((with_reducible apply Bk.put); rotate_left; (first | (dsimp only; omega))))), by (repeat (first | with_reducible assumption | with_reducible apply Bk.drew | with_reducible apply Bk.alloc | ((with_reducible apply Bk.later); rotate_left; (with_reducible assumption)) | ((with_reducible apply Bk.put); rotate_left; (first | (dsimp only; omega)))))⟩ (fun hHeld => ?_)
              clear hK K hOld B0 B1 B2 B3
              try simp only [Act.put, List.setIfInBounds_toArray, List.set_cons_zero, List.set_cons_succ]
              refine wpAnyH_ready (rs := [10]) (by kernel_rfl) (by simp) ?_
              refine AllReadyH.cons rfl (fun K hK => ?_) ?_
              · have hOld := hHeld; clear hHeld
                have B0 := hOld.1
                have B1 := hOld.2.1
                have B2 := hOld.2.2.1
                have B3 := hOld.2.2.2
                have G0 : Bk (w1.heap.size) 0 [.int .i64 0, .int .u64 0] (wz11) := by first | (simp [Bk, go_sem]; done) | (repeat (first | with_reducible assumption | with_reducible apply Bk.drew | with_reducible apply Bk.alloc | ((with_reducible apply Bk.later); rotate_left; (with_reducible assumption)) | ((with_reducible apply Bk.put); rotate_left; (first | (dsimp only; omega)))))
                simp only [Bk] at G0
                have G1 : Bk (w1.heap.size + 1) 0 [.int .i64 0, .int .u64 0] (wz11) := by first | (simp [Bk, go_sem]; done) | (repeat (first | with_reducible assumption | with_reducible apply Bk.drew | with_reducible apply Bk.alloc | ((with_reducible apply Bk.later); rotate_left; (with_reducible assumption)) | ((with_reducible apply Bk.put); rotate_left; (first | (dsimp only; omega)))))
                simp only [Bk] at G1
                have na01 : w1.heap.size ≠ w1.heap.size + 1 := by omega
                have nb01 := na01.symm
                go_simp
                refine hK.out _ _ ⟨by (repeat (first | with_reducible assumption | with_reducible apply Bk.drew | with_reducible apply Bk.alloc | ((with_reducible apply Bk.later); rotate_left; (with_reducible assumption)) | ((with_reducible apply Bk.put); rotate_left; (first | (dsimp only; omega))))), by (repeat (first | with_reducible assumption | with_reducible apply Bk.drew | with_reducible apply Bk.alloc | ((with_reducible apply Bk.later); rotate_left; (with_reducible assumption)) | ((with_reducible apply Bk.put); rotate_left; (first | (dsimp only; omega))))), by (repeat (first | with_reducible assumption | with_reducible apply Bk.drew | with_reducible apply Bk.alloc | ((with_reducible apply Bk.later); rotate_left; (with_reducible assumption)) | ((with_reducible apply Bk.put); rotate_left; (first | (dsimp only; omega))))), by (repeat (first | with_reducible assumption | with_reducible apply Bk.drew | with_reducible apply Bk.alloc | ((with_reducible apply Bk.later); rotate_left; (with_reducible assumption)) | ((with_reducible apply Bk.put); rotate_left; (first | (dsimp only; omega)))))⟩ (fun hHeld => ?_)
                clear hK K hOld B0 B1 B2 B3
                try simp only [Act.put, List.setIfInBounds_toArray, List.set_cons_zero, List.set_cons_succ]
                refine wpAnyH_ready (rs := [11]) (by kernel_rfl) (by simp) ?_
                refine AllReadyH.cons rfl (fun K hK => ?_) ?_
                · have hOld := hHeld; clear hHeld
                  have B0 := hOld.1
                  have B1 := hOld.2.1
                  have B2 := hOld.2.2.1
                  have B3 := hOld.2.2.2
                  go_simp
                  refine hK.out _ _ ⟨by (repeat (first | with_reducible assumption | with_reducible apply Bk.drew | with_reducible apply Bk.alloc | ((with_reducible apply Bk.later); rotate_left; (with_reducible assumption)) | ((with_reducible apply Bk.put); rotate_left; (first | (dsimp only; omega))))), by (repeat (first | with_reducible assumption | with_reducible apply Bk.drew | with_reducible apply Bk.alloc | ((with_reducible apply Bk.later); rotate_left; (with_reducible assumption)) | ((with_reducible apply Bk.put); rotate_left; (first | (dsimp only; omega))))), by (repeat (first | with_reducible assumption | with_reducible apply Bk.drew | with_reducible apply Bk.alloc | ((with_reducible apply Bk.later); rotate_left; (with_reducible assumption)) | ((with_reducible apply Bk.put); rotate_left; (first | (dsimp only; omega))))), by (repeat (first | with_reducible assumption | with_reducible apply Bk.drew | with_reducible apply Bk.alloc | ((with_reducible apply Bk.later); rotate_left; (with_reducible assumption)) | ((with_reducible apply Bk.put); rotate_left; (first | (dsimp only; omega)))))⟩ (fun hHeld => ?_)
                  clear hK K hOld B0 B1 B2 B3
                  try simp only [Act.put, List.setIfInBounds_toArray, List.set_cons_zero, List.set_cons_succ]
                  refine wpAnyH_done (by kernel_rfl) ?_ _
                  (try refine NoPanic.normal ?_)
                  go_wp2
                  go_meet
                  exact ⟨_, _, rfl, rfl, by (repeat (first | with_reducible assumption | with_reducible exact Below.refl _ _ | ((with_reducible refine Below.setCell ?_ ?_ _); rotate_left; (first | exact Nat.le_refl _ | (dsimp only; omega) | (simp; done) | (simp; omega))) | with_reducible refine below_alloc ?_ _ | with_reducible apply below_drewN | with_reducible apply Below.drew | with_reducible refine below_step ?_ (by assumption))), ⟨by simp (maxDischargeDepth := 8) [Bk, go_sem, *], by simp (maxDischargeDepth := 8) [Bk, go_sem, *]⟩, hHeld⟩
                exact AllReadyH.nil
              exact AllReadyH.nil
            exact AllReadyH.nil
          exact AllReadyH.nil
        exact AllReadyH.nil
      refine AllReadyH.cons rfl (fun K hK => ?_) ?_
      · have hOld := hHeld; clear hHeld
        have B0 := hOld.1
        have B1 := hOld.2.1
        have B2 := hOld.2.2.1
        have B3 := hOld.2.2.2
        go_simp
        refine hK.out _ _ ⟨by (repeat (first | with_reducible assumption | with_reducible apply Bk.drew | with_reducible apply Bk.alloc | ((with_reducible apply Bk.later); rotate_left; (with_reducible assumption)) | ((with_reducible apply Bk.put); rotate_left; (first | (dsimp only; omega))))), by (repeat (first | with_reducible assumption | with_reducible apply Bk.drew | with_reducible apply Bk.alloc | ((with_reducible apply Bk.later); rotate_left; (with_reducible assumption)) | ((with_reducible apply Bk.put); rotate_left; (first | (dsimp only; omega))))), by (repeat (first | with_reducible assumption | with_reducible apply Bk.drew | with_reducible apply Bk.alloc | ((with_reducible apply Bk.later); rotate_left; (with_reducible assumption)) | ((with_reducible apply Bk.put); rotate_left; (first | (dsimp only; omega))))), by (repeat (first | with_reducible assumption | with_reducible apply Bk.drew | with_reducible apply Bk.alloc | ((with_reducible apply Bk.later); rotate_left; (with_reducible assumption)) | ((with_reducible apply Bk.put); rotate_left; (first | (dsimp only; omega)))))⟩ (fun hHeld => ?_)
        clear hK K hOld B0 B1 B2 B3
        try simp only [Act.put, List.setIfInBounds_toArray, List.set_cons_zero, List.set_cons_succ]
        refine wpAnyH_ready (rs := [3, 8]) (by kernel_rfl) (by simp) ?_
        refine AllReadyH.cons rfl (fun K hK => ?_) ?_
        · have hOld := hHeld; clear hHeld
          have B0 := hOld.1
          have B1 := hOld.2.1
          have B2 := hOld.2.2.1
          have B3 := hOld.2.2.2
          go_simp
          (go_at_call 21; (with_reducible refine (k2 _).mono ?_); rintro e wz12 ⟨rfl, hR⟩)
          have hzR := hR.size
          (try simp at hzR)
          have GR1 : Bk (w1.heap.size) 0 [.int .i64 0, .int .u64 0] wz12 := Bk.later (by first | (simp [Bk, go_sem]; done) | (repeat (first | with_reducible assumption | with_reducible apply Bk.drew | with_reducible apply Bk.alloc | ((with_reducible apply Bk.later); rotate_left; (with_reducible assumption)) | ((with_reducible apply Bk.put); rotate_left; (first | (dsimp only; omega)))))) hR
          have GS1 := GR1; simp only [Bk] at GS1
          have nl1 : w1.heap.size < wz12.heap.size := by omega
          have HB := below_step (W := _) (by (repeat (first | with_reducible assumption | with_reducible exact Below.refl _ _ | ((with_reducible refine Below.setCell ?_ ?_ _); rotate_left; (first | exact Nat.le_refl _ | (dsimp only; omega) | (simp; done) | (simp; omega))) | with_reducible refine below_alloc ?_ _ | with_reducible apply below_drewN | with_reducible apply Below.drew | with_reducible refine below_step ?_ (by assumption)))) hR
          (try go_wp2_with (fail))
          refine hK.out _ _ ⟨by (repeat (first | with_reducible assumption | with_reducible apply Bk.drew | with_reducible apply Bk.alloc | ((with_reducible apply Bk.later); rotate_left; (with_reducible assumption)) | ((with_reducible apply Bk.put); rotate_left; (first | (dsimp only; omega))))), by (repeat (first | with_reducible assumption | with_reducible apply Bk.drew | with_reducible apply Bk.alloc | ((with_reducible apply Bk.later); rotate_left; (with_reducible assumption)) | ((with_reducible apply Bk.put); rotate_left; (first | (dsimp only; omega))))), by (repeat (first | with_reducible assumption | with_reducible apply Bk.drew | with_reducible apply Bk.alloc | ((with_reducible apply Bk.later); rotate_left; (with_reducible assumption)) | ((with_reducible apply Bk.put); rotate_left; (first | (dsimp only; omega))))), by (repeat (first | with_reducible assumption | with_reducible apply Bk.drew | with_reducible apply Bk.alloc | ((with_reducible apply Bk.later); rotate_left; (with_reducible assumption)) | ((with_reducible apply Bk.put); rotate_left; (first | (dsimp only; omega)))))⟩ (fun hHeld => ?_)
          clear hK K hOld B0 B1 B2 B3
          try simp only [Act.put, List.setIfInBounds_toArray, List.set_cons_zero, List.set_cons_succ]
          refine wpAnyH_ready (rs := [7, 8]) (by kernel_rfl) (by simp) ?_
          refine AllReadyH.cons rfl (fun K hK => ?_) ?_
          · have hOld := hHeld; clear hHeld
            have B0 := hOld.1
            have B1 := hOld.2.1
            have B2 := hOld.2.2.1
            have B3 := hOld.2.2.2
            go_simp
            (go_at_call 21; (with_reducible refine (k3 _).mono ?_); rintro e wz13 ⟨rfl, hR⟩)
            have hzR := hR.size
            (try simp at hzR)
            have GR1 : Bk (w1.heap.size) 0 [.int .i64 0, .int .u64 0] wz13 := Bk.later (by first | (simp [Bk, go_sem]; done) | (repeat (first | with_reducible assumption | with_reducible apply Bk.drew | with_reducible apply Bk.alloc | ((with_reducible apply Bk.later); rotate_left; (with_reducible assumption)) | ((with_reducible apply Bk.put); rotate_left; (first | (dsimp only; omega)))))) hR
            have GS1 := GR1; simp only [Bk] at GS1
            have nl1 : w1.heap.size < wz13.heap.size := by omega
            have HB := below_step (W := _) (by (repeat (first | with_reducible assumption | with_reducible exact Below.refl _ _ | ((with_reducible refine Below.setCell ?_ ?_ _); rotate_left; (first | exact Nat.le_refl _ | (dsimp only; omega) | (simp; done) | (simp; omega))) | with_reducible refine below_alloc ?_ _ | with_reducible apply below_drewN | with_reducible apply Below.drew | with_reducible refine below_step ?_ (by assumption)))) hR
            (try go_wp2_with (fail))
            refine hK.out _ _ ⟨by (repeat (first | with_reducible assumption | with_reducible apply Bk.drew | with_reducible apply Bk.alloc | ((with_reducible apply Bk.later); rotate_left; (with_reducible assumption)) | ((with_reducible apply Bk.put); rotate_left; (first | (dsimp only; omega))))), by (repeat (first | with_reducible assumption | with_reducible apply Bk.drew | with_reducible apply Bk.alloc | ((with_reducible apply Bk.later); rotate_left; (with_reducible assumption)) | ((with_reducible apply Bk.put); rotate_left; (first | (dsimp only; omega))))), by (repeat (first | with_reducible assumption | with_reducible apply Bk.drew | with_reducible apply Bk.alloc | ((with_reducible apply Bk.later); rotate_left; (with_reducible assumption)) | ((with_reducible apply Bk.put); rotate_left; (first | (dsimp only; omega))))), by (repeat (first | with_reducible assumption | with_reducible apply Bk.drew | with_reducible apply Bk.alloc | ((with_reducible apply Bk.later); rotate_left; (with_reducible assumption)) | ((with_reducible apply Bk.put); rotate_left; (first | (dsimp only; omega)))))⟩ (fun hHeld => ?_)
            clear hK K hOld B0 B1 B2 B3
            try simp only [Act.put, List.setIfInBounds_toArray, List.set_cons_zero, List.set_cons_succ]
            refine wpAnyH_ready (rs := [8]) (by kernel_rfl) (by simp) ?_
            refine AllReadyH.cons rfl (fun K hK => ?_) ?_
            · have hOld := hHeld; clear hHeld
              have B0 := hOld.1
              have B1 := hOld.2.1
              have B2 := hOld.2.2.1
              have B3 := hOld.2.2.2
              go_simp
              refine hK.out _ _ ⟨by (repeat (first | with_reducible assumption | with_reducible apply Bk.drew | with_reducible apply Bk.alloc | ((with_reducible apply Bk.later); rotate_left; (with_reducible assumption)) | ((with_reducible apply Bk.put); rotate_left; (first | (dsimp only; omega))))), by (repeat (first | with_reducible assumption | with_reducible apply Bk.drew | with_reducible apply Bk.alloc | ((with_reducible apply Bk.later); rotate_left; (with_reducible assumption)) | ((with_reducible apply Bk.put); rotate_left; (first | (dsimp only; omega))))), by (repeat (first | with_reducible assumption | with_reducible apply Bk.drew | with_reducible apply Bk.alloc | ((with_reducible apply Bk.later); rotate_left; (with_reducible assumption)) | ((with_reducible apply Bk.put); rotate_left; (first | (dsimp only; omega))))), by (repeat (first | with_reducible assumption | with_reducible apply Bk.drew | with_reducible apply Bk.alloc | ((with_reducible apply Bk.later); rotate_left; (with_reducible assumption)) | ((with_reducible apply Bk.put); rotate_left; (first | (dsimp only; omega)))))⟩ (fun hHeld => ?_)
              clear hK K hOld B0 B1 B2 B3
              try simp only [Act.put, List.setIfInBounds_toArray, List.set_cons_zero, List.set_cons_succ]
              refine wpAnyH_ready (rs := [10]) (by kernel_rfl) (by simp) ?_
              refine AllReadyH.cons rfl (fun K hK => ?_) ?_
              · have hOld := hHeld; clear hHeld
                have B0 := hOld.1
                have B1 := hOld.2.1
                have B2 := hOld.2.2.1
                have B3 := hOld.2.2.2
                have G0 : Bk (wz13.heap.size) 0 [.int .i64 0, .int .u64 0] ((wz13).alloc (Obj.cells #[.int .i64 0, .int .u64 0] 41)) := by first | (simp [Bk, go_sem]; done) | (repeat (first | with_reducible assumption | with_reducible apply Bk.drew | with_reducible apply Bk.alloc | ((with_reducible apply Bk.later); rotate_left; (with_reducible assumption)) | ((with_reducible apply Bk.put); rotate_left; (first | (dsimp only; omega)))))
                simp only [Bk] at G0
                have G1 : Bk (w1.heap.size) 0 [.int .i64 0, .int .u64 0] ((wz13).alloc (Obj.cells #[.int .i64 0, .int .u64 0] 41)) := by first | (simp [Bk, go_sem]; done) | (repeat (first | with_reducible assumption | with_reducible apply Bk.drew | with_reducible apply Bk.alloc | ((with_reducible apply Bk.later); rotate_left; (with_reducible assumption)) | ((with_reducible apply Bk.put); rotate_left; (first | (dsimp only; omega)))))
                simp only [Bk] at G1
                have na01 : wz13.heap.size ≠ w1.heap.size := by omega
                have nb01 := na01.symm
                go_simp
                refine hK.out _ _ ⟨by (repeat (first | with_reducible assumption | with_reducible apply Bk.drew | with_reducible apply Bk.alloc | ((with_reducible apply Bk.later); rotate_left; (with_reducible assumption)) | ((with_reducible apply Bk.put); rotate_left; (first | (dsimp only; omega))))), by (repeat (first | with_reducible assumption | with_reducible apply Bk.drew | with_reducible apply Bk.alloc | ((with_reducible apply Bk.later); rotate_left; (with_reducible assumption)) | ((with_reducible apply Bk.put); rotate_left; (first | (dsimp only; omega))))), by (repeat (first | with_reducible assumption | with_reducible apply Bk.drew | with_reducible apply Bk.alloc | ((with_reducible apply Bk.later); rotate_left; (with_reducible assumption)) | ((with_reducible apply Bk.put); rotate_left; (first | (dsimp only; omega))))), by (repeat (first | with_reducible assumption | with_reducible apply Bk.drew | with_reducible apply Bk.alloc | ((with_reducible apply Bk.later); rotate_left; (with_reducible assumption)) | ((with_reducible apply Bk.put); rotate_left; (first | (dsimp only; omega)))))⟩ (fun hHeld => ?_)
                clear hK K hOld B0 B1 B2 B3
                try simp only [Act.put, List.setIfInBounds_toArray, List.set_cons_zero, List.set_cons_succ]
                refine wpAnyH_ready (rs := [11]) (by kernel_rfl) (by simp) ?_
                refine AllReadyH.cons rfl (fun K hK => ?_) ?_
                · have hOld := hHeld; clear hHeld
                  have B0 := hOld.1
                  have B1 := hOld.2.1
                  have B2 := hOld.2.2.1
                  have B3 := hOld.2.2.2
                  go_simp
                  refine hK.out _ _ ⟨by (repeat (first | with_reducible assumption | with_reducible apply Bk.drew | with_reducible apply Bk.alloc | ((with_reducible apply Bk.later); rotate_left; (with_reducible assumption)) | ((with_reducible apply Bk.put); rotate_left; (first | (dsimp only; omega))))), by (repeat (first | with_reducible assumption | with_reducible apply Bk.drew | with_reducible apply Bk.alloc | ((with_reducible apply Bk.later); rotate_left; (with_reducible assumption)) | ((with_reducible apply Bk.put); rotate_left; (first | (dsimp only; omega))))), by (repeat (first | with_reducible assumption | with_reducible apply Bk.drew | with_reducible apply Bk.alloc | ((with_reducible apply Bk.later); rotate_left; (with_reducible assumption)) | ((with_reducible apply Bk.put); rotate_left; (first | (dsimp only; omega))))), by (repeat (first | with_reducible assumption | with_reducible apply Bk.drew | with_reducible apply Bk.alloc | ((with_reducible apply Bk.later); rotate_left; (with_reducible assumption)) | ((with_reducible apply Bk.put); rotate_left; (first | (dsimp only; omega)))))⟩ (fun hHeld => ?_)
                  clear hK K hOld B0 B1 B2 B3
                  try simp only [Act.put, List.setIfInBounds_toArray, List.set_cons_zero, List.set_cons_succ]
                  refine wpAnyH_done (by kernel_rfl) ?_ _
                  (try refine NoPanic.normal ?_)
                  go_wp2
                  go_meet
                  exact ⟨_, _, rfl, rfl, by (repeat (first | with_reducible assumption | with_reducible exact Below.refl _ _ | ((with_reducible refine Below.setCell ?_ ?_ _); rotate_left; (first | exact Nat.le_refl _ | (dsimp only; omega) | (simp; done) | (simp; omega))) | with_reducible refine below_alloc ?_ _ | with_reducible apply below_drewN | with_reducible apply Below.drew | with_reducible refine below_step ?_ (by assumption))), ⟨by simp (maxDischargeDepth := 8) [Bk, go_sem, *], by simp (maxDischargeDepth := 8) [Bk, go_sem, *]⟩, hHeld⟩
                exact AllReadyH.nil
              exact AllReadyH.nil
            exact AllReadyH.nil
          refine AllReadyH.cons rfl (fun K hK => ?_) ?_
          · have hOld := hHeld; clear hHeld
            have B0 := hOld.1
            have B1 := hOld.2.1
            have B2 := hOld.2.2.1
            have B3 := hOld.2.2.2
            go_simp
            refine hK.out _ _ ⟨by (repeat (first | with_reducible assumption | with_reducible apply Bk.drew | with_reducible apply Bk.alloc | ((with_reducible apply Bk.later); rotate_left; (with_reducible assumption)) | ((with_reducible apply Bk.put); rotate_left; (first | (dsimp only; omega))))), by (repeat (first | with_reducible assumption | with_reducible apply Bk.drew | with_reducible apply Bk.alloc | ((with_reducible apply Bk.later); rotate_left; (with_reducible assumption)) | ((with_reducible apply Bk.put); rotate_left; (first | (dsimp only; omega))))), by (repeat (first | with_reducible assumption | with_reducible apply Bk.drew | with_reducible apply Bk.alloc | ((with_reducible apply Bk.later); rotate_left; (with_reducible assumption)) | ((with_reducible apply Bk.put); rotate_left; (first | (dsimp only; omega))))), by (repeat (first | with_reducible assumption | with_reducible apply Bk.drew | with_reducible apply Bk.alloc | ((with_reducible apply Bk.later); rotate_left; (with_reducible assumption)) | ((with_reducible apply Bk.put); rotate_left; (first | (dsimp only; omega)))))⟩ (fun hHeld => ?_)
            clear hK K hOld B0 B1 B2 B3
            try simp only [Act.put, List.setIfInBounds_toArray, List.set_cons_zero, List.set_cons_succ]
            refine wpAnyH_ready (rs := [7]) (by kernel_rfl) (by simp) ?_
            refine AllReadyH.cons rfl (fun K hK => ?_) ?_
            · have hOld := hHeld; clear hHeld
              have B0 := hOld.1
              have B1 := hOld.2.1
              have B2 := hOld.2.2.1
              have B3 := hOld.2.2.2
              go_simp
              (go_at_call 21; (with_reducible refine (k3 _).mono ?_); rintro e wz14 ⟨rfl, hR⟩)
              have hzR := hR.size
              (try simp at hzR)
              have GR0 : Bk (wz12.heap.size) 0 [.int .i64 0, .int .u64 0] wz14 := Bk.later (by first | (simp [Bk, go_sem]; done) | (repeat (first | with_reducible assumption | with_reducible apply Bk.drew | with_reducible apply Bk.alloc | ((with_reducible apply Bk.later); rotate_left; (with_reducible assumption)) | ((with_reducible apply Bk.put); rotate_left; (first | (dsimp only; omega)))))) hR
              have GS0 := GR0; simp only [Bk] at GS0
              have nl0 : wz12.heap.size < wz14.heap.size := by omega
              have GR1 : Bk (w1.heap.size) 0 [.int .i64 0, .int .u64 0] wz14 := Bk.later (by first | (simp [Bk, go_sem]; done) | (repeat (first | with_reducible assumption | with_reducible apply Bk.drew | with_reducible apply Bk.alloc | ((with_reducible apply Bk.later); rotate_left; (with_reducible assumption)) | ((with_reducible apply Bk.put); rotate_left; (first | (dsimp only; omega)))))) hR
              have GS1 := GR1; simp only [Bk] at GS1
              have nl1 : w1.heap.size < wz14.heap.size := by omega
              have HB := below_step (W := _) (by (repeat (first | with_reducible assumption | with_reducible exact Below.refl _ _ | ((with_reducible refine Below.setCell ?_ ?_ _); rotate_left; (first | exact Nat.le_refl _ | (dsimp only; omega) | (simp; done) | (simp; omega))) | with_reducible refine below_alloc ?_ _ | with_reducible apply below_drewN | with_reducible apply Below.drew | with_reducible refine below_step ?_ (by assumption)))) hR
              (try go_wp2_with (fail))
              refine hK.out _ _ ⟨by (repeat (first | with_reducible assumption | with_reducible apply Bk.drew | with_reducible apply Bk.alloc | ((with_reducible apply Bk.later); rotate_left; (with_reducible assumption)) | ((with_reducible apply Bk.put); rotate_left; (first | (dsimp only; omega))))), by (repeat (first | with_reducible assumption | with_reducible apply Bk.drew | with_reducible apply Bk.alloc | ((with_reducible apply Bk.later); rotate_left; (with_reducible assumption)) | ((with_reducible apply Bk.put); rotate_left; (first | (dsimp only; omega))))), by (repeat (first | with_reducible assumption | with_reducible apply Bk.drew | with_reducible apply Bk.alloc | ((with_reducible apply Bk.later); rotate_left; (with_reducible assumption)) | ((with_reducible apply Bk.put); rotate_left; (first | (dsimp only; omega))))), by (repeat (first | with_reducible assumption | with_reducible apply Bk.drew | with_reducible apply Bk.alloc | ((with_reducible apply Bk.later); rotate_left; (with_reducible assumption)) | ((with_reducible apply Bk.put); rotate_left; (first | (dsimp only; omega)))))⟩ (fun hHeld => ?_)
              clear hK K hOld B0 B1 B2 B3
              try simp only [Act.put, List.setIfInBounds_toArray, List.set_cons_zero, List.set_cons_succ]
              refine wpAnyH_ready (rs := [10]) (by kernel_rfl) (by simp) ?_
              refine AllReadyH.cons rfl (fun K hK => ?_) ?_
              · have hOld := hHeld; clear hHeld
                have B0 := hOld.1
                have B1 := hOld.2.1
                have B2 := hOld.2.2.1
                have B3 := hOld.2.2.2
                have G0 : Bk (wz12.heap.size) 0 [.int .i64 0, .int .u64 0] (wz14) := by first | (simp [Bk, go_sem]; done) | (repeat (first | with_reducible assumption | with_reducible apply Bk.drew | with_reducible apply Bk.alloc | ((with_reducible apply Bk.later); rotate_left; (with_reducible assumption)) | ((with_reducible apply Bk.put); rotate_left; (first | (dsimp only; omega)))))
                simp only [Bk] at G0
                have G1 : Bk (w1.heap.size) 0 [.int .i64 0, .int .u64 0] (wz14) := by first | (simp [Bk, go_sem]; done) | (repeat (first | with_reducible assumption | with_reducible apply Bk.drew | with_reducible apply Bk.alloc | ((with_reducible apply Bk.later); rotate_left; (with_reducible assumption)) | ((with_reducible apply Bk.put); rotate_left; (first | (dsimp only; omega)))))
                simp only [Bk] at G1
                have na01 : wz12.heap.size ≠ w1.heap.size := by omega
                have nb01 := na01.symm
                go_simp
                refine hK.out _ _ ⟨by (repeat (first | with_reducible assumption | with_reducible apply Bk.drew | with_reducible apply Bk.alloc | ((with_reducible apply Bk.later); rotate_left; (with_reducible assumption)) | ((with_reducible apply Bk.put); rotate_left; (first | (dsimp only; omega))))), by (repeat (first | with_reducible assumption | with_reducible apply Bk.drew | with_reducible apply Bk.alloc | ((with_reducible apply Bk.later); rotate_left; (with_reducible assumption)) | ((with_reducible apply Bk.put); rotate_left; (first | (dsimp only; omega))))), by (repeat (first | with_reducible assumption | with_reducible apply Bk.drew | with_reducible apply Bk.alloc | ((with_reducible apply Bk.later); rotate_left; (with_reducible assumption)) | ((with_reducible apply Bk.put); rotate_left; (first | (dsimp only; omega))))), by (repeat (first | with_reducible assumption | with_reducible apply Bk.drew | with_reducible apply Bk.alloc | ((with_reducible apply Bk.later); rotate_left; (with_reducible assumption)) | ((with_reducible apply Bk.put); rotate_left; (first | (dsimp only; omega)))))⟩ (fun hHeld => ?_)
                clear hK K hOld B0 B1 B2 B3
                try simp only [Act.put, List.setIfInBounds_toArray, List.set_cons_zero, List.set_cons_succ]
                refine wpAnyH_ready (rs := [11]) (by kernel_rfl) (by simp) ?_
                refine AllReadyH.cons rfl (fun K hK => ?_) ?_
                · have hOld := hHeld; clear hHeld
                  have B0 := hOld.1
                  have B1 := hOld.2.1
                  have B2 := hOld.2.2.1
                  have B3 := hOld.2.2.2
                  go_simp
                  refine hK.out _ _ ⟨by (repeat (first | with_reducible assumption | with_reducible apply Bk.drew | with_reducible apply Bk.alloc | ((with_reducible apply Bk.later); rotate_left; (with_reducible assumption)) | ((with_reducible apply Bk.put); rotate_left; (first | (dsimp only; omega))))), by (repeat (first | with_reducible assumption | with_reducible apply Bk.drew | with_reducible apply Bk.alloc | ((with_reducible apply Bk.later); rotate_left; (with_reducible assumption)) | ((with_reducible apply Bk.put); rotate_left; (first | (dsimp only; omega))))), by (repeat (first | with_reducible assumption | with_reducible apply Bk.drew | with_reducible apply Bk.alloc | ((with_reducible apply Bk.later); rotate_left; (with_reducible assumption)) | ((with_reducible apply Bk.put); rotate_left; (first | (dsimp only; omega))))), by (repeat (first | with_reducible assumption | with_reducible apply Bk.drew | with_reducible apply Bk.alloc | ((with_reducible apply Bk.later); rotate_left; (with_reducible assumption)) | ((with_reducible apply Bk.put); rotate_left; (first | (dsimp only; omega)))))⟩ (fun hHeld => ?_)
                  clear hK K hOld B0 B1 B2 B3
                  try simp only [Act.put, List.setIfInBounds_toArray, List.set_cons_zero, List.set_cons_succ]
                  refine wpAnyH_done (by kernel_rfl) ?_ _
                  (try refine NoPanic.normal ?_)
                  go_wp2
                  go_meet
                  exact ⟨_, _, rfl, rfl, by (repeat (first | with_reducible assumption | with_reducible exact Below.refl _ _ | ((with_reducible refine Below.setCell ?_ ?_ _); rotate_left; (first | exact Nat.le_refl _ | (dsimp only; omega) | (simp; done) | (simp; omega))) | with_reducible refine below_alloc ?_ _ | with_reducible apply below_drewN | with_reducible apply Below.drew | with_reducible refine below_step ?_ (by assumption))), ⟨by simp (maxDischargeDepth := 8) [Bk, go_sem, *], by simp (maxDischargeDepth := 8) [Bk, go_sem, *]⟩, hHeld⟩
                exact AllReadyH.nil
              exact AllReadyH.nil
            exact AllReadyH.nil
          exact AllReadyH.nil
        refine AllReadyH.cons rfl (fun K hK => ?_) ?_
        · have hOld := hHeld; clear hHeld
          have B0 := hOld.1
          have B1 := hOld.2.1
          have B2 := hOld.2.2.1
          have B3 := hOld.2.2.2
          go_simp
          refine hK.out _ _ ⟨by (repeat (first | with_reducible assumption | with_reducible apply Bk.drew | with_reducible apply Bk.alloc | ((with_reducible apply Bk.later); rotate_left; (with_reducible assumption)) | ((with_reducible apply Bk.put); rotate_left; (first | (dsimp only; omega))))), by (repeat (first | with_reducible assumption | with_reducible apply Bk.drew | with_reducible apply Bk.alloc | ((with_reducible apply Bk.later); rotate_left; (with_reducible assumption)) | ((with_reducible apply Bk.put); rotate_left; (first | (dsimp only; omega))))), by (repeat (first | with_reducible assumption | with_reducible apply Bk.drew | with_reducible apply Bk.alloc | ((with_reducible apply Bk.later); rotate_left; (with_reducible assumption)) | ((with_reducible apply Bk.put); rotate_left; (first | (dsimp only; omega))))), by (repeat (first | with_reducible assumption | with_reducible apply Bk.drew | with_reducible apply Bk.alloc | ((with_reducible apply Bk.later); rotate_left; (with_reducible assumption)) | ((with_reducible apply Bk.put); rotate_left; (first | (dsimp only; omega)))))⟩ (fun hHeld => ?_)
          clear hK K hOld B0 B1 B2 B3
          try simp only [Act.put, List.setIfInBounds_toArray, List.set_cons_zero, List.set_cons_succ]
          refine wpAnyH_ready (rs := [3]) (by kernel_rfl) (by simp) ?_
          refine AllReadyH.cons rfl (fun K hK => ?_) ?_
          · have hOld := hHeld; clear hHeld
            have B0 := hOld.1
            have B1 := hOld.2.1
            have B2 := hOld.2.2.1
            have B3 := hOld.2.2.2
            go_simp
            (go_at_call 21; (with_reducible refine (k2 _).mono ?_); rintro e wz15 ⟨rfl, hR⟩)
            have hzR := hR.size
            (try simp at hzR)
            have GR0 : Bk (w1.heap.size + 1) 0 [.int .i64 0, .int .u64 0] wz15 := Bk.later (by first | (simp [Bk, go_sem]; done) | (repeat (first | with_reducible assumption | with_reducible apply Bk.drew | with_reducible apply Bk.alloc | ((with_reducible apply Bk.later); rotate_left; (with_reducible assumption)) | ((with_reducible apply Bk.put); rotate_left; (first | (dsimp only; omega)))))) hR
            have GS0 := GR0; simp only [Bk] at GS0
            have nl0 : w1.heap.size + 1 < wz15.heap.size := by omega
            have GR1 : Bk (w1.heap.size) 0 [.int .i64 0, .int .u64 0] wz15 := Bk.later (by first | (simp [Bk, go_sem]; done) | (repeat (first | with_reducible assumption | with_reducible apply Bk.drew | with_reducible apply Bk.alloc | ((with_reducible apply Bk.later); rotate_left; (with_reducible assumption)) | ((with_reducible apply Bk.put); rotate_left; (first | (dsimp only; omega)))))) hR
            have GS1 := GR1; simp only [Bk] at GS1
            have nl1 : w1.heap.size < wz15.heap.size := by omega
            have HB := below_step (W := _) (by (repeat (first | with_reducible assumption | with_reducible exact Below.refl _ _ | ((with_reducible refine Below.setCell ?_ ?_ _); rotate_left; (first | exact Nat.le_refl _ | (dsimp only; omega) | (simp; done) | (simp; omega))) | with_reducible refine below_alloc ?_ _ | with_reducible apply below_drewN | with_reducible apply Below.drew | with_reducible refine below_step ?_ (by assumption)))) hR
            (try go_wp2_with (fail))
            refine hK.out _ _ ⟨by (repeat (first | with_reducible assumption | with_reducible apply Bk.drew | with_reducible apply Bk.alloc | ((with_reducible apply Bk.later); rotate_left; (with_reducible assumption)) | ((with_reducible apply Bk.put); rotate_left; (first | (dsimp only; omega))))), by (repeat (first | with_reducible assumption | with_reducible apply Bk.drew | with_reducible apply Bk.alloc | ((with_reducible apply Bk.later); rotate_left; (with_reducible assumption)) | ((with_reducible apply Bk.put); rotate_left; (first | (dsimp only; omega))))), by (repeat (first | with_reducible assumption | with_reducible apply Bk.drew | with_reducible apply Bk.alloc | ((with_reducible apply Bk.later); rotate_left; (with_reducible assumption)) | ((with_reducible apply Bk.put); rotate_left; (first | (dsimp only; omega))))), by (repeat (first | with_reducible assumption | with_reducible apply Bk.drew | with_reducible apply Bk.alloc | ((with_reducible apply Bk.later); rotate_left; (with_reducible assumption)) | ((with_reducible apply Bk.put); rotate_left; (first | (dsimp only; omega)))))⟩ (fun hHeld => ?_)
            clear hK K hOld B0 B1 B2 B3
            try simp only [Act.put, List.setIfInBounds_toArray, List.set_cons_zero, List.set_cons_succ]
            refine wpAnyH_ready (rs := [7]) (by kernel_rfl) (by simp) ?_
            refine AllReadyH.cons rfl (fun K hK => ?_) ?_
            · have hOld := hHeld; clear hHeld
              have B0 := hOld.1
              have B1 := hOld.2.1
              have B2 := hOld.2.2.1
              have B3 := hOld.2.2.2
              go_simp
              (go_at_call 21; (with_reducible refine (k3 _).mono ?_); rintro e wz16 ⟨rfl, hR⟩)
              have hzR := hR.size
              (try simp at hzR)
              have GR0 : Bk (w1.heap.size + 1) 0 [.int .i64 0, .int .u64 0] wz16 := Bk.later (by first | (simp [Bk, go_sem]; done) | (repeat (first | with_reducible assumption | with_reducible apply Bk.drew | with_reducible apply Bk.alloc | ((with_reducible apply Bk.later); rotate_left; (with_reducible assumption)) | ((with_reducible apply Bk.put); rotate_left; (first | (dsimp only; omega)))))) hR
              have GS0 := GR0; simp only [Bk] at GS0
              have nl0 : w1.heap.size + 1 < wz16.heap.size := by omega
              have GR1 : Bk (w1.heap.size) 0 [.int .i64 0, .int .u64 0] wz16 := Bk.later (by first | (simp [Bk, go_sem]; done) | (repeat (first | with_reducible assumption | with_reducible apply Bk.drew | with_reducible apply Bk.alloc | ((with_reducible apply Bk.later); rotate_left; (with_reducible assumption)) | ((with_reducible apply Bk.put); rotate_left; (first | (dsimp only; omega)))))) hR
              have GS1 := GR1; simp only [Bk] at GS1
              have nl1 : w1.heap.size < wz16.heap.size := by omega
              have HB := below_step (W := _) (by (repeat (first | with_reducible assumption | with_reducible exact Below.refl _ _ | ((with_reducible refine Below.setCell ?_ ?_ _); rotate_left; (first | exact Nat.le_refl _ | (dsimp only; omega) | (simp; done) | (simp; omega))) | with_reducible refine below_alloc ?_ _ | with_reducible apply below_drewN | with_reducible apply Below.drew | with_reducible refine below_step ?_ (by assumption)))) hR
              (try go_wp2_with (fail))
              refine hK.out _ _ ⟨by (repeat (first | with_reducible assumption | with_reducible apply Bk.drew | with_reducible apply Bk.alloc | ((with_reducible apply Bk.later); rotate_left; (with_reducible assumption)) | ((with_reducible apply Bk.put); rotate_left; (first | (dsimp only; omega))))), by (repeat (first | with_reducible assumption | with_reducible apply Bk.drew | with_reducible apply Bk.alloc | ((with_reducible apply Bk.later); rotate_left; (with_reducible assumption)) | ((with_reducible apply Bk.put); rotate_left; (first | (dsimp only; omega))))), by (repeat (first | with_reducible assumption | with_reducible apply Bk.drew | with_reducible apply Bk.alloc | ((with_reducible apply Bk.later); rotate_left; (with_reducible assumption)) | ((with_reducible apply Bk.put); rotate_left; (first | (dsimp only; omega))))), by (repeat (first | with_reducible assumption | with_reducible apply Bk.drew | with_reducible apply Bk.alloc | ((with_reducible apply Bk.later); rotate_left; (with_reducible assumption)) | ((with_reducible apply Bk.put); rotate_left; (first | (dsimp only; omega)))))⟩ (fun hHeld => ?_)
              clear hK K hOld B0 B1 B2 B3
              try simp only [Act.put, List.setIfInBounds_toArray, List.set_cons_zero, List.set_cons_succ]
              refine wpAnyH_ready (rs := [10]) (by kernel_rfl) (by simp) ?_
              refine AllReadyH.cons rfl (fun K hK => ?_) ?_
              · have hOld := hHeld; clear hHeld
                have B0 := hOld.1
                have B1 := hOld.2.1
                have B2 := hOld.2.2.1
                have B3 := hOld.2.2.2
                have G0 : Bk (w1.heap.size + 1) 0 [.int .i64 0, .int .u64 0] (wz16) := by first | (simp [Bk, go_sem]; done) | (repeat (first | with_reducible assumption | with_reducible apply Bk.drew | with_reducible apply Bk.alloc | ((with_reducible apply Bk.later); rotate_left; (with_reducible assumption)) | ((with_reducible apply Bk.put); rotate_left; (first | (dsimp only; omega)))))
                simp only [Bk] at G0
                have G1 : Bk (w1.heap.size) 0 [.int .i64 0, .int .u64 0] (wz16) := by first | (simp [Bk, go_sem]; done) | (repeat (first | with_reducible assumption | with_reducible apply Bk.drew | with_reducible apply Bk.alloc | ((with_reducible apply Bk.later); rotate_left; (with_reducible assumption)) | ((with_reducible apply Bk.put); rotate_left; (first | (dsimp only; omega)))))
                simp only [Bk] at G1
                have na01 : w1.heap.size + 1 ≠ w1.heap.size := by omega
                have nb01 := na01.symm
                go_simp
                refine hK.out _ _ ⟨by (repeat (first | with_reducible assumption | with_reducible apply Bk.drew | with_reducible apply Bk.alloc | ((with_reducible apply Bk.later); rotate_left; (with_reducible assumption)) | ((with_reducible apply Bk.put); rotate_left; (first | (dsimp only; omega))))), by (repeat (first | with_reducible assumption | with_reducible apply Bk.drew | with_reducible apply Bk.alloc | ((with_reducible apply Bk.later); rotate_left; (with_reducible assumption)) | ((with_reducible apply Bk.put); rotate_left; (first | (dsimp only; omega))))), by (repeat (first | with_reducible assumption | with_reducible apply Bk.drew | with_reducible apply Bk.alloc | ((with_reducible apply Bk.later); rotate_left; (with_reducible assumption)) | ((with_reducible apply Bk.put); rotate_left; (first | (dsimp only; omega))))), by (repeat (first | with_reducible assumption | with_reducible apply Bk.drew | with_reducible apply Bk.alloc | ((with_reducible apply Bk.later); rotate_left; (with_reducible assumption)) | ((with_reducible apply Bk.put); rotate_left; (first | (dsimp only; omega)))))⟩ (fun hHeld => ?_)
                clear hK K hOld B0 B1 B2 B3
                try simp only [Act.put, List.setIfInBounds_toArray, List.set_cons_zero, List.set_cons_succ]
                refine wpAnyH_ready (rs := [11]) (by kernel_rfl) (by simp) ?_
                refine AllReadyH.cons rfl (fun K hK => ?_) ?_
                · have hOld := hHeld; clear hHeld
                  have B0 := hOld.1
                  have B1 := hOld.2.1
                  have B2 := hOld.2.2.1
                  have B3 := hOld.2.2.2
                  go_simp
                  refine hK.out _ _ ⟨by (repeat (first | with_reducible assumption | with_reducible apply Bk.drew | with_reducible apply Bk.alloc | ((with_reducible apply Bk.later); rotate_left; (with_reducible assumption)) | ((with_reducible apply Bk.put); rotate_left; (first | (dsimp only; omega))))), by (repeat (first | with_reducible assumption | with_reducible apply Bk.drew | with_reducible apply Bk.alloc | ((with_reducible apply Bk.later); rotate_left; (with_reducible assumption)) | ((with_reducible apply Bk.put); rotate_left; (first | (dsimp only; omega))))), by (repeat (first | with_reducible assumption | with_reducible apply Bk.drew | with_reducible apply Bk.alloc | ((with_reducible apply Bk.later); rotate_left; (with_reducible assumption)) | ((with_reducible apply Bk.put); rotate_left; (first | (dsimp only; omega))))), by (repeat (first | with_reducible assumption | with_reducible apply Bk.drew | with_reducible apply Bk.alloc | ((with_reducible apply Bk.later); rotate_left; (with_reducible assumption)) | ((with_reducible apply Bk.put); rotate_left; (first | (dsimp only; omega)))))⟩ (fun hHeld => ?_)
                  clear hK K hOld B0 B1 B2 B3
                  try simp only [Act.put, List.setIfInBounds_toArray, List.set_cons_zero, List.set_cons_succ]
                  refine wpAnyH_done (by kernel_rfl) ?_ _
                  (try refine NoPanic.normal ?_)
                  go_wp2
                  go_meet
                  exact ⟨_, _, rfl, rfl, by (repeat (first | with_reducible assumption | with_reducible exact Below.refl _ _ | ((with_reducible refine Below.setCell ?_ ?_ _); rotate_left; (first | exact Nat.le_refl _ | (dsimp only; omega) | (simp; done) | (simp; omega))) | with_reducible refine below_alloc ?_ _ | with_reducible apply below_drewN | with_reducible apply Below.drew | with_reducible refine below_step ?_ (by assumption))), ⟨by simp (maxDischargeDepth := 8) [Bk, go_sem, *], by simp (maxDischargeDepth := 8) [Bk, go_sem, *]⟩, hHeld⟩
                exact AllReadyH.nil
              exact AllReadyH.nil
            exact AllReadyH.nil
          exact AllReadyH.nil
        exact AllReadyH.nil
      exact AllReadyH.nil
    case rest =>
      obtain ⟨g, h, rfl, rfl, HB, ⟨G, H⟩, B0, B1, B2, B3⟩ := hcut
      clear k2 k3
      have Q := G; simp only [Bk] at Q
      have R := H; simp only [Bk] at R
      have C0 := B0; simp only [Bk] at C0
      have C1 := B1; simp only [Bk] at C1
      have C2 := B2; simp only [Bk] at C2
      have C3 := B3; simp only [Bk] at C3
      rcases (show 0 < s ∨ (s ≤ 0 ∧ t ≤ 0) ∨ (s ≤ 0 ∧ 0 < t ∧ e < 0) ∨ (s ≤ 0 ∧ 0 < t ∧ 0 ≤ e ∧ 0 ≤ f) ∨ (s ≤ 0 ∧ 0 < t ∧ 0 ≤ e ∧ f < 0) from by omega) with h1 | ⟨h1, h2⟩ | ⟨h1, h2, h3⟩ | ⟨h1, h2, h3, h4⟩ | ⟨h1, h2, h3, h4⟩
      · have EB : Hid (B = false) := Lib.hid (by rw [HE.out.1, decide_eq_true h1]; rfl)
        have EV : Hid (V = 0) := Lib.hid (by rw [HE.out.2, EB.out]; rfl)
        have u1 : 0 < zs := HC.out.1.2 h1
        have u1' := decide_eq_true u1
        go_wp2_with (first | ((go_at_call 20; (with_reducible refine (k6 _).mono ?_); rintro e9 w1 ⟨rfl, hM⟩); have G := G.later hM; have H := H.later hM; have B0 := B0.later hM; have B1 := B1.later hM; have B2 := B2.later hM; have B3 := B3.later hM; have HB := below_step HB hM; have Q := G; simp only [Bk] at Q; have R := H; simp only [Bk] at R; have C0 := B0; simp only [Bk] at C0; have C1 := B1; simp only [Bk] at C1; have C2 := B2; simp only [Bk] at C2; have C3 := B3; simp only [Bk] at C3) | ((go_at_call 20; (with_reducible refine (k7 _).mono ?_); rintro e9 w1 ⟨rfl, hM⟩); have G := G.later hM; have H := H.later hM; have B0 := B0.later hM; have B1 := B1.later hM; have B2 := B2.later hM; have B3 := B3.later hM; have HB := below_step HB hM; have Q := G; simp only [Bk] at Q; have R := H; simp only [Bk] at R; have C0 := B0; simp only [Bk] at C0; have C1 := B1; simp only [Bk] at C1; have C2 := B2; simp only [Bk] at C2; have C3 := B3; simp only [Bk] at C3) | ((go_at_call 10; (with_reducible refine (k4 _).mono ?_); rintro e9 w1 ⟨rfl, hM⟩); have G := G.later hM; have H := H.later hM; have B0 := B0.later hM; have B1 := B1.later hM; have B2 := B2.later hM; have B3 := B3.later hM; have HB := below_step HB hM; have Q := G; simp only [Bk] at Q; have R := H; simp only [Bk] at R; have C0 := B0; simp only [Bk] at C0; have C1 := B1; simp only [Bk] at C1; have C2 := B2; simp only [Bk] at C2; have C3 := B3; simp only [Bk] at C3) | ((go_at_call 10; (with_reducible refine (k5 _).mono ?_); rintro e9 w1 ⟨rfl, hM⟩); have G := G.later hM; have H := H.later hM; have B0 := B0.later hM; have B1 := B1.later hM; have B2 := B2.later hM; have B3 := B3.later hM; have HB := below_step HB hM; have Q := G; simp only [Bk] at Q; have R := H; simp only [Bk] at R; have C0 := B0; simp only [Bk] at C0; have C1 := B1; simp only [Bk] at C1; have C2 := B2; simp only [Bk] at C2; have C3 := B3; simp only [Bk] at C3))
        go_ret2
        exact ⟨by rw [EB.out, EV.out]; rfl, by first | exact HB | (repeat (first | with_reducible assumption | with_reducible exact Below.refl _ _ | ((with_reducible refine Below.setCell ?_ ?_ _); rotate_left; (first | exact Nat.le_refl _ | (dsimp only; omega) | (simp; done) | (simp; omega))) | with_reducible refine below_alloc ?_ _ | with_reducible apply below_drewN | with_reducible apply Below.drew | with_reducible refine below_step ?_ (by assumption)))⟩
      · have EB : Hid (B = false) := Lib.hid (by rw [HE.out.1, decide_eq_true h2, Bool.or_true]; rfl)
        have EV : Hid (V = 0) := Lib.hid (by rw [HE.out.2, EB.out]; rfl)
        have u1 : ¬ 0 < zs := fun h => by have := HC.out.1.1 h; omega
        have u2 : zt ≤ 0 := Int.not_lt.1 (fun h => by have := HC.out.2.1 h; omega)
        have u1' := decide_eq_false u1
        have u2' := decide_eq_true u2
        go_wp2_with (first | ((go_at_call 20; (with_reducible refine (k6 _).mono ?_); rintro e9 w1 ⟨rfl, hM⟩); have G := G.later hM; have H := H.later hM; have B0 := B0.later hM; have B1 := B1.later hM; have B2 := B2.later hM; have B3 := B3.later hM; have HB := below_step HB hM; have Q := G; simp only [Bk] at Q; have R := H; simp only [Bk] at R; have C0 := B0; simp only [Bk] at C0; have C1 := B1; simp only [Bk] at C1; have C2 := B2; simp only [Bk] at C2; have C3 := B3; simp only [Bk] at C3) | ((go_at_call 20; (with_reducible refine (k7 _).mono ?_); rintro e9 w1 ⟨rfl, hM⟩); have G := G.later hM; have H := H.later hM; have B0 := B0.later hM; have B1 := B1.later hM; have B2 := B2.later hM; have B3 := B3.later hM; have HB := below_step HB hM; have Q := G; simp only [Bk] at Q; have R := H; simp only [Bk] at R; have C0 := B0; simp only [Bk] at C0; have C1 := B1; simp only [Bk] at C1; have C2 := B2; simp only [Bk] at C2; have C3 := B3; simp only [Bk] at C3) | ((go_at_call 10; (with_reducible refine (k4 _).mono ?_); rintro e9 w1 ⟨rfl, hM⟩); have G := G.later hM; have H := H.later hM; have B0 := B0.later hM; have B1 := B1.later hM; have B2 := B2.later hM; have B3 := B3.later hM; have HB := below_step HB hM; have Q := G; simp only [Bk] at Q; have R := H; simp only [Bk] at R; have C0 := B0; simp only [Bk] at C0; have C1 := B1; simp only [Bk] at C1; have C2 := B2; simp only [Bk] at C2; have C3 := B3; simp only [Bk] at C3) | ((go_at_call 10; (with_reducible refine (k5 _).mono ?_); rintro e9 w1 ⟨rfl, hM⟩); have G := G.later hM; have H := H.later hM; have B0 := B0.later hM; have B1 := B1.later hM; have B2 := B2.later hM; have B3 := B3.later hM; have HB := below_step HB hM; have Q := G; simp only [Bk] at Q; have R := H; simp only [Bk] at R; have C0 := B0; simp only [Bk] at C0; have C1 := B1; simp only [Bk] at C1; have C2 := B2; simp only [Bk] at C2; have C3 := B3; simp only [Bk] at C3))
        go_ret2
        exact ⟨by rw [EB.out, EV.out]; rfl, by first | exact HB | (repeat (first | with_reducible assumption | with_reducible exact Below.refl _ _ | ((with_reducible refine Below.setCell ?_ ?_ _); rotate_left; (first | exact Nat.le_refl _ | (dsimp only; omega) | (simp; done) | (simp; omega))) | with_reducible refine below_alloc ?_ _ | with_reducible apply below_drewN | with_reducible apply Below.drew | with_reducible refine below_step ?_ (by assumption)))⟩
      · have EB : Hid (B = false) := Lib.hid (by rw [HE.out.1, decide_eq_true h3]; simp)
        have EV : Hid (V = 0) := Lib.hid (by rw [HE.out.2, EB.out]; rfl)
        have u1 : ¬ 0 < zs := fun h => by have := HC.out.1.1 h; omega
        have u2 : ¬ zt ≤ 0 := by have := HC.out.2.2 h2; omega
        have u1' := decide_eq_false u1
        have u2' := decide_eq_false u2
        have u3' := decide_eq_true h3
        go_wp2_with (first | ((go_at_call 20; (with_reducible refine (k6 _).mono ?_); rintro e9 w1 ⟨rfl, hM⟩); have G := G.later hM; have H := H.later hM; have B0 := B0.later hM; have B1 := B1.later hM; have B2 := B2.later hM; have B3 := B3.later hM; have HB := below_step HB hM; have Q := G; simp only [Bk] at Q; have R := H; simp only [Bk] at R; have C0 := B0; simp only [Bk] at C0; have C1 := B1; simp only [Bk] at C1; have C2 := B2; simp only [Bk] at C2; have C3 := B3; simp only [Bk] at C3) | ((go_at_call 20; (with_reducible refine (k7 _).mono ?_); rintro e9 w1 ⟨rfl, hM⟩); have G := G.later hM; have H := H.later hM; have B0 := B0.later hM; have B1 := B1.later hM; have B2 := B2.later hM; have B3 := B3.later hM; have HB := below_step HB hM; have Q := G; simp only [Bk] at Q; have R := H; simp only [Bk] at R; have C0 := B0; simp only [Bk] at C0; have C1 := B1; simp only [Bk] at C1; have C2 := B2; simp only [Bk] at C2; have C3 := B3; simp only [Bk] at C3) | ((go_at_call 10; (with_reducible refine (k4 _).mono ?_); rintro e9 w1 ⟨rfl, hM⟩); have G := G.later hM; have H := H.later hM; have B0 := B0.later hM; have B1 := B1.later hM; have B2 := B2.later hM; have B3 := B3.later hM; have HB := below_step HB hM; have Q := G; simp only [Bk] at Q; have R := H; simp only [Bk] at R; have C0 := B0; simp only [Bk] at C0; have C1 := B1; simp only [Bk] at C1; have C2 := B2; simp only [Bk] at C2; have C3 := B3; simp only [Bk] at C3) | ((go_at_call 10; (with_reducible refine (k5 _).mono ?_); rintro e9 w1 ⟨rfl, hM⟩); have G := G.later hM; have H := H.later hM; have B0 := B0.later hM; have B1 := B1.later hM; have B2 := B2.later hM; have B3 := B3.later hM; have HB := below_step HB hM; have Q := G; simp only [Bk] at Q; have R := H; simp only [Bk] at R; have C0 := B0; simp only [Bk] at C0; have C1 := B1; simp only [Bk] at C1; have C2 := B2; simp only [Bk] at C2; have C3 := B3; simp only [Bk] at C3))
        go_ret2
        exact ⟨by rw [EB.out, EV.out]; rfl, by first | exact HB | (repeat (first | with_reducible assumption | with_reducible exact Below.refl _ _ | ((with_reducible refine Below.setCell ?_ ?_ _); rotate_left; (first | exact Nat.le_refl _ | (dsimp only; omega) | (simp; done) | (simp; omega))) | with_reducible refine below_alloc ?_ _ | with_reducible apply below_drewN | with_reducible apply Below.drew | with_reducible refine below_step ?_ (by assumption)))⟩
      · have EB : Hid (B = false) := Lib.hid (by rw [HE.out.1, decide_eq_true h4, Bool.or_true]; simp)
        have EV : Hid (V = 0) := Lib.hid (by rw [HE.out.2, EB.out]; rfl)
        have u1 : ¬ 0 < zs := fun h => by have := HC.out.1.1 h; omega
        have u2 : ¬ zt ≤ 0 := by have := HC.out.2.2 h2; omega
        have u1' := decide_eq_false u1
        have u2' := decide_eq_false u2
        have u3 : ¬ e < 0 := by omega
        have u3' := decide_eq_false u3
        have u4' := decide_eq_true h4
        go_wp2_with (first | ((go_at_call 20; (with_reducible refine (k6 _).mono ?_); rintro e9 w1 ⟨rfl, hM⟩); have G := G.later hM; have H := H.later hM; have B0 := B0.later hM; have B1 := B1.later hM; have B2 := B2.later hM; have B3 := B3.later hM; have HB := below_step HB hM; have Q := G; simp only [Bk] at Q; have R := H; simp only [Bk] at R; have C0 := B0; simp only [Bk] at C0; have C1 := B1; simp only [Bk] at C1; have C2 := B2; simp only [Bk] at C2; have C3 := B3; simp only [Bk] at C3) | ((go_at_call 20; (with_reducible refine (k7 _).mono ?_); rintro e9 w1 ⟨rfl, hM⟩); have G := G.later hM; have H := H.later hM; have B0 := B0.later hM; have B1 := B1.later hM; have B2 := B2.later hM; have B3 := B3.later hM; have HB := below_step HB hM; have Q := G; simp only [Bk] at Q; have R := H; simp only [Bk] at R; have C0 := B0; simp only [Bk] at C0; have C1 := B1; simp only [Bk] at C1; have C2 := B2; simp only [Bk] at C2; have C3 := B3; simp only [Bk] at C3) | ((go_at_call 10; (with_reducible refine (k4 _).mono ?_); rintro e9 w1 ⟨rfl, hM⟩); have G := G.later hM; have H := H.later hM; have B0 := B0.later hM; have B1 := B1.later hM; have B2 := B2.later hM; have B3 := B3.later hM; have HB := below_step HB hM; have Q := G; simp only [Bk] at Q; have R := H; simp only [Bk] at R; have C0 := B0; simp only [Bk] at C0; have C1 := B1; simp only [Bk] at C1; have C2 := B2; simp only [Bk] at C2; have C3 := B3; simp only [Bk] at C3) | ((go_at_call 10; (with_reducible refine (k5 _).mono ?_); rintro e9 w1 ⟨rfl, hM⟩); have G := G.later hM; have H := H.later hM; have B0 := B0.later hM; have B1 := B1.later hM; have B2 := B2.later hM; have B3 := B3.later hM; have HB := below_step HB hM; have Q := G; simp only [Bk] at Q; have R := H; simp only [Bk] at R; have C0 := B0; simp only [Bk] at C0; have C1 := B1; simp only [Bk] at C1; have C2 := B2; simp only [Bk] at C2; have C3 := B3; simp only [Bk] at C3))
        go_ret2
        exact ⟨by rw [EB.out, EV.out]; rfl, by first | exact HB | (repeat (first | with_reducible assumption | with_reducible exact Below.refl _ _ | ((with_reducible refine Below.setCell ?_ ?_ _); rotate_left; (first | exact Nat.le_refl _ | (dsimp only; omega) | (simp; done) | (simp; omega))) | with_reducible refine below_alloc ?_ _ | with_reducible apply below_drewN | with_reducible apply Below.drew | with_reducible refine below_step ?_ (by assumption)))⟩
      · have EB : Hid (B = true) := Lib.hid (by rw [HE.out.1, decide_eq_false (show ¬ 0 < s by omega), decide_eq_false (show ¬ t ≤ 0 by omega), decide_eq_false (show ¬ e < 0 by omega), decide_eq_false (show ¬ 0 ≤ f by omega)]; rfl)
        have EV : Hid (V = pt (-s) (t - s)) := Lib.hid (by rw [HE.out.2, EB.out]; rfl)
        have u1 : ¬ 0 < zs := fun h => by have := HC.out.1.1 h; omega
        have u2 : ¬ zt ≤ 0 := by have := HC.out.2.2 h2; omega
        have u1' := decide_eq_false u1
        have u2' := decide_eq_false u2
        have u3 : ¬ e < 0 := by omega
        have u3' := decide_eq_false u3
        have u4 : ¬ 0 ≤ f := by omega
        have u4' := decide_eq_false u4
        go_upto_region 9 with (first | ((go_at_call 20; (with_reducible refine (k6 _).mono ?_); rintro e9 w1 ⟨rfl, hM⟩); have G := G.later hM; have H := H.later hM; have B0 := B0.later hM; have B1 := B1.later hM; have B2 := B2.later hM; have B3 := B3.later hM; have HB := below_step HB hM; have Q := G; simp only [Bk] at Q; have R := H; simp only [Bk] at R; have C0 := B0; simp only [Bk] at C0; have C1 := B1; simp only [Bk] at C1; have C2 := B2; simp only [Bk] at C2; have C3 := B3; simp only [Bk] at C3) | ((go_at_call 20; (with_reducible refine (k7 _).mono ?_); rintro e9 w1 ⟨rfl, hM⟩); have G := G.later hM; have H := H.later hM; have B0 := B0.later hM; have B1 := B1.later hM; have B2 := B2.later hM; have B3 := B3.later hM; have HB := below_step HB hM; have Q := G; simp only [Bk] at Q; have R := H; simp only [Bk] at R; have C0 := B0; simp only [Bk] at C0; have C1 := B1; simp only [Bk] at C1; have C2 := B2; simp only [Bk] at C2; have C3 := B3; simp only [Bk] at C3) | ((go_at_call 10; (with_reducible refine (k4 _).mono ?_); rintro e9 w1 ⟨rfl, hM⟩); have G := G.later hM; have H := H.later hM; have B0 := B0.later hM; have B1 := B1.later hM; have B2 := B2.later hM; have B3 := B3.later hM; have HB := below_step HB hM; have Q := G; simp only [Bk] at Q; have R := H; simp only [Bk] at R; have C0 := B0; simp only [Bk] at C0; have C1 := B1; simp only [Bk] at C1; have C2 := B2; simp only [Bk] at C2; have C3 := B3; simp only [Bk] at C3) | ((go_at_call 10; (with_reducible refine (k5 _).mono ?_); rintro e9 w1 ⟨rfl, hM⟩); have G := G.later hM; have H := H.later hM; have B0 := B0.later hM; have B1 := B1.later hM; have B2 := B2.later hM; have B3 := B3.later hM; have HB := below_step HB hM; have Q := G; simp only [Bk] at Q; have R := H; simp only [Bk] at R; have C0 := B0; simp only [Bk] at C0; have C1 := B1; simp only [Bk] at C1; have C2 := B2; simp only [Bk] at C2; have C3 := B3; simp only [Bk] at C3))
        have hzg := World.block_lt_of_cell? w1 _ Q.1
        have hzh := World.block_lt_of_cell? w1 _ R.1
        dsimp only at hzg hzh
        generalize pt (-s) (t - s) = pv at *
        (try refine wp_region_noPanic ?_)
        refine wp_region_held_drew (S := (fun (w' : World) => w'.cell? ⟨w1.heap.size, 0, none⟩ = some (.int .i64 0) ∧ w'.cell? ⟨w1.heap.size, 1, none⟩ = some (.int .u64 0) ∧ w'.cell? ⟨g, 0, none⟩ = some (.int .i64 (hw s)) ∧ w'.cell? ⟨g, 1, none⟩ = some (.int .u64 (lw s)) ∧ w'.cell? ⟨h, 0, none⟩ = some (.int .i64 (hw t)) ∧ w'.cell? ⟨h, 1, none⟩ = some (.int .u64 (lw t)))) (by kernel_rfl) ⟨(by first | (simp (maxDischargeDepth := 6) [go_sem, *]; done)), (by first | (simp (maxDischargeDepth := 6) [go_sem, *]; done)), (by first | (simp (maxDischargeDepth := 6) [go_sem, *]; done)), (by first | (simp (maxDischargeDepth := 6) [go_sem, *]; done)), (by first | (simp (maxDischargeDepth := 6) [go_sem, *]; done)), (by first | (simp (maxDischargeDepth := 6) [go_sem, *]; done))⟩ (fun hHeld => ?_)
        refine wpAnyH_take (i := 0) (v := ?_) (by simp only [List.getElem?_toArray, List.getElem?_cons_succ, List.getElem?_cons_zero]; rfl) (by kernel_rfl) (by kernel_rfl) (by kernel_rfl) (fun _ _ _ h => h) (Or.inl ⟨by rfl, ?_⟩) (by assumption) ?_
        rotate_left
        · intro w hSw; (try dsimp only at hSw); go_simp; try with_reducible rfl
        try simp only [Act.put, List.setIfInBounds_toArray, List.set_cons_zero, List.set_cons_succ]
        refine wpAnyH_take (i := 1) (v := ?_) (by simp only [List.getElem?_toArray, List.getElem?_cons_succ, List.getElem?_cons_zero]; rfl) (by kernel_rfl) (by kernel_rfl) (by kernel_rfl) (fun _ _ _ h => h) (Or.inl ⟨by rfl, ?_⟩) (by assumption) ?_
        rotate_left
        · intro w hSw; (try dsimp only at hSw); go_simp; try with_reducible rfl
        try simp only [Act.put, List.setIfInBounds_toArray, List.set_cons_zero, List.set_cons_succ]
        refine wpAnyH_take (i := 3) (v := ?_) (by simp only [List.getElem?_toArray, List.getElem?_cons_succ, List.getElem?_cons_zero]; rfl) (by kernel_rfl) (by kernel_rfl) (by kernel_rfl) (fun _ _ _ h => h) (Or.inl ⟨by rfl, ?_⟩) (by assumption) ?_
        rotate_left
        · intro w hSw; (try dsimp only at hSw); go_simp; try with_reducible rfl
        try simp only [Act.put, List.setIfInBounds_toArray, List.set_cons_zero, List.set_cons_succ]
        refine wpAnyH_take (i := 4) (v := ?_) (by simp only [List.getElem?_toArray, List.getElem?_cons_succ, List.getElem?_cons_zero]; rfl) (by kernel_rfl) (by kernel_rfl) (by kernel_rfl) (fun _ _ _ h => h) (Or.inl ⟨by rfl, ?_⟩) (by assumption) ?_
        rotate_left
        · intro w hSw; (try dsimp only at hSw); go_simp; try with_reducible rfl
        try simp only [Act.put, List.setIfInBounds_toArray, List.set_cons_zero, List.set_cons_succ]
        have hOld := hHeld; clear hHeld
        refine wpAnyH_ready (rs := [2]) (by kernel_rfl) (by simp) (AllReadyH.cons rfl (fun K hK => ?_) AllReadyH.nil)
        go_simp
        (go_at_call 27; (with_reducible refine (k8 _).mono ?_); rintro e w1 ⟨rfl, hM⟩)
        (try go_wp2_with (fail))
        refine hK.out _ _ ⟨(by first | exact mv_cell hM (by first | (dsimp only; omega) | (simp; omega)) hOld.1 | exact cell_later hM hOld.1 | exact HT.cb | exact HT.cc | (simp (maxDischargeDepth := 6) [go_sem, *]; done)), (by first | exact mv_cell hM (by first | (dsimp only; omega) | (simp; omega)) hOld.2.1 | exact cell_later hM hOld.2.1 | exact HT.cb | exact HT.cc | (simp (maxDischargeDepth := 6) [go_sem, *]; done)), (by first | exact mv_cell hM (by first | (dsimp only; omega) | (simp; omega)) hOld.2.2.1 | exact cell_later hM hOld.2.2.1 | exact HT.cb | exact HT.cc | (simp (maxDischargeDepth := 6) [go_sem, *]; done)), (by first | exact mv_cell hM (by first | (dsimp only; omega) | (simp; omega)) hOld.2.2.2.1 | exact cell_later hM hOld.2.2.2.1 | exact HT.cb | exact HT.cc | (simp (maxDischargeDepth := 6) [go_sem, *]; done)), (by first | exact mv_cell hM (by first | (dsimp only; omega) | (simp; omega)) hOld.2.2.2.2.1 | exact cell_later hM hOld.2.2.2.2.1 | exact HT.cb | exact HT.cc | (simp (maxDischargeDepth := 6) [go_sem, *]; done)), (by first | exact mv_cell hM (by first | (dsimp only; omega) | (simp; omega)) hOld.2.2.2.2.2 | exact cell_later hM hOld.2.2.2.2.2 | exact HT.cb | exact HT.cc | (simp (maxDischargeDepth := 6) [go_sem, *]; done))⟩ (fun hHeld => ?_)
        clear hK K hOld
        try simp only [Act.put, List.setIfInBounds_toArray, List.set_cons_zero, List.set_cons_succ]
        have HB := below_step (W := _) (by (repeat (first | with_reducible assumption | with_reducible exact Below.refl _ _ | ((with_reducible refine Below.setCell ?_ ?_ _); rotate_left; (first | exact Nat.le_refl _ | (dsimp only; omega) | (simp; done) | (simp; omega))) | with_reducible refine below_alloc ?_ _ | with_reducible apply below_drewN | with_reducible apply Below.drew | with_reducible refine below_step ?_ (by assumption)))) hM
        have hOld := hHeld; clear hHeld
        refine wpAnyH_ready (rs := [5]) (by kernel_rfl) (by simp) (AllReadyH.cons rfl (fun K hK => ?_) AllReadyH.nil)
        go_simp
        (go_at_call 27; (with_reducible refine (k9 _).mono ?_); rintro e w1 ⟨rfl, hM⟩)
        (try go_wp2_with (fail))
        refine hK.out _ _ ⟨(by first | exact mv_cell hM (by first | (dsimp only; omega) | (simp; omega)) hOld.1 | exact cell_later hM hOld.1 | exact HT.cb | exact HT.cc | (simp (maxDischargeDepth := 6) [go_sem, *]; done)), (by first | exact mv_cell hM (by first | (dsimp only; omega) | (simp; omega)) hOld.2.1 | exact cell_later hM hOld.2.1 | exact HT.cb | exact HT.cc | (simp (maxDischargeDepth := 6) [go_sem, *]; done)), (by first | exact mv_cell hM (by first | (dsimp only; omega) | (simp; omega)) hOld.2.2.1 | exact cell_later hM hOld.2.2.1 | exact HT.cb | exact HT.cc | (simp (maxDischargeDepth := 6) [go_sem, *]; done)), (by first | exact mv_cell hM (by first | (dsimp only; omega) | (simp; omega)) hOld.2.2.2.1 | exact cell_later hM hOld.2.2.2.1 | exact HT.cb | exact HT.cc | (simp (maxDischargeDepth := 6) [go_sem, *]; done)), (by first | exact mv_cell hM (by first | (dsimp only; omega) | (simp; omega)) hOld.2.2.2.2.1 | exact cell_later hM hOld.2.2.2.2.1 | exact HT.cb | exact HT.cc | (simp (maxDischargeDepth := 6) [go_sem, *]; done)), (by first | exact mv_cell hM (by first | (dsimp only; omega) | (simp; omega)) hOld.2.2.2.2.2 | exact cell_later hM hOld.2.2.2.2.2 | exact HT.cb | exact HT.cc | (simp (maxDischargeDepth := 6) [go_sem, *]; done))⟩ (fun hHeld => ?_)
        clear hK K hOld
        try simp only [Act.put, List.setIfInBounds_toArray, List.set_cons_zero, List.set_cons_succ]
        have HB := below_step HB hM
        have hOld := hHeld; clear hHeld
        refine wpAnyH_ready (rs := [6]) (by kernel_rfl) (by simp) (AllReadyH.cons rfl (fun K hK => ?_) AllReadyH.nil)
        go_simp
        (go_at_call 26; (with_reducible refine (kp _).mono ?_); rintro e w1 ⟨rfl, hM⟩)
        (try go_wp2_with (fail))
        refine hK.out _ _ ⟨(by first | exact mv_cell hM (by first | (dsimp only; omega) | (simp; omega)) hOld.1 | exact cell_later hM hOld.1 | exact HT.cb | exact HT.cc | (simp (maxDischargeDepth := 6) [go_sem, *]; done)), (by first | exact mv_cell hM (by first | (dsimp only; omega) | (simp; omega)) hOld.2.1 | exact cell_later hM hOld.2.1 | exact HT.cb | exact HT.cc | (simp (maxDischargeDepth := 6) [go_sem, *]; done)), (by first | exact mv_cell hM (by first | (dsimp only; omega) | (simp; omega)) hOld.2.2.1 | exact cell_later hM hOld.2.2.1 | exact HT.cb | exact HT.cc | (simp (maxDischargeDepth := 6) [go_sem, *]; done)), (by first | exact mv_cell hM (by first | (dsimp only; omega) | (simp; omega)) hOld.2.2.2.1 | exact cell_later hM hOld.2.2.2.1 | exact HT.cb | exact HT.cc | (simp (maxDischargeDepth := 6) [go_sem, *]; done)), (by first | exact mv_cell hM (by first | (dsimp only; omega) | (simp; omega)) hOld.2.2.2.2.1 | exact cell_later hM hOld.2.2.2.2.1 | exact HT.cb | exact HT.cc | (simp (maxDischargeDepth := 6) [go_sem, *]; done)), (by first | exact mv_cell hM (by first | (dsimp only; omega) | (simp; omega)) hOld.2.2.2.2.2 | exact cell_later hM hOld.2.2.2.2.2 | exact HT.cb | exact HT.cc | (simp (maxDischargeDepth := 6) [go_sem, *]; done))⟩ (fun hHeld => ?_)
        clear hK K hOld
        try simp only [Act.put, List.setIfInBounds_toArray, List.set_cons_zero, List.set_cons_succ]
        have HB := below_step HB hM
        refine wpAnyH_take (i := 7) (v := ?_) (by simp only [List.getElem?_toArray, List.getElem?_cons_succ, List.getElem?_cons_zero]; rfl) (by kernel_rfl) (by kernel_rfl) (by kernel_rfl) (fun _ _ _ h => h) (Or.inl ⟨by rfl, ?_⟩) (by assumption) ?_
        rotate_left
        · intro w hSw; (try dsimp only at hSw); go_simp; try with_reducible rfl
        try simp only [Act.put, List.setIfInBounds_toArray, List.set_cons_zero, List.set_cons_succ]
        refine wpAnyH_take (i := 8) (v := ?_) (by simp only [List.getElem?_toArray, List.getElem?_cons_succ, List.getElem?_cons_zero]; rfl) (by kernel_rfl) (by kernel_rfl) (by kernel_rfl) (fun _ _ _ h => h) (Or.inl ⟨by rfl, ?_⟩) (by assumption) ?_
        rotate_left
        · intro w hSw; (try dsimp only at hSw); go_simp; try with_reducible rfl
        try simp only [Act.put, List.setIfInBounds_toArray, List.set_cons_zero, List.set_cons_succ]
        refine wpAnyH_done (by kernel_rfl) ?_ _
        (try refine NoPanic.normal ?_)
        (try clear q0); (try clear q1); (try clear q2); (try clear q3); (try clear q4); (try clear q5); obtain ⟨q0, q1, q2, q3, q4, q5⟩ := hHeld
        go_wp2
        go_ret2
        exact ⟨by rw [EB.out, EV.out]; rfl, by first | exact HB | (repeat (first | with_reducible assumption | with_reducible exact Below.refl _ _ | ((with_reducible refine Below.setCell ?_ ?_ _); rotate_left; (first | exact Nat.le_refl _ | (dsimp only; omega) | (simp; done) | (simp; omega))) | with_reducible refine below_alloc ?_ _ | with_reducible apply below_drewN | with_reducible apply Below.drew | with_reducible refine below_step ?_ (by assumption)))⟩
end Go.Proofs.Ytcijddjfadcanaa
