/- The walk of WideAdd. -/
import Derived.Test.YtmkpnejnjnkpiaaL1c
import Derived.Test.YtmkpnejnjnkpiaaL1d
import Derived.Test.YtmkpnejnjnkpiaaB7
import Derived.Test.YtmkpnejnjnkpiaaW2
import Derived.Deep.CutBlock
import Derived.Deep.DeepCutAuto
namespace Go.Proofs.Ytmkpnejnjnkpiaa
open Go.RowKit
theorem sgv_neg (A : Int) : sgv (if A = 0 then false else !decide (A < 0)) (A.natAbs : Int) = -A := by
  unfold sgv
  by_cases h : A = 0
  · subst h; rfl
  · rw [if_neg h]
    by_cases h2 : A < 0
    · rw [decide_eq_true h2]; simp; omega
    · rw [decide_eq_false h2]; simp; omega
theorem neg_sign (A : Int) : (if A = 0 then false else !decide (A < 0)) = (if decide ((A.natAbs : Int) = 0) = true then false else !decide (A < 0)) := by
  by_cases h : A = 0
  · subst h; rfl
  · rw [if_neg h, decide_eq_false (show ¬ (A.natAbs : Int) = 0 by omega), if_neg (by decide)]
set_option maxHeartbeats 8000000 in
theorem walkN_WideAdd (A B : Int) (w : World) (hA0 : -170141183460469231731687303715884105728 ≤ A) (hA1 : A ≤ 170141183460469231731687303715884105727) (hB0 : -170141183460469231731687303715884105728 ≤ B) (hB1 : B ≤ 170141183460469231731687303715884105727) :
    Calls Try.prog 9 #[.agg #[.int .i64 (hw A), .int .u64 (lw A)], .agg #[.int .i64 (hw B), .int .u64 (lw B)]] w fun e w' => e = .returned (.bool true) ∧ Below w.heap.size w w' := by
  have kA := fun w => nWAdd A B w hA0 hA1 hB0 hB1
  have kR := fun w => cRAdd A B w (by omega) (by omega)
  have kN := fun w => nWNeg A w hA0 hA1
  have ko := fun w => cROfW A w hA0 hA1
  have kp := fun w => cROfW B w hB0 hB1
  have c0 := cw_lo (A + B)
  have c1 := cw_hi (A + B)
  generalize fw (A + B) = f at *
  generalize cw (A + B) = C at *
  have ks := fun w => cSame C w c0 c1
  have kz := fun w => cRZero (!decide (A < 0)) (A.natAbs : Int) w (by omega) (by omega)
  obtain ⟨g, hg⟩ : ∃ t, (if A = 0 then false else !decide (A < 0)) = t := ⟨_, rfl⟩
  have kw := fun w => cRWords g (A.natAbs : Int) w (by omega) (by omega)
  have eN : sgv g (A.natAbs : Int) = -A := by
    rw [← hg]; exact sgv_neg A
  rw [eN] at kw
  obtain ⟨z, hz0⟩ : ∃ t, decide ((A.natAbs : Int) = 0) = t := ⟨_, rfl⟩
  rw [hz0] at kz
  have hG : g = if z = true then false else !decide (A < 0) := by
    rw [← hg, ← hz0]; exact neg_sign A
  have HG := Lib.hid hG
  clear eN hg hG hz0
  generalize cw (-A) = D at *
  generalize fw (-A) = d at *
  generalize hw A = ah at *
  generalize lw A = al at *
  generalize hw B = bh at *
  generalize lw B = bl at *
  generalize decide (A < 0) = na at *
  generalize decide (B < 0) = nb at *
  generalize (A.natAbs : Int) = ma at *
  generalize (B.natAbs : Int) = mb at *
  generalize decide (C < 0) = nc at *
  generalize (C.natAbs : Int) = mc at *
  clear hA0 hA1 hB0 hB1 c0 c1
  go_enter Try.func9, Try.ntmps9
  go_wp2_with (fail)
  (go_at_call 28; (with_reducible refine (kA _).mono ?_); rintro e w1 ⟨rfl, hM⟩)
  rename World => ws
  have B0 : Bk (w.heap.size) 0 [.int .i64 ah, .int .u64 al] ws := Bk.later (by simp [Bk, go_sem]; done) hM
  have B1 : Bk (w.heap.size + 1) 0 [.int .i64 bh, .int .u64 bl] ws := Bk.later (by simp [Bk, go_sem]; done) hM
  have HB : Below w.heap.size w ws := by (repeat (first | with_reducible assumption | with_reducible exact Below.refl _ _ | ((with_reducible refine Below.setCell ?_ ?_ _); rotate_left; (first | exact Nat.le_refl _ | (dsimp only; omega) | (simp; done) | (simp; omega))) | with_reducible refine below_alloc ?_ _ | with_reducible apply below_drewN | with_reducible apply Below.drew | with_reducible refine below_step ?_ (by assumption)))
  have hz : w.heap.size + 1 < ws.heap.size := World.block_lt_of_cell? ws _ B1.1
  clear hM kA
  have C0 := B0; simp only [Bk] at C0
  have C1 := B1; simp only [Bk] at C1
  go_upto_region 2 with (fail)
  clear C0 C1
  have B2 : Bk (ws.heap.size) 0 [.int .i64 (hw C), .int .u64 (lw C)] (ws.alloc (Obj.cells #[.int .i64 (hw C), .int .u64 (lw C)] 25)) := by simp [Bk, go_sem]
  go_cut [7, 8] (fun p q wx => ∃ k : Nat, p = .pointer (some ⟨k, 0, none⟩) ∧ q = .bool f ∧ Below w.heap.size w wx ∧ Bk k 0 [.bool nc, .int .u64 (d0 mc), .int .u64 (d1 mc), .int .u64 (d2 mc), .int .u64 (d3 mc)] wx ∧
    (Bk (w.heap.size) 0 [.int .i64 ah, .int .u64 al] wx ∧ Bk (w.heap.size + 1) 0 [.int .i64 bh, .int .u64 bl] wx ∧ Bk (ws.heap.size) 0 [.int .i64 (hw C), .int .u64 (lw C)] wx))
  case first =>
    (try refine wp_region_noPanic ?_)
    refine wp_region_held_drew (S := (fun (w' : World) => Bk w.heap.size 0 [.int .i64 ah, .int .u64 al] w' ∧ Bk (w.heap.size + 1) 0 [.int .i64 bh, .int .u64 bl] w' ∧ Bk ws.heap.size 0 [.int .i64 (hw C), .int .u64 (lw C)] w')) (by kernel_rfl) ⟨by (repeat (first | with_reducible assumption | with_reducible apply Bk.drew | with_reducible apply Bk.alloc | ((with_reducible apply Bk.later); rotate_left; (with_reducible assumption)) | ((with_reducible apply Bk.put); rotate_left; (first | (dsimp only; omega))))), by (repeat (first | with_reducible assumption | with_reducible apply Bk.drew | with_reducible apply Bk.alloc | ((with_reducible apply Bk.later); rotate_left; (with_reducible assumption)) | ((with_reducible apply Bk.put); rotate_left; (first | (dsimp only; omega))))), by (repeat (first | with_reducible assumption | with_reducible apply Bk.drew | with_reducible apply Bk.alloc | ((with_reducible apply Bk.later); rotate_left; (with_reducible assumption)) | ((with_reducible apply Bk.put); rotate_left; (first | (dsimp only; omega)))))⟩ (fun hHeld => ?_)
    refine wpAnyH_take (i := 0) (v := ?_) (by simp only [List.getElem?_toArray, List.getElem?_cons_succ, List.getElem?_cons_zero]; rfl) (by kernel_rfl) (by kernel_rfl) (by kernel_rfl) (fun _ _ _ h => h) (Or.inl ⟨by rfl, ?_⟩) (by assumption) ?_
    rotate_left
    · intro w hSw; (try dsimp only at hSw); simp only [Bk] at hSw; go_simp; try with_reducible rfl
    try simp only [Act.put, List.setIfInBounds_toArray, List.set_cons_zero, List.set_cons_succ]
    refine wpAnyH_take (i := 2) (v := ?_) (by simp only [List.getElem?_toArray, List.getElem?_cons_succ, List.getElem?_cons_zero]; rfl) (by kernel_rfl) (by kernel_rfl) (by kernel_rfl) (fun _ _ _ h => h) (Or.inl ⟨by rfl, ?_⟩) (by assumption) ?_
    rotate_left
    · intro w hSw; (try dsimp only at hSw); simp only [Bk] at hSw; go_simp; try with_reducible rfl
    try simp only [Act.put, List.setIfInBounds_toArray, List.set_cons_zero, List.set_cons_succ]
    refine wpAnyH_ready (rs := [1, 8]) (by kernel_rfl) (by simp) ?_
    refine AllReadyH.cons rfl (fun K hK => ?_) ?_
    · have hOld := hHeld; clear hHeld
      have B0 := hOld.1
      have B1 := hOld.2.1
      have B2 := hOld.2.2
      go_simp
      (go_at_call 19; (with_reducible refine (ko _).mono ?_); rintro e wz1 ⟨rfl, hR⟩)
      have hzR := hR.size
      (try simp at hzR)
      have HB := below_step (W := _) (by (repeat (first | with_reducible assumption | with_reducible exact Below.refl _ _ | ((with_reducible refine Below.setCell ?_ ?_ _); rotate_left; (first | exact Nat.le_refl _ | (dsimp only; omega) | (simp; done) | (simp; omega))) | with_reducible refine below_alloc ?_ _ | with_reducible apply below_drewN | with_reducible apply Below.drew | with_reducible refine below_step ?_ (by assumption)))) hR
      (try go_wp2_with (fail))
      refine hK.out _ _ ⟨by (repeat (first | with_reducible assumption | with_reducible apply Bk.drew | with_reducible apply Bk.alloc | ((with_reducible apply Bk.later); rotate_left; (with_reducible assumption)) | ((with_reducible apply Bk.put); rotate_left; (first | (dsimp only; omega))))), by (repeat (first | with_reducible assumption | with_reducible apply Bk.drew | with_reducible apply Bk.alloc | ((with_reducible apply Bk.later); rotate_left; (with_reducible assumption)) | ((with_reducible apply Bk.put); rotate_left; (first | (dsimp only; omega))))), by (repeat (first | with_reducible assumption | with_reducible apply Bk.drew | with_reducible apply Bk.alloc | ((with_reducible apply Bk.later); rotate_left; (with_reducible assumption)) | ((with_reducible apply Bk.put); rotate_left; (first | (dsimp only; omega)))))⟩ (fun hHeld => ?_)
      clear hK K hOld B0 B1 B2
      try simp only [Act.put, List.setIfInBounds_toArray, List.set_cons_zero, List.set_cons_succ]
      refine wpAnyH_ready (rs := [3, 8]) (by kernel_rfl) (by simp) ?_
      refine AllReadyH.cons rfl (fun K hK => ?_) ?_
      · have hOld := hHeld; clear hHeld
        have B0 := hOld.1
        have B1 := hOld.2.1
        have B2 := hOld.2.2
        go_simp
        (go_at_call 19; (with_reducible refine (kp _).mono ?_); rintro e wz2 ⟨rfl, hR⟩)
        have hzR := hR.size
        (try simp at hzR)
        have HB := below_step (W := _) (by (repeat (first | with_reducible assumption | with_reducible exact Below.refl _ _ | ((with_reducible refine Below.setCell ?_ ?_ _); rotate_left; (first | exact Nat.le_refl _ | (dsimp only; omega) | (simp; done) | (simp; omega))) | with_reducible refine below_alloc ?_ _ | with_reducible apply below_drewN | with_reducible apply Below.drew | with_reducible refine below_step ?_ (by assumption)))) hR
        (try go_wp2_with (fail))
        refine hK.out _ _ ⟨by (repeat (first | with_reducible assumption | with_reducible apply Bk.drew | with_reducible apply Bk.alloc | ((with_reducible apply Bk.later); rotate_left; (with_reducible assumption)) | ((with_reducible apply Bk.put); rotate_left; (first | (dsimp only; omega))))), by (repeat (first | with_reducible assumption | with_reducible apply Bk.drew | with_reducible apply Bk.alloc | ((with_reducible apply Bk.later); rotate_left; (with_reducible assumption)) | ((with_reducible apply Bk.put); rotate_left; (first | (dsimp only; omega))))), by (repeat (first | with_reducible assumption | with_reducible apply Bk.drew | with_reducible apply Bk.alloc | ((with_reducible apply Bk.later); rotate_left; (with_reducible assumption)) | ((with_reducible apply Bk.put); rotate_left; (first | (dsimp only; omega)))))⟩ (fun hHeld => ?_)
        clear hK K hOld B0 B1 B2
        try simp only [Act.put, List.setIfInBounds_toArray, List.set_cons_zero, List.set_cons_succ]
        refine wpAnyH_ready (rs := [4, 8]) (by kernel_rfl) (by simp) ?_
        refine AllReadyH.cons rfl (fun K hK => ?_) ?_
        · have hOld := hHeld; clear hHeld
          have B0 := hOld.1
          have B1 := hOld.2.1
          have B2 := hOld.2.2
          go_simp
          (go_at_call 29; (with_reducible refine (kR _).mono ?_); rintro e wz3 ⟨rfl, hR⟩)
          have hzR := hR.size
          (try simp at hzR)
          have HB := below_step (W := _) (by (repeat (first | with_reducible assumption | with_reducible exact Below.refl _ _ | ((with_reducible refine Below.setCell ?_ ?_ _); rotate_left; (first | exact Nat.le_refl _ | (dsimp only; omega) | (simp; done) | (simp; omega))) | with_reducible refine below_alloc ?_ _ | with_reducible apply below_drewN | with_reducible apply Below.drew | with_reducible refine below_step ?_ (by assumption)))) hR
          (try go_wp2_with (fail))
          refine hK.out _ _ ⟨by (repeat (first | with_reducible assumption | with_reducible apply Bk.drew | with_reducible apply Bk.alloc | ((with_reducible apply Bk.later); rotate_left; (with_reducible assumption)) | ((with_reducible apply Bk.put); rotate_left; (first | (dsimp only; omega))))), by (repeat (first | with_reducible assumption | with_reducible apply Bk.drew | with_reducible apply Bk.alloc | ((with_reducible apply Bk.later); rotate_left; (with_reducible assumption)) | ((with_reducible apply Bk.put); rotate_left; (first | (dsimp only; omega))))), by (repeat (first | with_reducible assumption | with_reducible apply Bk.drew | with_reducible apply Bk.alloc | ((with_reducible apply Bk.later); rotate_left; (with_reducible assumption)) | ((with_reducible apply Bk.put); rotate_left; (first | (dsimp only; omega)))))⟩ (fun hHeld => ?_)
          clear hK K hOld B0 B1 B2
          try simp only [Act.put, List.setIfInBounds_toArray, List.set_cons_zero, List.set_cons_succ]
          refine wpAnyH_take (i := 5) (v := ?_) (by simp only [List.getElem?_toArray, List.getElem?_cons_succ, List.getElem?_cons_zero]; rfl) (by kernel_rfl) (by kernel_rfl) (by kernel_rfl) (fun _ _ _ h => h) (Or.inl ⟨by rfl, ?_⟩) (by assumption) ?_
          rotate_left
          · intro w hSw; (try dsimp only at hSw); simp only [Bk] at hSw; go_simp; try with_reducible rfl
          try simp only [Act.put, List.setIfInBounds_toArray, List.set_cons_zero, List.set_cons_succ]
          refine wpAnyH_take (i := 6) (v := ?_) (by simp only [List.getElem?_toArray, List.getElem?_cons_succ, List.getElem?_cons_zero]; rfl) (by kernel_rfl) (by kernel_rfl) (by kernel_rfl) (fun _ _ _ h => h) (Or.inl ⟨by rfl, ?_⟩) (by assumption) ?_
          rotate_left
          · intro w hSw; (try dsimp only at hSw); simp only [Bk] at hSw; go_simp; try with_reducible rfl
          try simp only [Act.put, List.setIfInBounds_toArray, List.set_cons_zero, List.set_cons_succ]
          refine wpAnyH_take (i := 7) (v := ?_) (by simp only [List.getElem?_toArray, List.getElem?_cons_succ, List.getElem?_cons_zero]; rfl) (by kernel_rfl) (by kernel_rfl) (by kernel_rfl) (fun _ _ _ h => h) (Or.inl ⟨by rfl, ?_⟩) (by assumption) ?_
          rotate_left
          · intro w hSw; (try dsimp only at hSw); simp only [Bk] at hSw; go_simp; try with_reducible rfl
          try simp only [Act.put, List.setIfInBounds_toArray, List.set_cons_zero, List.set_cons_succ]
          refine wpAnyH_ready (rs := [8]) (by kernel_rfl) (by simp) ?_
          refine AllReadyH.cons rfl (fun K hK => ?_) ?_
          · have hOld := hHeld; clear hHeld
            have B0 := hOld.1
            have B1 := hOld.2.1
            have B2 := hOld.2.2
            go_simp
            refine hK.out _ _ ⟨by (repeat (first | with_reducible assumption | with_reducible apply Bk.drew | with_reducible apply Bk.alloc | ((with_reducible apply Bk.later); rotate_left; (with_reducible assumption)) | ((with_reducible apply Bk.put); rotate_left; (first | (dsimp only; omega))))), by (repeat (first | with_reducible assumption | with_reducible apply Bk.drew | with_reducible apply Bk.alloc | ((with_reducible apply Bk.later); rotate_left; (with_reducible assumption)) | ((with_reducible apply Bk.put); rotate_left; (first | (dsimp only; omega))))), by (repeat (first | with_reducible assumption | with_reducible apply Bk.drew | with_reducible apply Bk.alloc | ((with_reducible apply Bk.later); rotate_left; (with_reducible assumption)) | ((with_reducible apply Bk.put); rotate_left; (first | (dsimp only; omega)))))⟩ (fun hHeld => ?_)
            clear hK K hOld B0 B1 B2
            try simp only [Act.put, List.setIfInBounds_toArray, List.set_cons_zero, List.set_cons_succ]
            refine wpAnyH_ready (rs := [9]) (by kernel_rfl) (by simp) ?_
            refine AllReadyH.cons rfl (fun K hK => ?_) ?_
            · have hOld := hHeld; clear hHeld
              have B0 := hOld.1
              have B1 := hOld.2.1
              have B2 := hOld.2.2
              have G0 : Bk (wz3.heap.size) 0 [.bool false, .int .u64 0, .int .u64 0, .int .u64 0, .int .u64 0] ((wz3).alloc (Obj.cells #[.bool false, .int .u64 0, .int .u64 0, .int .u64 0, .int .u64 0] 29)) := by first | (simp [Bk, go_sem]; done) | (repeat (first | with_reducible assumption | with_reducible apply Bk.drew | with_reducible apply Bk.alloc | ((with_reducible apply Bk.later); rotate_left; (with_reducible assumption)) | ((with_reducible apply Bk.put); rotate_left; (first | (dsimp only; omega)))))
              simp only [Bk] at G0
              go_simp
              refine hK.out _ _ ⟨by (repeat (first | with_reducible assumption | with_reducible apply Bk.drew | with_reducible apply Bk.alloc | ((with_reducible apply Bk.later); rotate_left; (with_reducible assumption)) | ((with_reducible apply Bk.put); rotate_left; (first | (dsimp only; omega))))), by (repeat (first | with_reducible assumption | with_reducible apply Bk.drew | with_reducible apply Bk.alloc | ((with_reducible apply Bk.later); rotate_left; (with_reducible assumption)) | ((with_reducible apply Bk.put); rotate_left; (first | (dsimp only; omega))))), by (repeat (first | with_reducible assumption | with_reducible apply Bk.drew | with_reducible apply Bk.alloc | ((with_reducible apply Bk.later); rotate_left; (with_reducible assumption)) | ((with_reducible apply Bk.put); rotate_left; (first | (dsimp only; omega)))))⟩ (fun hHeld => ?_)
              clear hK K hOld B0 B1 B2
              try simp only [Act.put, List.setIfInBounds_toArray, List.set_cons_zero, List.set_cons_succ]
              refine wpAnyH_take (i := 10) (v := ?_) (by simp only [List.getElem?_toArray, List.getElem?_cons_succ, List.getElem?_cons_zero]; rfl) (by kernel_rfl) (by kernel_rfl) (by kernel_rfl) (fun _ _ _ h => h) (Or.inl ⟨by rfl, ?_⟩) (by assumption) ?_
              rotate_left
              · intro w hSw; (try dsimp only at hSw); simp only [Bk] at hSw; go_simp; try with_reducible rfl
              try simp only [Act.put, List.setIfInBounds_toArray, List.set_cons_zero, List.set_cons_succ]
              refine wpAnyH_done (by kernel_rfl) ?_ _
              (try refine NoPanic.normal ?_)
              go_wp2
              go_meet
              exact ⟨_, rfl, rfl, by (repeat (first | with_reducible assumption | with_reducible exact Below.refl _ _ | ((with_reducible refine Below.setCell ?_ ?_ _); rotate_left; (first | exact Nat.le_refl _ | (dsimp only; omega) | (simp; done) | (simp; omega))) | with_reducible refine below_alloc ?_ _ | with_reducible apply below_drewN | with_reducible apply Below.drew | with_reducible refine below_step ?_ (by assumption))), by simp (maxDischargeDepth := 8) [Bk, go_sem, *], hHeld⟩
            exact AllReadyH.nil
          exact AllReadyH.nil
        refine AllReadyH.cons rfl (fun K hK => ?_) ?_
        · have hOld := hHeld; clear hHeld
          have B0 := hOld.1
          have B1 := hOld.2.1
          have B2 := hOld.2.2
          go_simp
          refine hK.out _ _ ⟨by (repeat (first | with_reducible assumption | with_reducible apply Bk.drew | with_reducible apply Bk.alloc | ((with_reducible apply Bk.later); rotate_left; (with_reducible assumption)) | ((with_reducible apply Bk.put); rotate_left; (first | (dsimp only; omega))))), by (repeat (first | with_reducible assumption | with_reducible apply Bk.drew | with_reducible apply Bk.alloc | ((with_reducible apply Bk.later); rotate_left; (with_reducible assumption)) | ((with_reducible apply Bk.put); rotate_left; (first | (dsimp only; omega))))), by (repeat (first | with_reducible assumption | with_reducible apply Bk.drew | with_reducible apply Bk.alloc | ((with_reducible apply Bk.later); rotate_left; (with_reducible assumption)) | ((with_reducible apply Bk.put); rotate_left; (first | (dsimp only; omega)))))⟩ (fun hHeld => ?_)
          clear hK K hOld B0 B1 B2
          try simp only [Act.put, List.setIfInBounds_toArray, List.set_cons_zero, List.set_cons_succ]
          refine wpAnyH_ready (rs := [4]) (by kernel_rfl) (by simp) ?_
          refine AllReadyH.cons rfl (fun K hK => ?_) ?_
          · have hOld := hHeld; clear hHeld
            have B0 := hOld.1
            have B1 := hOld.2.1
            have B2 := hOld.2.2
            go_simp
            (go_at_call 29; (with_reducible refine (kR _).mono ?_); rintro e wz4 ⟨rfl, hR⟩)
            have hzR := hR.size
            (try simp at hzR)
            have GR0 : Bk (wz2.heap.size) 0 [.bool false, .int .u64 0, .int .u64 0, .int .u64 0, .int .u64 0] wz4 := Bk.later (by first | (simp [Bk, go_sem]; done) | (repeat (first | with_reducible assumption | with_reducible apply Bk.drew | with_reducible apply Bk.alloc | ((with_reducible apply Bk.later); rotate_left; (with_reducible assumption)) | ((with_reducible apply Bk.put); rotate_left; (first | (dsimp only; omega)))))) hR
            have GS0 := GR0; simp only [Bk] at GS0
            have nl0 : wz2.heap.size < wz4.heap.size := by omega
            have HB := below_step (W := _) (by (repeat (first | with_reducible assumption | with_reducible exact Below.refl _ _ | ((with_reducible refine Below.setCell ?_ ?_ _); rotate_left; (first | exact Nat.le_refl _ | (dsimp only; omega) | (simp; done) | (simp; omega))) | with_reducible refine below_alloc ?_ _ | with_reducible apply below_drewN | with_reducible apply Below.drew | with_reducible refine below_step ?_ (by assumption)))) hR
            (try go_wp2_with (fail))
            refine hK.out _ _ ⟨by (repeat (first | with_reducible assumption | with_reducible apply Bk.drew | with_reducible apply Bk.alloc | ((with_reducible apply Bk.later); rotate_left; (with_reducible assumption)) | ((with_reducible apply Bk.put); rotate_left; (first | (dsimp only; omega))))), by (repeat (first | with_reducible assumption | with_reducible apply Bk.drew | with_reducible apply Bk.alloc | ((with_reducible apply Bk.later); rotate_left; (with_reducible assumption)) | ((with_reducible apply Bk.put); rotate_left; (first | (dsimp only; omega))))), by (repeat (first | with_reducible assumption | with_reducible apply Bk.drew | with_reducible apply Bk.alloc | ((with_reducible apply Bk.later); rotate_left; (with_reducible assumption)) | ((with_reducible apply Bk.put); rotate_left; (first | (dsimp only; omega)))))⟩ (fun hHeld => ?_)
            clear hK K hOld B0 B1 B2
            try simp only [Act.put, List.setIfInBounds_toArray, List.set_cons_zero, List.set_cons_succ]
            refine wpAnyH_take (i := 5) (v := ?_) (by simp only [List.getElem?_toArray, List.getElem?_cons_succ, List.getElem?_cons_zero]; rfl) (by kernel_rfl) (by kernel_rfl) (by kernel_rfl) (fun _ _ _ h => h) (Or.inl ⟨by rfl, ?_⟩) (by assumption) ?_
            rotate_left
            · intro w hSw; (try dsimp only at hSw); simp only [Bk] at hSw; go_simp; try with_reducible rfl
            try simp only [Act.put, List.setIfInBounds_toArray, List.set_cons_zero, List.set_cons_succ]
            refine wpAnyH_take (i := 6) (v := ?_) (by simp only [List.getElem?_toArray, List.getElem?_cons_succ, List.getElem?_cons_zero]; rfl) (by kernel_rfl) (by kernel_rfl) (by kernel_rfl) (fun _ _ _ h => h) (Or.inl ⟨by rfl, ?_⟩) (by assumption) ?_
            rotate_left
            · intro w hSw; (try dsimp only at hSw); simp only [Bk] at hSw; go_simp; try with_reducible rfl
            try simp only [Act.put, List.setIfInBounds_toArray, List.set_cons_zero, List.set_cons_succ]
            refine wpAnyH_take (i := 7) (v := ?_) (by simp only [List.getElem?_toArray, List.getElem?_cons_succ, List.getElem?_cons_zero]; rfl) (by kernel_rfl) (by kernel_rfl) (by kernel_rfl) (fun _ _ _ h => h) (Or.inl ⟨by rfl, ?_⟩) (by assumption) ?_
            rotate_left
            · intro w hSw; (try dsimp only at hSw); simp only [Bk] at hSw; go_simp; try with_reducible rfl
            try simp only [Act.put, List.setIfInBounds_toArray, List.set_cons_zero, List.set_cons_succ]
            refine wpAnyH_ready (rs := [9]) (by kernel_rfl) (by simp) ?_
            refine AllReadyH.cons rfl (fun K hK => ?_) ?_
            · have hOld := hHeld; clear hHeld
              have B0 := hOld.1
              have B1 := hOld.2.1
              have B2 := hOld.2.2
              have G0 : Bk (wz2.heap.size) 0 [.bool false, .int .u64 0, .int .u64 0, .int .u64 0, .int .u64 0] (wz4) := by first | (simp [Bk, go_sem]; done) | (repeat (first | with_reducible assumption | with_reducible apply Bk.drew | with_reducible apply Bk.alloc | ((with_reducible apply Bk.later); rotate_left; (with_reducible assumption)) | ((with_reducible apply Bk.put); rotate_left; (first | (dsimp only; omega)))))
              simp only [Bk] at G0
              go_simp
              refine hK.out _ _ ⟨by (repeat (first | with_reducible assumption | with_reducible apply Bk.drew | with_reducible apply Bk.alloc | ((with_reducible apply Bk.later); rotate_left; (with_reducible assumption)) | ((with_reducible apply Bk.put); rotate_left; (first | (dsimp only; omega))))), by (repeat (first | with_reducible assumption | with_reducible apply Bk.drew | with_reducible apply Bk.alloc | ((with_reducible apply Bk.later); rotate_left; (with_reducible assumption)) | ((with_reducible apply Bk.put); rotate_left; (first | (dsimp only; omega))))), by (repeat (first | with_reducible assumption | with_reducible apply Bk.drew | with_reducible apply Bk.alloc | ((with_reducible apply Bk.later); rotate_left; (with_reducible assumption)) | ((with_reducible apply Bk.put); rotate_left; (first | (dsimp only; omega)))))⟩ (fun hHeld => ?_)
              clear hK K hOld B0 B1 B2
              try simp only [Act.put, List.setIfInBounds_toArray, List.set_cons_zero, List.set_cons_succ]
              refine wpAnyH_take (i := 10) (v := ?_) (by simp only [List.getElem?_toArray, List.getElem?_cons_succ, List.getElem?_cons_zero]; rfl) (by kernel_rfl) (by kernel_rfl) (by kernel_rfl) (fun _ _ _ h => h) (Or.inl ⟨by rfl, ?_⟩) (by assumption) ?_
              rotate_left
              · intro w hSw; (try dsimp only at hSw); simp only [Bk] at hSw; go_simp; try with_reducible rfl
              try simp only [Act.put, List.setIfInBounds_toArray, List.set_cons_zero, List.set_cons_succ]
              refine wpAnyH_done (by kernel_rfl) ?_ _
              (try refine NoPanic.normal ?_)
              go_wp2
              go_meet
              exact ⟨_, rfl, rfl, by (repeat (first | with_reducible assumption | with_reducible exact Below.refl _ _ | ((with_reducible refine Below.setCell ?_ ?_ _); rotate_left; (first | exact Nat.le_refl _ | (dsimp only; omega) | (simp; done) | (simp; omega))) | with_reducible refine below_alloc ?_ _ | with_reducible apply below_drewN | with_reducible apply Below.drew | with_reducible refine below_step ?_ (by assumption))), by simp (maxDischargeDepth := 8) [Bk, go_sem, *], hHeld⟩
            exact AllReadyH.nil
          exact AllReadyH.nil
        exact AllReadyH.nil
      refine AllReadyH.cons rfl (fun K hK => ?_) ?_
      · have hOld := hHeld; clear hHeld
        have B0 := hOld.1
        have B1 := hOld.2.1
        have B2 := hOld.2.2
        go_simp
        refine hK.out _ _ ⟨by (repeat (first | with_reducible assumption | with_reducible apply Bk.drew | with_reducible apply Bk.alloc | ((with_reducible apply Bk.later); rotate_left; (with_reducible assumption)) | ((with_reducible apply Bk.put); rotate_left; (first | (dsimp only; omega))))), by (repeat (first | with_reducible assumption | with_reducible apply Bk.drew | with_reducible apply Bk.alloc | ((with_reducible apply Bk.later); rotate_left; (with_reducible assumption)) | ((with_reducible apply Bk.put); rotate_left; (first | (dsimp only; omega))))), by (repeat (first | with_reducible assumption | with_reducible apply Bk.drew | with_reducible apply Bk.alloc | ((with_reducible apply Bk.later); rotate_left; (with_reducible assumption)) | ((with_reducible apply Bk.put); rotate_left; (first | (dsimp only; omega)))))⟩ (fun hHeld => ?_)
        clear hK K hOld B0 B1 B2
        try simp only [Act.put, List.setIfInBounds_toArray, List.set_cons_zero, List.set_cons_succ]
        refine wpAnyH_ready (rs := [3]) (by kernel_rfl) (by simp) ?_
        refine AllReadyH.cons rfl (fun K hK => ?_) ?_
        · have hOld := hHeld; clear hHeld
          have B0 := hOld.1
          have B1 := hOld.2.1
          have B2 := hOld.2.2
          go_simp
          (go_at_call 19; (with_reducible refine (kp _).mono ?_); rintro e wz5 ⟨rfl, hR⟩)
          have hzR := hR.size
          (try simp at hzR)
          have GR0 : Bk (wz1.heap.size) 0 [.bool false, .int .u64 0, .int .u64 0, .int .u64 0, .int .u64 0] wz5 := Bk.later (by first | (simp [Bk, go_sem]; done) | (repeat (first | with_reducible assumption | with_reducible apply Bk.drew | with_reducible apply Bk.alloc | ((with_reducible apply Bk.later); rotate_left; (with_reducible assumption)) | ((with_reducible apply Bk.put); rotate_left; (first | (dsimp only; omega)))))) hR
          have GS0 := GR0; simp only [Bk] at GS0
          have nl0 : wz1.heap.size < wz5.heap.size := by omega
          have HB := below_step (W := _) (by (repeat (first | with_reducible assumption | with_reducible exact Below.refl _ _ | ((with_reducible refine Below.setCell ?_ ?_ _); rotate_left; (first | exact Nat.le_refl _ | (dsimp only; omega) | (simp; done) | (simp; omega))) | with_reducible refine below_alloc ?_ _ | with_reducible apply below_drewN | with_reducible apply Below.drew | with_reducible refine below_step ?_ (by assumption)))) hR
          (try go_wp2_with (fail))
          refine hK.out _ _ ⟨by (repeat (first | with_reducible assumption | with_reducible apply Bk.drew | with_reducible apply Bk.alloc | ((with_reducible apply Bk.later); rotate_left; (with_reducible assumption)) | ((with_reducible apply Bk.put); rotate_left; (first | (dsimp only; omega))))), by (repeat (first | with_reducible assumption | with_reducible apply Bk.drew | with_reducible apply Bk.alloc | ((with_reducible apply Bk.later); rotate_left; (with_reducible assumption)) | ((with_reducible apply Bk.put); rotate_left; (first | (dsimp only; omega))))), by (repeat (first | with_reducible assumption | with_reducible apply Bk.drew | with_reducible apply Bk.alloc | ((with_reducible apply Bk.later); rotate_left; (with_reducible assumption)) | ((with_reducible apply Bk.put); rotate_left; (first | (dsimp only; omega)))))⟩ (fun hHeld => ?_)
          clear hK K hOld B0 B1 B2
          try simp only [Act.put, List.setIfInBounds_toArray, List.set_cons_zero, List.set_cons_succ]
          refine wpAnyH_ready (rs := [4]) (by kernel_rfl) (by simp) ?_
          refine AllReadyH.cons rfl (fun K hK => ?_) ?_
          · have hOld := hHeld; clear hHeld
            have B0 := hOld.1
            have B1 := hOld.2.1
            have B2 := hOld.2.2
            go_simp
            (go_at_call 29; (with_reducible refine (kR _).mono ?_); rintro e wz6 ⟨rfl, hR⟩)
            have hzR := hR.size
            (try simp at hzR)
            have GR0 : Bk (wz1.heap.size) 0 [.bool false, .int .u64 0, .int .u64 0, .int .u64 0, .int .u64 0] wz6 := Bk.later (by first | (simp [Bk, go_sem]; done) | (repeat (first | with_reducible assumption | with_reducible apply Bk.drew | with_reducible apply Bk.alloc | ((with_reducible apply Bk.later); rotate_left; (with_reducible assumption)) | ((with_reducible apply Bk.put); rotate_left; (first | (dsimp only; omega)))))) hR
            have GS0 := GR0; simp only [Bk] at GS0
            have nl0 : wz1.heap.size < wz6.heap.size := by omega
            have HB := below_step (W := _) (by (repeat (first | with_reducible assumption | with_reducible exact Below.refl _ _ | ((with_reducible refine Below.setCell ?_ ?_ _); rotate_left; (first | exact Nat.le_refl _ | (dsimp only; omega) | (simp; done) | (simp; omega))) | with_reducible refine below_alloc ?_ _ | with_reducible apply below_drewN | with_reducible apply Below.drew | with_reducible refine below_step ?_ (by assumption)))) hR
            (try go_wp2_with (fail))
            refine hK.out _ _ ⟨by (repeat (first | with_reducible assumption | with_reducible apply Bk.drew | with_reducible apply Bk.alloc | ((with_reducible apply Bk.later); rotate_left; (with_reducible assumption)) | ((with_reducible apply Bk.put); rotate_left; (first | (dsimp only; omega))))), by (repeat (first | with_reducible assumption | with_reducible apply Bk.drew | with_reducible apply Bk.alloc | ((with_reducible apply Bk.later); rotate_left; (with_reducible assumption)) | ((with_reducible apply Bk.put); rotate_left; (first | (dsimp only; omega))))), by (repeat (first | with_reducible assumption | with_reducible apply Bk.drew | with_reducible apply Bk.alloc | ((with_reducible apply Bk.later); rotate_left; (with_reducible assumption)) | ((with_reducible apply Bk.put); rotate_left; (first | (dsimp only; omega)))))⟩ (fun hHeld => ?_)
            clear hK K hOld B0 B1 B2
            try simp only [Act.put, List.setIfInBounds_toArray, List.set_cons_zero, List.set_cons_succ]
            refine wpAnyH_take (i := 5) (v := ?_) (by simp only [List.getElem?_toArray, List.getElem?_cons_succ, List.getElem?_cons_zero]; rfl) (by kernel_rfl) (by kernel_rfl) (by kernel_rfl) (fun _ _ _ h => h) (Or.inl ⟨by rfl, ?_⟩) (by assumption) ?_
            rotate_left
            · intro w hSw; (try dsimp only at hSw); simp only [Bk] at hSw; go_simp; try with_reducible rfl
            try simp only [Act.put, List.setIfInBounds_toArray, List.set_cons_zero, List.set_cons_succ]
            refine wpAnyH_take (i := 6) (v := ?_) (by simp only [List.getElem?_toArray, List.getElem?_cons_succ, List.getElem?_cons_zero]; rfl) (by kernel_rfl) (by kernel_rfl) (by kernel_rfl) (fun _ _ _ h => h) (Or.inl ⟨by rfl, ?_⟩) (by assumption) ?_
            rotate_left
            · intro w hSw; (try dsimp only at hSw); simp only [Bk] at hSw; go_simp; try with_reducible rfl
            try simp only [Act.put, List.setIfInBounds_toArray, List.set_cons_zero, List.set_cons_succ]
            refine wpAnyH_take (i := 7) (v := ?_) (by simp only [List.getElem?_toArray, List.getElem?_cons_succ, List.getElem?_cons_zero]; rfl) (by kernel_rfl) (by kernel_rfl) (by kernel_rfl) (fun _ _ _ h => h) (Or.inl ⟨by rfl, ?_⟩) (by assumption) ?_
            rotate_left
            · intro w hSw; (try dsimp only at hSw); simp only [Bk] at hSw; go_simp; try with_reducible rfl
            try simp only [Act.put, List.setIfInBounds_toArray, List.set_cons_zero, List.set_cons_succ]
            refine wpAnyH_ready (rs := [9]) (by kernel_rfl) (by simp) ?_
            refine AllReadyH.cons rfl (fun K hK => ?_) ?_
            · have hOld := hHeld; clear hHeld
              have B0 := hOld.1
              have B1 := hOld.2.1
              have B2 := hOld.2.2
              have G0 : Bk (wz1.heap.size) 0 [.bool false, .int .u64 0, .int .u64 0, .int .u64 0, .int .u64 0] (wz6) := by first | (simp [Bk, go_sem]; done) | (repeat (first | with_reducible assumption | with_reducible apply Bk.drew | with_reducible apply Bk.alloc | ((with_reducible apply Bk.later); rotate_left; (with_reducible assumption)) | ((with_reducible apply Bk.put); rotate_left; (first | (dsimp only; omega)))))
              simp only [Bk] at G0
              go_simp
              refine hK.out _ _ ⟨by (repeat (first | with_reducible assumption | with_reducible apply Bk.drew | with_reducible apply Bk.alloc | ((with_reducible apply Bk.later); rotate_left; (with_reducible assumption)) | ((with_reducible apply Bk.put); rotate_left; (first | (dsimp only; omega))))), by (repeat (first | with_reducible assumption | with_reducible apply Bk.drew | with_reducible apply Bk.alloc | ((with_reducible apply Bk.later); rotate_left; (with_reducible assumption)) | ((with_reducible apply Bk.put); rotate_left; (first | (dsimp only; omega))))), by (repeat (first | with_reducible assumption | with_reducible apply Bk.drew | with_reducible apply Bk.alloc | ((with_reducible apply Bk.later); rotate_left; (with_reducible assumption)) | ((with_reducible apply Bk.put); rotate_left; (first | (dsimp only; omega)))))⟩ (fun hHeld => ?_)
              clear hK K hOld B0 B1 B2
              try simp only [Act.put, List.setIfInBounds_toArray, List.set_cons_zero, List.set_cons_succ]
              refine wpAnyH_take (i := 10) (v := ?_) (by simp only [List.getElem?_toArray, List.getElem?_cons_succ, List.getElem?_cons_zero]; rfl) (by kernel_rfl) (by kernel_rfl) (by kernel_rfl) (fun _ _ _ h => h) (Or.inl ⟨by rfl, ?_⟩) (by assumption) ?_
              rotate_left
              · intro w hSw; (try dsimp only at hSw); simp only [Bk] at hSw; go_simp; try with_reducible rfl
              try simp only [Act.put, List.setIfInBounds_toArray, List.set_cons_zero, List.set_cons_succ]
              refine wpAnyH_done (by kernel_rfl) ?_ _
              (try refine NoPanic.normal ?_)
              go_wp2
              go_meet
              exact ⟨_, rfl, rfl, by (repeat (first | with_reducible assumption | with_reducible exact Below.refl _ _ | ((with_reducible refine Below.setCell ?_ ?_ _); rotate_left; (first | exact Nat.le_refl _ | (dsimp only; omega) | (simp; done) | (simp; omega))) | with_reducible refine below_alloc ?_ _ | with_reducible apply below_drewN | with_reducible apply Below.drew | with_reducible refine below_step ?_ (by assumption))), by simp (maxDischargeDepth := 8) [Bk, go_sem, *], hHeld⟩
            exact AllReadyH.nil
          exact AllReadyH.nil
        exact AllReadyH.nil
      exact AllReadyH.nil
    refine AllReadyH.cons rfl (fun K hK => ?_) ?_
    · have hOld := hHeld; clear hHeld
      have B0 := hOld.1
      have B1 := hOld.2.1
      have B2 := hOld.2.2
      go_simp
      refine hK.out _ _ ⟨by (repeat (first | with_reducible assumption | with_reducible apply Bk.drew | with_reducible apply Bk.alloc | ((with_reducible apply Bk.later); rotate_left; (with_reducible assumption)) | ((with_reducible apply Bk.put); rotate_left; (first | (dsimp only; omega))))), by (repeat (first | with_reducible assumption | with_reducible apply Bk.drew | with_reducible apply Bk.alloc | ((with_reducible apply Bk.later); rotate_left; (with_reducible assumption)) | ((with_reducible apply Bk.put); rotate_left; (first | (dsimp only; omega))))), by (repeat (first | with_reducible assumption | with_reducible apply Bk.drew | with_reducible apply Bk.alloc | ((with_reducible apply Bk.later); rotate_left; (with_reducible assumption)) | ((with_reducible apply Bk.put); rotate_left; (first | (dsimp only; omega)))))⟩ (fun hHeld => ?_)
      clear hK K hOld B0 B1 B2
      try simp only [Act.put, List.setIfInBounds_toArray, List.set_cons_zero, List.set_cons_succ]
      refine wpAnyH_ready (rs := [1]) (by kernel_rfl) (by simp) ?_
      refine AllReadyH.cons rfl (fun K hK => ?_) ?_
      · have hOld := hHeld; clear hHeld
        have B0 := hOld.1
        have B1 := hOld.2.1
        have B2 := hOld.2.2
        go_simp
        (go_at_call 19; (with_reducible refine (ko _).mono ?_); rintro e wz7 ⟨rfl, hR⟩)
        have hzR := hR.size
        (try simp at hzR)
        have GR0 : Bk (ws.heap.size + 1) 0 [.bool false, .int .u64 0, .int .u64 0, .int .u64 0, .int .u64 0] wz7 := Bk.later (by first | (simp [Bk, go_sem]; done) | (repeat (first | with_reducible assumption | with_reducible apply Bk.drew | with_reducible apply Bk.alloc | ((with_reducible apply Bk.later); rotate_left; (with_reducible assumption)) | ((with_reducible apply Bk.put); rotate_left; (first | (dsimp only; omega)))))) hR
        have GS0 := GR0; simp only [Bk] at GS0
        have nl0 : ws.heap.size + 1 < wz7.heap.size := by omega
        have HB := below_step (W := _) (by (repeat (first | with_reducible assumption | with_reducible exact Below.refl _ _ | ((with_reducible refine Below.setCell ?_ ?_ _); rotate_left; (first | exact Nat.le_refl _ | (dsimp only; omega) | (simp; done) | (simp; omega))) | with_reducible refine below_alloc ?_ _ | with_reducible apply below_drewN | with_reducible apply Below.drew | with_reducible refine below_step ?_ (by assumption)))) hR
        (try go_wp2_with (fail))
        refine hK.out _ _ ⟨by (repeat (first | with_reducible assumption | with_reducible apply Bk.drew | with_reducible apply Bk.alloc | ((with_reducible apply Bk.later); rotate_left; (with_reducible assumption)) | ((with_reducible apply Bk.put); rotate_left; (first | (dsimp only; omega))))), by (repeat (first | with_reducible assumption | with_reducible apply Bk.drew | with_reducible apply Bk.alloc | ((with_reducible apply Bk.later); rotate_left; (with_reducible assumption)) | ((with_reducible apply Bk.put); rotate_left; (first | (dsimp only; omega))))), by (repeat (first | with_reducible assumption | with_reducible apply Bk.drew | with_reducible apply Bk.alloc | ((with_reducible apply Bk.later); rotate_left; (with_reducible assumption)) | ((with_reducible apply Bk.put); rotate_left; (first | (dsimp only; omega)))))⟩ (fun hHeld => ?_)
        clear hK K hOld B0 B1 B2
        try simp only [Act.put, List.setIfInBounds_toArray, List.set_cons_zero, List.set_cons_succ]
        refine wpAnyH_ready (rs := [3]) (by kernel_rfl) (by simp) ?_
        refine AllReadyH.cons rfl (fun K hK => ?_) ?_
        · have hOld := hHeld; clear hHeld
          have B0 := hOld.1
          have B1 := hOld.2.1
          have B2 := hOld.2.2
          go_simp
          (go_at_call 19; (with_reducible refine (kp _).mono ?_); rintro e wz8 ⟨rfl, hR⟩)
          have hzR := hR.size
          (try simp at hzR)
          have GR0 : Bk (ws.heap.size + 1) 0 [.bool false, .int .u64 0, .int .u64 0, .int .u64 0, .int .u64 0] wz8 := Bk.later (by first | (simp [Bk, go_sem]; done) | (repeat (first | with_reducible assumption | with_reducible apply Bk.drew | with_reducible apply Bk.alloc | ((with_reducible apply Bk.later); rotate_left; (with_reducible assumption)) | ((with_reducible apply Bk.put); rotate_left; (first | (dsimp only; omega)))))) hR
          have GS0 := GR0; simp only [Bk] at GS0
          have nl0 : ws.heap.size + 1 < wz8.heap.size := by omega
          have HB := below_step (W := _) (by (repeat (first | with_reducible assumption | with_reducible exact Below.refl _ _ | ((with_reducible refine Below.setCell ?_ ?_ _); rotate_left; (first | exact Nat.le_refl _ | (dsimp only; omega) | (simp; done) | (simp; omega))) | with_reducible refine below_alloc ?_ _ | with_reducible apply below_drewN | with_reducible apply Below.drew | with_reducible refine below_step ?_ (by assumption)))) hR
          (try go_wp2_with (fail))
          refine hK.out _ _ ⟨by (repeat (first | with_reducible assumption | with_reducible apply Bk.drew | with_reducible apply Bk.alloc | ((with_reducible apply Bk.later); rotate_left; (with_reducible assumption)) | ((with_reducible apply Bk.put); rotate_left; (first | (dsimp only; omega))))), by (repeat (first | with_reducible assumption | with_reducible apply Bk.drew | with_reducible apply Bk.alloc | ((with_reducible apply Bk.later); rotate_left; (with_reducible assumption)) | ((with_reducible apply Bk.put); rotate_left; (first | (dsimp only; omega))))), by (repeat (first | with_reducible assumption | with_reducible apply Bk.drew | with_reducible apply Bk.alloc | ((with_reducible apply Bk.later); rotate_left; (with_reducible assumption)) | ((with_reducible apply Bk.put); rotate_left; (first | (dsimp only; omega)))))⟩ (fun hHeld => ?_)
          clear hK K hOld B0 B1 B2
          try simp only [Act.put, List.setIfInBounds_toArray, List.set_cons_zero, List.set_cons_succ]
          refine wpAnyH_ready (rs := [4]) (by kernel_rfl) (by simp) ?_
          refine AllReadyH.cons rfl (fun K hK => ?_) ?_
          · have hOld := hHeld; clear hHeld
            have B0 := hOld.1
            have B1 := hOld.2.1
            have B2 := hOld.2.2
            go_simp
            (go_at_call 29; (with_reducible refine (kR _).mono ?_); rintro e wz9 ⟨rfl, hR⟩)
            have hzR := hR.size
            (try simp at hzR)
            have GR0 : Bk (ws.heap.size + 1) 0 [.bool false, .int .u64 0, .int .u64 0, .int .u64 0, .int .u64 0] wz9 := Bk.later (by first | (simp [Bk, go_sem]; done) | (repeat (first | with_reducible assumption | with_reducible apply Bk.drew | with_reducible apply Bk.alloc | ((with_reducible apply Bk.later); rotate_left; (with_reducible assumption)) | ((with_reducible apply Bk.put); rotate_left; (first | (dsimp only; omega)))))) hR
            have GS0 := GR0; simp only [Bk] at GS0
            have nl0 : ws.heap.size + 1 < wz9.heap.size := by omega
            have HB := below_step (W := _) (by (repeat (first | with_reducible assumption | with_reducible exact Below.refl _ _ | ((with_reducible refine Below.setCell ?_ ?_ _); rotate_left; (first | exact Nat.le_refl _ | (dsimp only; omega) | (simp; done) | (simp; omega))) | with_reducible refine below_alloc ?_ _ | with_reducible apply below_drewN | with_reducible apply Below.drew | with_reducible refine below_step ?_ (by assumption)))) hR
            (try go_wp2_with (fail))
            refine hK.out _ _ ⟨by (repeat (first | with_reducible assumption | with_reducible apply Bk.drew | with_reducible apply Bk.alloc | ((with_reducible apply Bk.later); rotate_left; (with_reducible assumption)) | ((with_reducible apply Bk.put); rotate_left; (first | (dsimp only; omega))))), by (repeat (first | with_reducible assumption | with_reducible apply Bk.drew | with_reducible apply Bk.alloc | ((with_reducible apply Bk.later); rotate_left; (with_reducible assumption)) | ((with_reducible apply Bk.put); rotate_left; (first | (dsimp only; omega))))), by (repeat (first | with_reducible assumption | with_reducible apply Bk.drew | with_reducible apply Bk.alloc | ((with_reducible apply Bk.later); rotate_left; (with_reducible assumption)) | ((with_reducible apply Bk.put); rotate_left; (first | (dsimp only; omega)))))⟩ (fun hHeld => ?_)
            clear hK K hOld B0 B1 B2
            try simp only [Act.put, List.setIfInBounds_toArray, List.set_cons_zero, List.set_cons_succ]
            refine wpAnyH_take (i := 5) (v := ?_) (by simp only [List.getElem?_toArray, List.getElem?_cons_succ, List.getElem?_cons_zero]; rfl) (by kernel_rfl) (by kernel_rfl) (by kernel_rfl) (fun _ _ _ h => h) (Or.inl ⟨by rfl, ?_⟩) (by assumption) ?_
            rotate_left
            · intro w hSw; (try dsimp only at hSw); simp only [Bk] at hSw; go_simp; try with_reducible rfl
            try simp only [Act.put, List.setIfInBounds_toArray, List.set_cons_zero, List.set_cons_succ]
            refine wpAnyH_take (i := 6) (v := ?_) (by simp only [List.getElem?_toArray, List.getElem?_cons_succ, List.getElem?_cons_zero]; rfl) (by kernel_rfl) (by kernel_rfl) (by kernel_rfl) (fun _ _ _ h => h) (Or.inl ⟨by rfl, ?_⟩) (by assumption) ?_
            rotate_left
            · intro w hSw; (try dsimp only at hSw); simp only [Bk] at hSw; go_simp; try with_reducible rfl
            try simp only [Act.put, List.setIfInBounds_toArray, List.set_cons_zero, List.set_cons_succ]
            refine wpAnyH_take (i := 7) (v := ?_) (by simp only [List.getElem?_toArray, List.getElem?_cons_succ, List.getElem?_cons_zero]; rfl) (by kernel_rfl) (by kernel_rfl) (by kernel_rfl) (fun _ _ _ h => h) (Or.inl ⟨by rfl, ?_⟩) (by assumption) ?_
            rotate_left
            · intro w hSw; (try dsimp only at hSw); simp only [Bk] at hSw; go_simp; try with_reducible rfl
            try simp only [Act.put, List.setIfInBounds_toArray, List.set_cons_zero, List.set_cons_succ]
            refine wpAnyH_ready (rs := [9]) (by kernel_rfl) (by simp) ?_
            refine AllReadyH.cons rfl (fun K hK => ?_) ?_
            · have hOld := hHeld; clear hHeld
              have B0 := hOld.1
              have B1 := hOld.2.1
              have B2 := hOld.2.2
              have G0 : Bk (ws.heap.size + 1) 0 [.bool false, .int .u64 0, .int .u64 0, .int .u64 0, .int .u64 0] (wz9) := by first | (simp [Bk, go_sem]; done) | (repeat (first | with_reducible assumption | with_reducible apply Bk.drew | with_reducible apply Bk.alloc | ((with_reducible apply Bk.later); rotate_left; (with_reducible assumption)) | ((with_reducible apply Bk.put); rotate_left; (first | (dsimp only; omega)))))
              simp only [Bk] at G0
              go_simp
              refine hK.out _ _ ⟨by (repeat (first | with_reducible assumption | with_reducible apply Bk.drew | with_reducible apply Bk.alloc | ((with_reducible apply Bk.later); rotate_left; (with_reducible assumption)) | ((with_reducible apply Bk.put); rotate_left; (first | (dsimp only; omega))))), by (repeat (first | with_reducible assumption | with_reducible apply Bk.drew | with_reducible apply Bk.alloc | ((with_reducible apply Bk.later); rotate_left; (with_reducible assumption)) | ((with_reducible apply Bk.put); rotate_left; (first | (dsimp only; omega))))), by (repeat (first | with_reducible assumption | with_reducible apply Bk.drew | with_reducible apply Bk.alloc | ((with_reducible apply Bk.later); rotate_left; (with_reducible assumption)) | ((with_reducible apply Bk.put); rotate_left; (first | (dsimp only; omega)))))⟩ (fun hHeld => ?_)
              clear hK K hOld B0 B1 B2
              try simp only [Act.put, List.setIfInBounds_toArray, List.set_cons_zero, List.set_cons_succ]
              refine wpAnyH_take (i := 10) (v := ?_) (by simp only [List.getElem?_toArray, List.getElem?_cons_succ, List.getElem?_cons_zero]; rfl) (by kernel_rfl) (by kernel_rfl) (by kernel_rfl) (fun _ _ _ h => h) (Or.inl ⟨by rfl, ?_⟩) (by assumption) ?_
              rotate_left
              · intro w hSw; (try dsimp only at hSw); simp only [Bk] at hSw; go_simp; try with_reducible rfl
              try simp only [Act.put, List.setIfInBounds_toArray, List.set_cons_zero, List.set_cons_succ]
              refine wpAnyH_done (by kernel_rfl) ?_ _
              (try refine NoPanic.normal ?_)
              go_wp2
              go_meet
              exact ⟨_, rfl, rfl, by (repeat (first | with_reducible assumption | with_reducible exact Below.refl _ _ | ((with_reducible refine Below.setCell ?_ ?_ _); rotate_left; (first | exact Nat.le_refl _ | (dsimp only; omega) | (simp; done) | (simp; omega))) | with_reducible refine below_alloc ?_ _ | with_reducible apply below_drewN | with_reducible apply Below.drew | with_reducible refine below_step ?_ (by assumption))), by simp (maxDischargeDepth := 8) [Bk, go_sem, *], hHeld⟩
            exact AllReadyH.nil
          exact AllReadyH.nil
        exact AllReadyH.nil
      exact AllReadyH.nil
    exact AllReadyH.nil
  case rest =>
    obtain ⟨k, rfl, rfl, HB, G, B0, -, S0⟩ := hcut
    have C0 := B0; simp only [Bk] at C0
    go_wp2_with (fail)
    (go_at_call 30; (with_reducible refine (kN _).mono ?_); rintro e w1 ⟨rfl, hM⟩)
    have G := G.later hM; have B0 := B0.later hM; have S0 := S0.later hM
    have HB := below_step HB hM
    have C0 := B0; simp only [Bk] at C0
    rename World => wn
    clear hM kN
    go_wp2_with (fail)
    (go_at_call 19; (with_reducible refine (ko _).mono ?_); rintro e w1 ⟨rfl, hM⟩)
    have N0 : Bk (wn.heap.size) 0 [.int .i64 (hw D), .int .u64 (lw D)] w1 := Bk.later (by simp [Bk, go_sem]; done) hM
    have G : Bk k 0 [.bool nc, .int .u64 (d0 mc), .int .u64 (d1 mc), .int .u64 (d2 mc), .int .u64 (d3 mc)] w1 := by (repeat (first | with_reducible assumption | with_reducible apply Bk.drew | with_reducible apply Bk.alloc | ((with_reducible apply Bk.later); rotate_left; (with_reducible assumption)) | ((with_reducible apply Bk.put); rotate_left; (first | (dsimp only; omega)))))
    have S0 : Bk (ws.heap.size) 0 [.int .i64 (hw C), .int .u64 (lw C)] w1 := Bk.later (Bk.alloc S0 _) hM
    have HB : Below w.heap.size w w1 := by (repeat (first | with_reducible assumption | with_reducible exact Below.refl _ _ | ((with_reducible refine Below.setCell ?_ ?_ _); rotate_left; (first | exact Nat.le_refl _ | (dsimp only; omega) | (simp; done) | (simp; omega))) | with_reducible refine below_alloc ?_ _ | with_reducible apply below_drewN | with_reducible apply Below.drew | with_reducible refine below_step ?_ (by assumption)))
    rename World => wm
    have hnw : wn.heap.size < wm.heap.size := World.block_lt_of_cell? wm _ N0.1
    have hkw : k < wm.heap.size := World.block_lt_of_cell? wm _ G.1
    have hsw : ws.heap.size < wm.heap.size := World.block_lt_of_cell? wm _ S0.1
    clear hM ko
    go_wp2_with (fail)
    (go_at_call 31; (with_reducible refine (kz _).mono ?_); rintro e w1 ⟨rfl, hM⟩)
    have N0 : Bk (wn.heap.size) 0 [.int .i64 (hw D), .int .u64 (lw D)] w1 := by (repeat (first | with_reducible assumption | with_reducible apply Bk.drew | with_reducible apply Bk.alloc | ((with_reducible apply Bk.later); rotate_left; (with_reducible assumption)) | ((with_reducible apply Bk.put); rotate_left; (first | (dsimp only; omega)))))
    have G : Bk k 0 [.bool nc, .int .u64 (d0 mc), .int .u64 (d1 mc), .int .u64 (d2 mc), .int .u64 (d3 mc)] w1 := by (repeat (first | with_reducible assumption | with_reducible apply Bk.drew | with_reducible apply Bk.alloc | ((with_reducible apply Bk.later); rotate_left; (with_reducible assumption)) | ((with_reducible apply Bk.put); rotate_left; (first | (dsimp only; omega)))))
    have S0 : Bk (ws.heap.size) 0 [.int .i64 (hw C), .int .u64 (lw C)] w1 := Bk.later (Bk.alloc S0 _) hM
    have M0 : Bk (wm.heap.size) 0 [.bool (!na), .int .u64 (d0 ma), .int .u64 (d1 ma), .int .u64 (d2 ma), .int .u64 (d3 ma)] w1 := Bk.later (by simp [Bk, go_sem]; done) hM
    have HB : Below w.heap.size w w1 := by (repeat (first | with_reducible assumption | with_reducible exact Below.refl _ _ | ((with_reducible refine Below.setCell ?_ ?_ _); rotate_left; (first | exact Nat.le_refl _ | (dsimp only; omega) | (simp; done) | (simp; omega))) | with_reducible refine below_alloc ?_ _ | with_reducible apply below_drewN | with_reducible apply Below.drew | with_reducible refine below_step ?_ (by assumption)))
    have q1 := hM.size
    simp at q1
    have q2 : wn.heap.size < wm.heap.size := hnw
    clear hM kz
    have CM := M0; simp only [Bk] at CM
    have hnm : wn.heap.size ≠ wm.heap.size := by omega
    cases z with
    | false =>
      have eg : g = !na := by rw [HG.out]; rfl
      subst eg
      go_wp2_with (fail)
      (go_at_call 32; (with_reducible refine (kw _).mono ?_); rintro e w1 ⟨rfl, hM⟩)
      have N0 : Bk (wn.heap.size) 0 [.int .i64 (hw D), .int .u64 (lw D)] w1 := by (repeat (first | with_reducible assumption | with_reducible apply Bk.drew | with_reducible apply Bk.alloc | ((with_reducible apply Bk.later); rotate_left; (with_reducible assumption)) | ((with_reducible apply Bk.put); rotate_left; (first | (dsimp only; omega)))))
      have G : Bk k 0 [.bool nc, .int .u64 (d0 mc), .int .u64 (d1 mc), .int .u64 (d2 mc), .int .u64 (d3 mc)] w1 := by (repeat (first | with_reducible assumption | with_reducible apply Bk.drew | with_reducible apply Bk.alloc | ((with_reducible apply Bk.later); rotate_left; (with_reducible assumption)) | ((with_reducible apply Bk.put); rotate_left; (first | (dsimp only; omega)))))
      have S0 : Bk (ws.heap.size) 0 [.int .i64 (hw C), .int .u64 (lw C)] w1 := by (repeat (first | with_reducible assumption | with_reducible apply Bk.drew | with_reducible apply Bk.alloc | ((with_reducible apply Bk.later); rotate_left; (with_reducible assumption)) | ((with_reducible apply Bk.put); rotate_left; (first | (dsimp only; omega)))))
      have HB : Below w.heap.size w w1 := by (repeat (first | with_reducible assumption | with_reducible exact Below.refl _ _ | ((with_reducible refine Below.setCell ?_ ?_ _); rotate_left; (first | exact Nat.le_refl _ | (dsimp only; omega) | (simp; done) | (simp; omega))) | with_reducible refine below_alloc ?_ _ | with_reducible apply below_drewN | with_reducible apply Below.drew | with_reducible refine below_step ?_ (by assumption)))
      have CN := N0; simp only [Bk] at CN
      have CG := G; simp only [Bk] at CG
      have CS := S0; simp only [Bk] at CS
      clear hM kw
      go_wp2_with (fail)
      (go_at_call 11; (with_reducible refine (ks _).mono ?_); rintro e w1 ⟨rfl, hM⟩)
      have N0 := N0.later hM
      have HB := below_step HB hM
      have CN := N0; simp only [Bk] at CN
      clear hM ks
      go_wp2_with ((go_at_call 16; (with_reducible refine (cAwake1 _).mono ?_); rintro e w1 ⟨rfl, hM⟩))
      go_ret
      exact ⟨rfl, by (repeat (first | with_reducible assumption | with_reducible exact Below.refl _ _ | ((with_reducible refine Below.setCell ?_ ?_ _); rotate_left; (first | exact Nat.le_refl _ | (dsimp only; omega) | (simp; done) | (simp; omega))) | with_reducible refine below_alloc ?_ _ | with_reducible apply below_drewN | with_reducible apply Below.drew | with_reducible refine below_step ?_ (by assumption)))⟩
    | true =>
      have eg : g = false := by rw [HG.out]; rfl
      subst eg
      go_wp2_with (fail)
      (go_at_call 32; (with_reducible refine (kw _).mono ?_); rintro e w1 ⟨rfl, hM⟩)
      have N0 : Bk (wn.heap.size) 0 [.int .i64 (hw D), .int .u64 (lw D)] w1 := by (repeat (first | with_reducible assumption | with_reducible apply Bk.drew | with_reducible apply Bk.alloc | ((with_reducible apply Bk.later); rotate_left; (with_reducible assumption)) | ((with_reducible apply Bk.put); rotate_left; (first | (dsimp only; omega)))))
      have G : Bk k 0 [.bool nc, .int .u64 (d0 mc), .int .u64 (d1 mc), .int .u64 (d2 mc), .int .u64 (d3 mc)] w1 := by (repeat (first | with_reducible assumption | with_reducible apply Bk.drew | with_reducible apply Bk.alloc | ((with_reducible apply Bk.later); rotate_left; (with_reducible assumption)) | ((with_reducible apply Bk.put); rotate_left; (first | (dsimp only; omega)))))
      have S0 : Bk (ws.heap.size) 0 [.int .i64 (hw C), .int .u64 (lw C)] w1 := by (repeat (first | with_reducible assumption | with_reducible apply Bk.drew | with_reducible apply Bk.alloc | ((with_reducible apply Bk.later); rotate_left; (with_reducible assumption)) | ((with_reducible apply Bk.put); rotate_left; (first | (dsimp only; omega)))))
      have HB : Below w.heap.size w w1 := by (repeat (first | with_reducible assumption | with_reducible exact Below.refl _ _ | ((with_reducible refine Below.setCell ?_ ?_ _); rotate_left; (first | exact Nat.le_refl _ | (dsimp only; omega) | (simp; done) | (simp; omega))) | with_reducible refine below_alloc ?_ _ | with_reducible apply below_drewN | with_reducible apply Below.drew | with_reducible refine below_step ?_ (by assumption)))
      have CN := N0; simp only [Bk] at CN
      have CG := G; simp only [Bk] at CG
      have CS := S0; simp only [Bk] at CS
      clear hM kw
      go_wp2_with (fail)
      (go_at_call 11; (with_reducible refine (ks _).mono ?_); rintro e w1 ⟨rfl, hM⟩)
      have N0 := N0.later hM
      have HB := below_step HB hM
      have CN := N0; simp only [Bk] at CN
      clear hM ks
      go_wp2_with ((go_at_call 16; (with_reducible refine (cAwake1 _).mono ?_); rintro e w1 ⟨rfl, hM⟩))
      go_ret
      exact ⟨rfl, by (repeat (first | with_reducible assumption | with_reducible exact Below.refl _ _ | ((with_reducible refine Below.setCell ?_ ?_ _); rotate_left; (first | exact Nat.le_refl _ | (dsimp only; omega) | (simp; done) | (simp; omega))) | with_reducible refine below_alloc ?_ _ | with_reducible apply below_drewN | with_reducible apply Below.drew | with_reducible refine below_step ?_ (by assumption)))⟩
theorem walk_WideAdd (x0 x1 x2 x3 : Int) (w : World) (h0 : -9223372036854775808 ≤ x0) (h1 : x0 ≤ 9223372036854775807) (h2 : 0 ≤ x1) (h3 : x1 ≤ 18446744073709551615) (g0 : -9223372036854775808 ≤ x2) (g1 : x2 ≤ 9223372036854775807) (g2 : 0 ≤ x3) (g3 : x3 ≤ 18446744073709551615) :
    Calls Try.prog 9 #[.agg #[.int .i64 x0, .int .u64 x1], .agg #[.int .i64 x2, .int .u64 x3]] w fun e w' => e = .returned (.bool true) ∧ Below w.heap.size w w' := by
  have h := walkN_WideAdd (wv x0 x1) (wv x2 x3) w (wv_lo x0 x1 h0 h2) (wv_hi x0 x1 h1 h3) (wv_lo x2 x3 g0 g2) (wv_hi x2 x3 g1 g3)
  rw [hw_wv x0 x1 h2 h3, lw_wv x0 x1 h2 h3, hw_wv x2 x3 g2 g3, lw_wv x2 x3 g2 g3] at h
  exact h
end Go.Proofs.Ytmkpnejnjnkpiaa
