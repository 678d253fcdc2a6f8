/- The contracts of plane.Beyond and plane.touches, and the walk of chapter 7's example. -/
import Derived.Test.YtcijddjfadcanaaH4
import Derived.Test.YtcijddjfadcanaaH5
set_option linter.unusedSimpArgs false
set_option linter.unusedVariables false
namespace Go.Proofs.Ytcijddjfadcanaa
open Go.RowKit
theorem cmp3_lt (a b : Int) : cmp3 a b < 0 ↔ a < b := by unfold cmp3; split <;> (try split) <;> omega
theorem mulb9 (q L : Int) (q0 : 0 ≤ q) (q1 : q ≤ 2251799813685249) (L0 : 1 ≤ L) (L1 : L ≤ 1125899906842624) : 0 ≤ q * L ∧ q * L ≤ 2535301200456459928893313253376 := by
  refine ⟨Int.mul_nonneg q0 (by omega), ?_⟩
  have := Int.mul_le_mul q1 L1 (by omega) (by decide)
  omega
set_option maxHeartbeats 8000000 in
theorem cBeyond (ax ay bx bY px py : Int) (w : World) :
    Calls Try.prog 15 #[.agg #[.int .i64 ax, .int .i64 ay], .agg #[.int .i64 bx, .int .i64 bY], .agg #[.int .i64 px, .int .i64 py]] w fun e w' => e = .returned (.int .i64 (bh ax ay bx bY px py)) ∧ Below w.heap.size w w' := by
  have k1 := fun q W => cNear3 q ax ay bx bY px py W
  cases hn : (pn ax ay && pn bx bY && pn px py) with
  | false =>
    have E : Hid (bh ax ay bx bY px py = 0) := Lib.hid (by unfold bh; rw [hn]; rfl)
    rw [hn] at k1
    clear hn
    go_enter Try.func15, Try.ntmps15
    go_wp2_with (fail)
    (go_at_call 19; (with_reducible refine (k1 _ _ (by simp [go_sem]) (by simp [go_sem]) (by simp [go_sem]) (by simp [go_sem]) (by simp [go_sem]) (by simp [go_sem])).mono ?_); rintro e w1 ⟨rfl, hM⟩)
    go_wp2
    go_ret
    exact ⟨by rw [E.out]; rfl, by (repeat (first | with_reducible assumption | with_reducible exact Below.refl _ _ | ((with_reducible refine Below.setCell ?_ ?_ _); rotate_left; (first | exact Nat.le_refl _ | (dsimp only; omega) | (simp; done) | (simp; omega))) | with_reducible refine below_alloc ?_ _ | with_reducible apply below_drewN | with_reducible apply Below.drew | with_reducible refine below_step ?_ (by assumption)))⟩
  | true =>
    have E0 : bh ax ay bx bY px py = if (decide (ar ax ay bx bY px py < 0) && wn ax ay bx bY px py) = true then -(ar ax ay bx bY px py / lg ax ay bx bY) else 0 := by unfold bh; rw [hn, Bool.true_and]
    rw [hn] at k1
    simp only [Bool.and_eq_true] at hn
    obtain ⟨⟨ha, hb⟩, hp⟩ := hn
    have k2 := fun W => cArea ax ay bx bY px py W ha hb hp
    have bd := ar_bd ax ay bx bY px py ha hb hp
    have kS := fun W => nWSign (ar ax ay bx bY px py) W (by omega) (by omega)
    have kW := fun W => cWithin ax ay bx bY px py W ha hb hp
    have kF := fun W => cFrom ax ay bx bY W ha hb
    have hfar := far_bd ax ay bx bY px py ha hb hp
    have hup := fun h => up_div (-ar ax ay bx bY px py) (lg ax ay bx bY) (hfar h).1 (by omega) (hfar h).2.2.2.2
    rw [pn_iff] at ha hb hp
    have kD := fun W => cWDot (bx - ax) (bY - ay) (bx - ax) (bY - ay) W (by omega) (by omega) (by omega) (by omega) (by omega) (by omega) (by omega) (by omega)
    have kN := fun W => nWNeg (ar ax ay bx bY px py) W (by omega) (by omega)
    rw [cw_yes (-ar ax ay bx bY px py) (by omega) (by omega), fw_yes (-ar ax ay bx bY px py) (by omega) (by omega)] at kN
    rw [show (bx - ax) * (bx - ax) + (bY - ay) * (bY - ay) = dp ax ay bx bY bx bY from rfl] at kD
    generalize bh ax ay bx bY px py = V at *
    unfold lg at hfar hup E0
    generalize dp ax ay bx bY bx bY = D at *
    generalize ar ax ay bx bY px py = A at *
    generalize wn ax ay bx bY px py = t at *
    obtain ⟨zs, hzs⟩ : ∃ z, cmp3 A 0 = z := ⟨_, rfl⟩
    have c1 := cmp3_neg A
    rw [hzs] at kS c1
    by_cases hA : A < 0
    · obtain ⟨L0, L1, D0, D1, -⟩ := hfar hA
      obtain ⟨u1, u2, u3, u4, u5⟩ := hup hA
      rw [Int.neg_neg] at u3
      have kR := fun W => nWRoot D W (by omega) (by omega)
      have z1 : zs < 0 := c1.2 hA
      have z2 : ¬ 0 ≤ zs := by omega
      have z3 := decide_eq_false z2
      cases t with
      | false =>
        have E : Hid (V = 0) := Lib.hid (by rw [E0]; simp)
        clear E0 hfar hup u1 u2 u3 u4 u5 L0 L1 D0 D1 c1 hzs bd hA
        go_enter Try.func15, Try.ntmps15
        go_wp2_with (fail)
        (go_at_call 19; (with_reducible refine (k1 _ _ (by simp [go_sem]) (by simp [go_sem]) (by simp [go_sem]) (by simp [go_sem]) (by simp [go_sem]) (by simp [go_sem])).mono ?_); rintro e w1 ⟨rfl, hM⟩)
        have B0 : Bk (w.heap.size) 0 [.int .i64 ax, .int .i64 ay] w1 := Bk.later (by simp [Bk, go_sem]; done) hM
        have B1 : Bk (w.heap.size + 1) 0 [.int .i64 bx, .int .i64 bY] w1 := Bk.later (by simp [Bk, go_sem]; done) hM
        have B2 : Bk (w.heap.size + 1 + 1) 0 [.int .i64 px, .int .i64 py] w1 := Bk.later (by simp [Bk, go_sem]; done) hM
        have HB : Below w.heap.size w w1 := by (repeat (first | with_reducible assumption | with_reducible exact Below.refl _ _ | ((with_reducible refine Below.setCell ?_ ?_ _); rotate_left; (first | exact Nat.le_refl _ | (dsimp only; omega) | (simp; done) | (simp; omega))) | with_reducible refine below_alloc ?_ _ | with_reducible apply below_drewN | with_reducible apply Below.drew | with_reducible refine below_step ?_ (by assumption)))
        have C0 := B0; simp only [Bk] at C0
        have C1 := B1; simp only [Bk] at C1
        have C2 := B2; simp only [Bk] at C2
        clear hM k1
        go_wp2_with (fail)
        (go_at_call 21; (with_reducible refine (k2 _).mono ?_); rintro e w1 ⟨rfl, hM⟩)
        have B0 := B0.later hM; have B1 := B1.later hM; have B2 := B2.later hM
        have HB := below_step HB hM
        have C0 := B0; simp only [Bk] at C0
        have C1 := B1; simp only [Bk] at C1
        have C2 := B2; simp only [Bk] at C2
        clear hM k2
        go_wp2_with (fail)
        (go_at_call 20; (with_reducible refine (kS _).mono ?_); rintro e w1 ⟨rfl, hM⟩)
        have B0 : Bk (w.heap.size) 0 [.int .i64 ax, .int .i64 ay] w1 := by (repeat (first | with_reducible assumption | with_reducible apply Bk.drew | with_reducible apply Bk.alloc | ((with_reducible apply Bk.later); rotate_left; (with_reducible assumption)) | ((with_reducible apply Bk.put); rotate_left; (first | (dsimp only; omega)))))
        have B1 : Bk (w.heap.size + 1) 0 [.int .i64 bx, .int .i64 bY] w1 := by (repeat (first | with_reducible assumption | with_reducible apply Bk.drew | with_reducible apply Bk.alloc | ((with_reducible apply Bk.later); rotate_left; (with_reducible assumption)) | ((with_reducible apply Bk.put); rotate_left; (first | (dsimp only; omega)))))
        have B2 : Bk (w.heap.size + 1 + 1) 0 [.int .i64 px, .int .i64 py] w1 := by (repeat (first | with_reducible assumption | with_reducible apply Bk.drew | with_reducible apply Bk.alloc | ((with_reducible apply Bk.later); rotate_left; (with_reducible assumption)) | ((with_reducible apply Bk.put); rotate_left; (first | (dsimp only; omega)))))
        have HB : Below w.heap.size w w1 := by (repeat (first | with_reducible assumption | with_reducible exact Below.refl _ _ | ((with_reducible refine Below.setCell ?_ ?_ _); rotate_left; (first | exact Nat.le_refl _ | (dsimp only; omega) | (simp; done) | (simp; omega))) | with_reducible refine below_alloc ?_ _ | with_reducible apply below_drewN | with_reducible apply Below.drew | with_reducible refine below_step ?_ (by assumption)))
        have C0 := B0; simp only [Bk] at C0
        have C1 := B1; simp only [Bk] at C1
        have C2 := B2; simp only [Bk] at C2
        go_wp2_with ((go_at_call 31; (with_reducible refine (kW _).mono ?_); rintro e w1 ⟨rfl, hM⟩))
        go_ret
        exact ⟨by rw [E.out]; rfl, by (repeat (first | with_reducible assumption | with_reducible exact Below.refl _ _ | ((with_reducible refine Below.setCell ?_ ?_ _); rotate_left; (first | exact Nat.le_refl _ | (dsimp only; omega) | (simp; done) | (simp; omega))) | with_reducible refine below_alloc ?_ _ | with_reducible apply below_drewN | with_reducible apply Below.drew | with_reducible refine below_step ?_ (by assumption)))⟩
      | true =>
        have E : Hid (V = if qn (-A) (rt D) * rt D < -A then qn (-A) (rt D) + 1 else qn (-A) (rt D)) := Lib.hid (by rw [E0, decide_eq_true hA, u3]; rfl)
        have kV := fun W => nWDiv (-A) (rt D) W (by omega) (by omega) (by omega) (by omega)
        rw [u1, u2] at kV
        have pb := mulb9 (qn (-A) (rt D)) (rt D) u4 u5 L0 L1
        have kM := fun W => cWMul (qn (-A) (rt D)) (rt D) W (by omega) (by omega) (by omega) (by omega)
        have kC := fun W => nWCmp (qn (-A) (rt D) * rt D) (-A) W
        have c2 := cmp3_lt (qn (-A) (rt D) * rt D) (-A)
        obtain ⟨zc, hzc⟩ : ∃ z, cmp3 (qn (-A) (rt D) * rt D) (-A) = z := ⟨_, rfl⟩
        rw [hzc] at kC c2
        have HC := Lib.hid c2
        have wl : wrap64 (rt D) = rt D := by unfold wrap64; omega
        generalize qn (-A) (rt D) = q at *
        generalize rt D = L at *
        clear E0 hfar hup u1 u2 u3 c1 c2 hzs hzc hA D0 D1
        generalize q * L = Z at *
        generalize hw A = ah at *
        generalize lw A = al at *
        generalize hw (-A) = nh at *
        generalize lw (-A) = nl at *
        go_enter Try.func15, Try.ntmps15
        go_wp2_with (fail)
        (go_at_call 19; (with_reducible refine (k1 _ _ (by simp [go_sem]) (by simp [go_sem]) (by simp [go_sem]) (by simp [go_sem]) (by simp [go_sem]) (by simp [go_sem])).mono ?_); rintro e w1 ⟨rfl, hM⟩)
        have B0 : Bk (w.heap.size) 0 [.int .i64 ax, .int .i64 ay] w1 := Bk.later (by simp [Bk, go_sem]; done) hM
        have B1 : Bk (w.heap.size + 1) 0 [.int .i64 bx, .int .i64 bY] w1 := Bk.later (by simp [Bk, go_sem]; done) hM
        have B2 : Bk (w.heap.size + 1 + 1) 0 [.int .i64 px, .int .i64 py] w1 := Bk.later (by simp [Bk, go_sem]; done) hM
        have HB : Below w.heap.size w w1 := by (repeat (first | with_reducible assumption | with_reducible exact Below.refl _ _ | ((with_reducible refine Below.setCell ?_ ?_ _); rotate_left; (first | exact Nat.le_refl _ | (dsimp only; omega) | (simp; done) | (simp; omega))) | with_reducible refine below_alloc ?_ _ | with_reducible apply below_drewN | with_reducible apply Below.drew | with_reducible refine below_step ?_ (by assumption)))
        have C0 := B0; simp only [Bk] at C0
        have C1 := B1; simp only [Bk] at C1
        have C2 := B2; simp only [Bk] at C2
        clear hM k1
        go_wp2_with (fail)
        (go_at_call 21; (with_reducible refine (k2 _).mono ?_); rintro e w1 ⟨rfl, hM⟩)
        rename World => wn
        have B0 := B0.later hM; have B1 := B1.later hM; have B2 := B2.later hM
        have HB := below_step HB hM
        have C0 := B0; simp only [Bk] at C0
        have C1 := B1; simp only [Bk] at C1
        have C2 := B2; simp only [Bk] at C2
        clear hM k2
        go_wp2_with (fail)
        (go_at_call 20; (with_reducible refine (kS _).mono ?_); rintro e w1 ⟨rfl, hM⟩)
        have N0 : Bk (wn.heap.size) 0 [.int .i64 ah, .int .u64 al] w1 := Bk.later (by simp [Bk, go_sem]; done) hM
        have B0 : Bk (w.heap.size) 0 [.int .i64 ax, .int .i64 ay] w1 := by (repeat (first | with_reducible assumption | with_reducible apply Bk.drew | with_reducible apply Bk.alloc | ((with_reducible apply Bk.later); rotate_left; (with_reducible assumption)) | ((with_reducible apply Bk.put); rotate_left; (first | (dsimp only; omega)))))
        have B1 : Bk (w.heap.size + 1) 0 [.int .i64 bx, .int .i64 bY] w1 := by (repeat (first | with_reducible assumption | with_reducible apply Bk.drew | with_reducible apply Bk.alloc | ((with_reducible apply Bk.later); rotate_left; (with_reducible assumption)) | ((with_reducible apply Bk.put); rotate_left; (first | (dsimp only; omega)))))
        have B2 : Bk (w.heap.size + 1 + 1) 0 [.int .i64 px, .int .i64 py] w1 := by (repeat (first | with_reducible assumption | with_reducible apply Bk.drew | with_reducible apply Bk.alloc | ((with_reducible apply Bk.later); rotate_left; (with_reducible assumption)) | ((with_reducible apply Bk.put); rotate_left; (first | (dsimp only; omega)))))
        have HB : Below w.heap.size w w1 := by (repeat (first | with_reducible assumption | with_reducible exact Below.refl _ _ | ((with_reducible refine Below.setCell ?_ ?_ _); rotate_left; (first | exact Nat.le_refl _ | (dsimp only; omega) | (simp; done) | (simp; omega))) | with_reducible refine below_alloc ?_ _ | with_reducible apply below_drewN | with_reducible apply Below.drew | with_reducible refine below_step ?_ (by assumption)))
        have C0 := B0; simp only [Bk] at C0
        have C1 := B1; simp only [Bk] at C1
        have C2 := B2; simp only [Bk] at C2
        clear hM kS
        go_wp2_with (fail)
        (go_at_call 31; (with_reducible refine (kW _).mono ?_); rintro e w1 ⟨rfl, hM⟩)
        have N0 := N0.later hM; have B0 := B0.later hM; have B1 := B1.later hM
        have HB := below_step HB hM
        have C0 := B0; simp only [Bk] at C0
        have C1 := B1; simp only [Bk] at C1
        clear hM kW
        go_wp2_with (fail)
        (go_at_call 32; (with_reducible refine (kF _).mono ?_); rintro e w1 ⟨rfl, hM⟩)
        have N0 := N0.later hM
        have HB := below_step HB hM
        have M0 := N0; simp only [Bk] at M0
        clear hM kF
        go_wp2_with (fail)
        (go_at_call 34; (with_reducible refine (kD _).mono ?_); rintro e w1 ⟨rfl, hM⟩)
        have N0 : Bk (wn.heap.size) 0 [.int .i64 ah, .int .u64 al] w1 := by (repeat (first | with_reducible assumption | with_reducible apply Bk.drew | with_reducible apply Bk.alloc | ((with_reducible apply Bk.later); rotate_left; (with_reducible assumption)) | ((with_reducible apply Bk.put); rotate_left; (first | (dsimp only; omega)))))
        have HB : Below w.heap.size w w1 := by (repeat (first | with_reducible assumption | with_reducible exact Below.refl _ _ | ((with_reducible refine Below.setCell ?_ ?_ _); rotate_left; (first | exact Nat.le_refl _ | (dsimp only; omega) | (simp; done) | (simp; omega))) | with_reducible refine below_alloc ?_ _ | with_reducible apply below_drewN | with_reducible apply Below.drew | with_reducible refine below_step ?_ (by assumption)))
        clear hM kD
        go_wp2_with (fail)
        (go_at_call 33; (with_reducible refine (kR _).mono ?_); rintro e w1 ⟨rfl, hM⟩)
        have N0 := N0.later hM
        have HB := below_step HB hM
        have M0 := N0; simp only [Bk] at M0
        clear hM kR
        go_wp2_with (fail)
        (go_at_call 35; (with_reducible refine (kN _).mono ?_); rintro e w1 ⟨rfl, hM⟩)
        have HB := below_step HB hM
        clear hM kN
        rename World => wm
        go_wp2_with (fail)
        (go_at_call 36; (with_reducible refine (kV _).mono ?_); rintro e w1 ⟨rfl, hM⟩)
        have S0 : Bk (wm.heap.size) 0 [.int .i64 nh, .int .u64 nl] w1 := Bk.later (by simp [Bk, go_sem]; done) hM
        have T0 := S0; simp only [Bk] at T0
        have HB : Below w.heap.size w w1 := by (repeat (first | with_reducible assumption | with_reducible exact Below.refl _ _ | ((with_reducible refine Below.setCell ?_ ?_ _); rotate_left; (first | exact Nat.le_refl _ | (dsimp only; omega) | (simp; done) | (simp; omega))) | with_reducible refine below_alloc ?_ _ | with_reducible apply below_drewN | with_reducible apply Below.drew | with_reducible refine below_step ?_ (by assumption)))
        clear hM kV
        go_upto_region 12 with (fail)
        (try refine wp_region_noPanic ?_)
        refine wp_region_held_drew (S := (fun (w' : World) => w'.cell? ⟨wm.heap.size, 0, none⟩ = some (.int .i64 nh) ∧ w'.cell? ⟨wm.heap.size, 1, none⟩ = some (.int .u64 nl))) (by kernel_rfl) ⟨(by first | (simp (maxDischargeDepth := 6) [go_sem, *]; done)), (by first | (simp (maxDischargeDepth := 6) [go_sem, *]; done))⟩ (fun hHeld => ?_)
        refine wpAnyH_take (i := 0) (v := ?_) (by simp only [List.getElem?_toArray, List.getElem?_cons_succ, List.getElem?_cons_zero]; rfl) (by kernel_rfl) (by kernel_rfl) (by kernel_rfl) (fun _ _ _ h => h) (Or.inl ⟨by rfl, ?_⟩) (by assumption) ?_
        rotate_left
        · intro w hSw; (try dsimp only at hSw); go_simp; try with_reducible rfl
        try simp only [Act.put, List.setIfInBounds_toArray, List.set_cons_zero, List.set_cons_succ]
        refine wpAnyH_take (i := 1) (v := ?_) (by simp only [List.getElem?_toArray, List.getElem?_cons_succ, List.getElem?_cons_zero]; rfl) (by kernel_rfl) (by kernel_rfl) (by kernel_rfl) (fun _ _ _ h => h) (Or.inl ⟨by rfl, ?_⟩) (by assumption) ?_
        rotate_left
        · intro w hSw; (try dsimp only at hSw); go_simp; try with_reducible rfl
        try simp only [Act.put, List.setIfInBounds_toArray, List.set_cons_zero, List.set_cons_succ]
        refine wpAnyH_take (i := 3) (v := ?_) (by simp only [List.getElem?_toArray, List.getElem?_cons_succ, List.getElem?_cons_zero]; rfl) (by kernel_rfl) (by kernel_rfl) (by kernel_rfl) (fun _ _ _ h => h) (Or.inl ⟨by rfl, ?_⟩) (by assumption) ?_
        rotate_left
        · intro w hSw; (try dsimp only at hSw); go_simp; try with_reducible rfl
        try simp only [Act.put, List.setIfInBounds_toArray, List.set_cons_zero, List.set_cons_succ]
        have hOld := hHeld; clear hHeld
        refine wpAnyH_ready (rs := [2]) (by kernel_rfl) (by simp) (AllReadyH.cons rfl (fun K hK => ?_) AllReadyH.nil)
        go_simp
        (go_at_call 38; (with_reducible refine (kM _).mono ?_); rintro e w1 ⟨rfl, hM⟩)
        (try go_wp2_with (fail))
        refine hK.out _ _ ⟨(by first | exact mv_cell hM (by first | (dsimp only; omega) | (simp; omega)) hOld.1 | exact cell_later hM hOld.1 | exact HT.cb | exact HT.cc | (simp (maxDischargeDepth := 6) [go_sem, *]; done)), (by first | exact mv_cell hM (by first | (dsimp only; omega) | (simp; omega)) hOld.2 | exact cell_later hM hOld.2 | exact HT.cb | exact HT.cc | (simp (maxDischargeDepth := 6) [go_sem, *]; done))⟩ (fun hHeld => ?_)
        clear hK K hOld
        try simp only [Act.put, List.setIfInBounds_toArray, List.set_cons_zero, List.set_cons_succ]
        have HB := below_step (W := _) (by (repeat (first | with_reducible assumption | with_reducible exact Below.refl _ _ | ((with_reducible refine Below.setCell ?_ ?_ _); rotate_left; (first | exact Nat.le_refl _ | (dsimp only; omega) | (simp; done) | (simp; omega))) | with_reducible refine below_alloc ?_ _ | with_reducible apply below_drewN | with_reducible apply Below.drew | with_reducible refine below_step ?_ (by assumption)))) hM
        have hOld := hHeld; clear hHeld
        refine wpAnyH_ready (rs := [4]) (by kernel_rfl) (by simp) (AllReadyH.cons rfl (fun K hK => ?_) AllReadyH.nil)
        go_simp
        (go_at_call 37; (with_reducible refine (kC _).mono ?_); rintro e w1 ⟨rfl, hM⟩)
        (try go_wp2_with (fail))
        refine hK.out _ _ ⟨(by first | exact mv_cell hM (by first | (dsimp only; omega) | (simp; omega)) hOld.1 | exact cell_later hM hOld.1 | exact HT.cb | exact HT.cc | (simp (maxDischargeDepth := 6) [go_sem, *]; done)), (by first | exact mv_cell hM (by first | (dsimp only; omega) | (simp; omega)) hOld.2 | exact cell_later hM hOld.2 | exact HT.cb | exact HT.cc | (simp (maxDischargeDepth := 6) [go_sem, *]; done))⟩ (fun hHeld => ?_)
        clear hK K hOld
        try simp only [Act.put, List.setIfInBounds_toArray, List.set_cons_zero, List.set_cons_succ]
        have HB := below_step HB hM
        refine wpAnyH_take (i := 5) (v := ?_) (by simp only [List.getElem?_toArray, List.getElem?_cons_succ, List.getElem?_cons_zero]; rfl) (by kernel_rfl) (by kernel_rfl) (by kernel_rfl) (fun _ _ _ h => h) (Or.inl ⟨by rfl, ?_⟩) (by assumption) ?_
        rotate_left
        · intro w hSw; (try dsimp only at hSw); go_simp; try with_reducible rfl
        try simp only [Act.put, List.setIfInBounds_toArray, List.set_cons_zero, List.set_cons_succ]
        refine wpAnyH_done (by kernel_rfl) ?_ _
        (try refine NoPanic.normal ?_)
        (try clear q0); (try clear q1); obtain ⟨q0, q1⟩ := hHeld
        by_cases hz : Z < -A
        · have y1 : zc < 0 := HC.out.2 hz
          have E2 : Hid (V = q + 1) := Lib.hid (by rw [E.out, if_pos hz])
          go_wp2
          go_ret
          exact ⟨by rw [E2.out]; rfl, by first | exact HB | (repeat (first | with_reducible assumption | with_reducible exact Below.refl _ _ | ((with_reducible refine Below.setCell ?_ ?_ _); rotate_left; (first | exact Nat.le_refl _ | (dsimp only; omega) | (simp; done) | (simp; omega))) | with_reducible refine below_alloc ?_ _ | with_reducible apply below_drewN | with_reducible apply Below.drew | with_reducible refine below_step ?_ (by assumption)))⟩
        · have y1 : ¬ zc < 0 := fun h => hz (HC.out.1 h)
          have E2 : Hid (V = q) := Lib.hid (by rw [E.out, if_neg hz])
          go_wp2
          go_ret
          exact ⟨by rw [E2.out]; rfl, by first | exact HB | (repeat (first | with_reducible assumption | with_reducible exact Below.refl _ _ | ((with_reducible refine Below.setCell ?_ ?_ _); rotate_left; (first | exact Nat.le_refl _ | (dsimp only; omega) | (simp; done) | (simp; omega))) | with_reducible refine below_alloc ?_ _ | with_reducible apply below_drewN | with_reducible apply Below.drew | with_reducible refine below_step ?_ (by assumption)))⟩
    · have E : Hid (V = 0) := Lib.hid (by rw [E0, decide_eq_false hA]; rfl)
      have z1 : 0 ≤ zs := Int.not_lt.1 (fun h => hA (c1.1 h))
      have z3 := decide_eq_true z1
      clear E0 hfar hup c1 hzs bd hA
      go_enter Try.func15, Try.ntmps15
      go_wp2_with (fail)
      (go_at_call 19; (with_reducible refine (k1 _ _ (by simp [go_sem]) (by simp [go_sem]) (by simp [go_sem]) (by simp [go_sem]) (by simp [go_sem]) (by simp [go_sem])).mono ?_); rintro e w1 ⟨rfl, hM⟩)
      have B0 : Bk (w.heap.size) 0 [.int .i64 ax, .int .i64 ay] w1 := Bk.later (by simp [Bk, go_sem]; done) hM
      have B1 : Bk (w.heap.size + 1) 0 [.int .i64 bx, .int .i64 bY] w1 := Bk.later (by simp [Bk, go_sem]; done) hM
      have B2 : Bk (w.heap.size + 1 + 1) 0 [.int .i64 px, .int .i64 py] w1 := Bk.later (by simp [Bk, go_sem]; done) hM
      have HB : Below w.heap.size w w1 := by (repeat (first | with_reducible assumption | with_reducible exact Below.refl _ _ | ((with_reducible refine Below.setCell ?_ ?_ _); rotate_left; (first | exact Nat.le_refl _ | (dsimp only; omega) | (simp; done) | (simp; omega))) | with_reducible refine below_alloc ?_ _ | with_reducible apply below_drewN | with_reducible apply Below.drew | with_reducible refine below_step ?_ (by assumption)))
      have C0 := B0; simp only [Bk] at C0
      have C1 := B1; simp only [Bk] at C1
      have C2 := B2; simp only [Bk] at C2
      clear hM k1
      go_wp2_with (first | (go_at_call 21; (with_reducible refine (k2 _).mono ?_); rintro e w1 ⟨rfl, hM⟩) | (go_at_call 20; (with_reducible refine (kS _).mono ?_); rintro e w1 ⟨rfl, hM⟩))
      go_ret
      exact ⟨by rw [E.out]; rfl, by (repeat (first | with_reducible assumption | with_reducible exact Below.refl _ _ | ((with_reducible refine Below.setCell ?_ ?_ _); rotate_left; (first | exact Nat.le_refl _ | (dsimp only; omega) | (simp; done) | (simp; omega))) | with_reducible refine below_alloc ?_ _ | with_reducible apply below_drewN | with_reducible apply Below.drew | with_reducible refine below_step ?_ (by assumption)))⟩
end Go.Proofs.Ytcijddjfadcanaa
