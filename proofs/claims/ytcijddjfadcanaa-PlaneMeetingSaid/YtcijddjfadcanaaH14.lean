/- The contracts of plane.touches, plane.Meets and of chapter 7's answer: on, Meets. -/
import Derived.Test.YtcijddjfadcanaaH12
import Derived.Test.YtcijddjfadcanaaH10
set_option linter.unusedSimpArgs false
set_option linter.unusedVariables false
namespace Go.Proofs.Ytcijddjfadcanaa
open Go.RowKit
set_option maxHeartbeats 4000000 in
theorem cTch (ax ay bx bY px py : Int) (w : World) (ha : pn ax ay = true) (hb : pn bx bY = true) (hp : pn px py = true) :
    Calls Try.prog 43 #[.agg #[.int .i64 ax, .int .i64 ay], .agg #[.int .i64 bx, .int .i64 bY], .agg #[.int .i64 px, .int .i64 py]] w fun e w' => e = .returned (.bool (tch ax ay bx bY px py)) ∧ Below w.heap.size w w' := by
  have k1 := fun W => cArea ax ay bx bY px py W ha hb hp
  have k3 := fun W => cWithin ax ay bx bY px py W ha hb hp
  have bd := ar_bd ax ay bx bY px py ha hb hp
  have k2 := fun W => nWSign (ar ax ay bx bY px py) W (by omega) (by omega)
  have hz := cmp3_nil (ar ax ay bx bY px py)
  by_cases hab : ax = bx ∧ ay = bY
  · have E : Hid (tch ax ay bx bY px py = decide (ax = px ∧ ay = py)) := Lib.hid (by unfold tch; rw [if_pos hab])
    clear k1 k2 k3 hz bd ha hb hp
    generalize tch ax ay bx bY px py = V at *
    obtain ⟨rfl, rfl⟩ := hab
    by_cases h1 : ax = px
    · by_cases h2 : ay = py
      · have EV : Hid (V = true) := Lib.hid (by rw [E.out]; exact decide_eq_true ⟨h1, h2⟩)
        clear E
        subst h1; subst h2
        go_enter Try.func43, Try.ntmps43
        go_wp2
        go_ret
        exact ⟨by rw [EV.out]; rfl, by (repeat (first | with_reducible assumption | with_reducible exact Below.refl _ _ | ((with_reducible refine Below.setCell ?_ ?_ _); rotate_left; (first | exact Nat.le_refl _ | (dsimp only; omega) | (simp; done) | (simp; omega))) | with_reducible refine below_alloc ?_ _ | with_reducible apply below_drewN | with_reducible apply Below.drew | with_reducible refine below_step ?_ (by assumption)))⟩
      · have EV : Hid (V = false) := Lib.hid (by rw [E.out]; exact decide_eq_false (fun h => h2 h.2))
        clear E
        subst h1
        go_enter Try.func43, Try.ntmps43
        go_wp2
        go_ret
        exact ⟨by rw [EV.out]; rfl, by (repeat (first | with_reducible assumption | with_reducible exact Below.refl _ _ | ((with_reducible refine Below.setCell ?_ ?_ _); rotate_left; (first | exact Nat.le_refl _ | (dsimp only; omega) | (simp; done) | (simp; omega))) | with_reducible refine below_alloc ?_ _ | with_reducible apply below_drewN | with_reducible apply Below.drew | with_reducible refine below_step ?_ (by assumption)))⟩
    · have EV : Hid (V = false) := Lib.hid (by rw [E.out]; exact decide_eq_false (fun h => h1 h.1))
      clear E
      go_enter Try.func43, Try.ntmps43
      go_wp2
      go_ret
      exact ⟨by rw [EV.out]; rfl, by (repeat (first | with_reducible assumption | with_reducible exact Below.refl _ _ | ((with_reducible refine Below.setCell ?_ ?_ _); rotate_left; (first | exact Nat.le_refl _ | (dsimp only; omega) | (simp; done) | (simp; omega))) | with_reducible refine below_alloc ?_ _ | with_reducible apply below_drewN | with_reducible apply Below.drew | with_reducible refine below_step ?_ (by assumption)))⟩
  · have E : Hid (tch ax ay bx bY px py = (decide (ar ax ay bx bY px py = 0) && wn ax ay bx bY px py)) := Lib.hid (by unfold tch; rw [if_neg hab])
    generalize tch ax ay bx bY px py = V at *
    generalize wn ax ay bx bY px py = t at *
    generalize ar ax ay bx bY px py = A at *
    obtain ⟨z, hzz⟩ : ∃ z, cmp3 A 0 = z := ⟨_, rfl⟩
    rw [hzz] at hz k2
    have HZ := Lib.hid hz
    clear hz hzz bd ha hb hp
    rcases (show ¬ ax = bx ∨ (ax = bx ∧ ¬ ay = bY) by omega) with h1 | ⟨h0, h1⟩
    · clear hab
      by_cases hA : A = 0
      · have EV : Hid (V = t) := Lib.hid (by rw [E.out, decide_eq_true hA, Bool.true_and])
        have z0 : z = 0 := HZ.out.2 hA
        clear hA
        go_enter Try.func43, Try.ntmps43
        go_wp2_with (fail)
        (go_at_call 21; (with_reducible refine (k1 _).mono ?_); rintro e w1 ⟨rfl, hM⟩)
        have B0 : Bk (w.heap.size) 0 [.int .i64 ax, .int .i64 ay] w1 := Bk.later (by simp [Bk, go_sem]; done) hM
        have B1 : Bk (w.heap.size + 1) 0 [.int .i64 bx, .int .i64 bY] w1 := Bk.later (by simp [Bk, go_sem]; done) hM
        have B2 : Bk (w.heap.size + 1 + 1) 0 [.int .i64 px, .int .i64 py] w1 := Bk.later (by simp [Bk, go_sem]; done) hM
        have HB : Below w.heap.size w w1 := by (repeat (first | with_reducible assumption | with_reducible exact Below.refl _ _ | ((with_reducible refine Below.setCell ?_ ?_ _); rotate_left; (first | exact Nat.le_refl _ | (dsimp only; omega) | (simp; done) | (simp; omega))) | with_reducible refine below_alloc ?_ _ | with_reducible apply below_drewN | with_reducible apply Below.drew | with_reducible refine below_step ?_ (by assumption)))
        clear hM k1
        have C_B0 := B0; simp only [Bk] at C_B0
        have C_B1 := B1; simp only [Bk] at C_B1
        have C_B2 := B2; simp only [Bk] at C_B2
        go_wp2_with (first | (go_at_call 20; (with_reducible refine (k2 _).mono ?_); rintro e9 w1 ⟨rfl, hM⟩; (first | have HB : Below w.heap.size w _ := below_step HB hM | have HB : Below w.heap.size w _ := below_step (W := _) (by (repeat (first | with_reducible assumption | with_reducible exact Below.refl _ _ | ((with_reducible refine Below.setCell ?_ ?_ _); rotate_left; (first | exact Nat.le_refl _ | (dsimp only; omega) | (simp; done) | (simp; omega))) | with_reducible refine below_alloc ?_ _ | with_reducible apply below_drewN | with_reducible apply Below.drew | with_reducible refine below_step ?_ (by assumption)))) hM); (first | have B0 := Bk.later B0 hM | have B0 := Bk.later (Bk.alloc B0 _) hM | have B0 := Bk.later (Bk.alloc (Bk.alloc B0 _) _) hM); have C_B0 := B0; simp only [Bk] at C_B0; (first | have B1 := Bk.later B1 hM | have B1 := Bk.later (Bk.alloc B1 _) hM | have B1 := Bk.later (Bk.alloc (Bk.alloc B1 _) _) hM); have C_B1 := B1; simp only [Bk] at C_B1; (first | have B2 := Bk.later B2 hM | have B2 := Bk.later (Bk.alloc B2 _) hM | have B2 := Bk.later (Bk.alloc (Bk.alloc B2 _) _) hM); have C_B2 := B2; simp only [Bk] at C_B2) | (go_at_call 31; (with_reducible refine (k3 _).mono ?_); rintro e9 w1 ⟨rfl, hM⟩; (first | have HB : Below w.heap.size w _ := below_step HB hM | have HB : Below w.heap.size w _ := below_step (W := _) (by (repeat (first | with_reducible assumption | with_reducible exact Below.refl _ _ | ((with_reducible refine Below.setCell ?_ ?_ _); rotate_left; (first | exact Nat.le_refl _ | (dsimp only; omega) | (simp; done) | (simp; omega))) | with_reducible refine below_alloc ?_ _ | with_reducible apply below_drewN | with_reducible apply Below.drew | with_reducible refine below_step ?_ (by assumption)))) hM); (first | have B0 := Bk.later B0 hM | have B0 := Bk.later (Bk.alloc B0 _) hM | have B0 := Bk.later (Bk.alloc (Bk.alloc B0 _) _) hM); have C_B0 := B0; simp only [Bk] at C_B0; (first | have B1 := Bk.later B1 hM | have B1 := Bk.later (Bk.alloc B1 _) hM | have B1 := Bk.later (Bk.alloc (Bk.alloc B1 _) _) hM); have C_B1 := B1; simp only [Bk] at C_B1; (first | have B2 := Bk.later B2 hM | have B2 := Bk.later (Bk.alloc B2 _) hM | have B2 := Bk.later (Bk.alloc (Bk.alloc B2 _) _) hM); have C_B2 := B2; simp only [Bk] at C_B2))
        go_ret
        exact ⟨by rw [EV.out] <;> rfl, by first | exact HB | (repeat (first | with_reducible assumption | with_reducible exact Below.refl _ _ | ((with_reducible refine Below.setCell ?_ ?_ _); rotate_left; (first | exact Nat.le_refl _ | (dsimp only; omega) | (simp; done) | (simp; omega))) | with_reducible refine below_alloc ?_ _ | with_reducible apply below_drewN | with_reducible apply Below.drew | with_reducible refine below_step ?_ (by assumption)))⟩
      · have EV : Hid (V = false) := Lib.hid (by rw [E.out, decide_eq_false hA, Bool.false_and])
        have z0 : ¬ z = 0 := fun h => hA (HZ.out.1 h)
        clear hA
        go_enter Try.func43, Try.ntmps43
        go_wp2_with (fail)
        (go_at_call 21; (with_reducible refine (k1 _).mono ?_); rintro e w1 ⟨rfl, hM⟩)
        have HB : Below w.heap.size w w1 := by (repeat (first | with_reducible assumption | with_reducible exact Below.refl _ _ | ((with_reducible refine Below.setCell ?_ ?_ _); rotate_left; (first | exact Nat.le_refl _ | (dsimp only; omega) | (simp; done) | (simp; omega))) | with_reducible refine below_alloc ?_ _ | with_reducible apply below_drewN | with_reducible apply Below.drew | with_reducible refine below_step ?_ (by assumption)))
        clear hM k1
        go_wp2_with ((go_at_call 20; (with_reducible refine (k2 _).mono ?_); rintro e9 w1 ⟨rfl, hM⟩; (first | have HB : Below w.heap.size w _ := below_step HB hM | have HB : Below w.heap.size w _ := below_step (W := _) (by (repeat (first | with_reducible assumption | with_reducible exact Below.refl _ _ | ((with_reducible refine Below.setCell ?_ ?_ _); rotate_left; (first | exact Nat.le_refl _ | (dsimp only; omega) | (simp; done) | (simp; omega))) | with_reducible refine below_alloc ?_ _ | with_reducible apply below_drewN | with_reducible apply Below.drew | with_reducible refine below_step ?_ (by assumption)))) hM)))
        go_ret
        exact ⟨by rw [EV.out] <;> rfl, by first | exact HB | (repeat (first | with_reducible assumption | with_reducible exact Below.refl _ _ | ((with_reducible refine Below.setCell ?_ ?_ _); rotate_left; (first | exact Nat.le_refl _ | (dsimp only; omega) | (simp; done) | (simp; omega))) | with_reducible refine below_alloc ?_ _ | with_reducible apply below_drewN | with_reducible apply Below.drew | with_reducible refine below_step ?_ (by assumption)))⟩
    · have h0' := h0.symm; subst h0'; clear hab
      by_cases hA : A = 0
      · have EV : Hid (V = t) := Lib.hid (by rw [E.out, decide_eq_true hA, Bool.true_and])
        have z0 : z = 0 := HZ.out.2 hA
        clear hA
        go_enter Try.func43, Try.ntmps43
        go_wp2_with (fail)
        (go_at_call 21; (with_reducible refine (k1 _).mono ?_); rintro e w1 ⟨rfl, hM⟩)
        have B0 : Bk (w.heap.size) 0 [.int .i64 bx, .int .i64 ay] w1 := Bk.later (by simp [Bk, go_sem]; done) hM
        have B1 : Bk (w.heap.size + 1) 0 [.int .i64 bx, .int .i64 bY] w1 := Bk.later (by simp [Bk, go_sem]; done) hM
        have B2 : Bk (w.heap.size + 1 + 1) 0 [.int .i64 px, .int .i64 py] w1 := Bk.later (by simp [Bk, go_sem]; done) hM
        have HB : Below w.heap.size w w1 := by (repeat (first | with_reducible assumption | with_reducible exact Below.refl _ _ | ((with_reducible refine Below.setCell ?_ ?_ _); rotate_left; (first | exact Nat.le_refl _ | (dsimp only; omega) | (simp; done) | (simp; omega))) | with_reducible refine below_alloc ?_ _ | with_reducible apply below_drewN | with_reducible apply Below.drew | with_reducible refine below_step ?_ (by assumption)))
        clear hM k1
        have C_B0 := B0; simp only [Bk] at C_B0
        have C_B1 := B1; simp only [Bk] at C_B1
        have C_B2 := B2; simp only [Bk] at C_B2
        go_wp2_with (first | (go_at_call 20; (with_reducible refine (k2 _).mono ?_); rintro e9 w1 ⟨rfl, hM⟩; (first | have HB : Below w.heap.size w _ := below_step HB hM | have HB : Below w.heap.size w _ := below_step (W := _) (by (repeat (first | with_reducible assumption | with_reducible exact Below.refl _ _ | ((with_reducible refine Below.setCell ?_ ?_ _); rotate_left; (first | exact Nat.le_refl _ | (dsimp only; omega) | (simp; done) | (simp; omega))) | with_reducible refine below_alloc ?_ _ | with_reducible apply below_drewN | with_reducible apply Below.drew | with_reducible refine below_step ?_ (by assumption)))) hM); (first | have B0 := Bk.later B0 hM | have B0 := Bk.later (Bk.alloc B0 _) hM | have B0 := Bk.later (Bk.alloc (Bk.alloc B0 _) _) hM); have C_B0 := B0; simp only [Bk] at C_B0; (first | have B1 := Bk.later B1 hM | have B1 := Bk.later (Bk.alloc B1 _) hM | have B1 := Bk.later (Bk.alloc (Bk.alloc B1 _) _) hM); have C_B1 := B1; simp only [Bk] at C_B1; (first | have B2 := Bk.later B2 hM | have B2 := Bk.later (Bk.alloc B2 _) hM | have B2 := Bk.later (Bk.alloc (Bk.alloc B2 _) _) hM); have C_B2 := B2; simp only [Bk] at C_B2) | (go_at_call 31; (with_reducible refine (k3 _).mono ?_); rintro e9 w1 ⟨rfl, hM⟩; (first | have HB : Below w.heap.size w _ := below_step HB hM | have HB : Below w.heap.size w _ := below_step (W := _) (by (repeat (first | with_reducible assumption | with_reducible exact Below.refl _ _ | ((with_reducible refine Below.setCell ?_ ?_ _); rotate_left; (first | exact Nat.le_refl _ | (dsimp only; omega) | (simp; done) | (simp; omega))) | with_reducible refine below_alloc ?_ _ | with_reducible apply below_drewN | with_reducible apply Below.drew | with_reducible refine below_step ?_ (by assumption)))) hM); (first | have B0 := Bk.later B0 hM | have B0 := Bk.later (Bk.alloc B0 _) hM | have B0 := Bk.later (Bk.alloc (Bk.alloc B0 _) _) hM); have C_B0 := B0; simp only [Bk] at C_B0; (first | have B1 := Bk.later B1 hM | have B1 := Bk.later (Bk.alloc B1 _) hM | have B1 := Bk.later (Bk.alloc (Bk.alloc B1 _) _) hM); have C_B1 := B1; simp only [Bk] at C_B1; (first | have B2 := Bk.later B2 hM | have B2 := Bk.later (Bk.alloc B2 _) hM | have B2 := Bk.later (Bk.alloc (Bk.alloc B2 _) _) hM); have C_B2 := B2; simp only [Bk] at C_B2))
        go_ret
        exact ⟨by rw [EV.out] <;> rfl, by first | exact HB | (repeat (first | with_reducible assumption | with_reducible exact Below.refl _ _ | ((with_reducible refine Below.setCell ?_ ?_ _); rotate_left; (first | exact Nat.le_refl _ | (dsimp only; omega) | (simp; done) | (simp; omega))) | with_reducible refine below_alloc ?_ _ | with_reducible apply below_drewN | with_reducible apply Below.drew | with_reducible refine below_step ?_ (by assumption)))⟩
      · have EV : Hid (V = false) := Lib.hid (by rw [E.out, decide_eq_false hA, Bool.false_and])
        have z0 : ¬ z = 0 := fun h => hA (HZ.out.1 h)
        clear hA
        go_enter Try.func43, Try.ntmps43
        go_wp2_with (fail)
        (go_at_call 21; (with_reducible refine (k1 _).mono ?_); rintro e w1 ⟨rfl, hM⟩)
        have HB : Below w.heap.size w w1 := by (repeat (first | with_reducible assumption | with_reducible exact Below.refl _ _ | ((with_reducible refine Below.setCell ?_ ?_ _); rotate_left; (first | exact Nat.le_refl _ | (dsimp only; omega) | (simp; done) | (simp; omega))) | with_reducible refine below_alloc ?_ _ | with_reducible apply below_drewN | with_reducible apply Below.drew | with_reducible refine below_step ?_ (by assumption)))
        clear hM k1
        go_wp2_with ((go_at_call 20; (with_reducible refine (k2 _).mono ?_); rintro e9 w1 ⟨rfl, hM⟩; (first | have HB : Below w.heap.size w _ := below_step HB hM | have HB : Below w.heap.size w _ := below_step (W := _) (by (repeat (first | with_reducible assumption | with_reducible exact Below.refl _ _ | ((with_reducible refine Below.setCell ?_ ?_ _); rotate_left; (first | exact Nat.le_refl _ | (dsimp only; omega) | (simp; done) | (simp; omega))) | with_reducible refine below_alloc ?_ _ | with_reducible apply below_drewN | with_reducible apply Below.drew | with_reducible refine below_step ?_ (by assumption)))) hM)))
        go_ret
        exact ⟨by rw [EV.out] <;> rfl, by first | exact HB | (repeat (first | with_reducible assumption | with_reducible exact Below.refl _ _ | ((with_reducible refine Below.setCell ?_ ?_ _); rotate_left; (first | exact Nat.le_refl _ | (dsimp only; omega) | (simp; done) | (simp; omega))) | with_reducible refine below_alloc ?_ _ | with_reducible apply below_drewN | with_reducible apply Below.drew | with_reducible refine below_step ?_ (by assumption)))⟩
set_option maxHeartbeats 16000000 in
theorem cMeets (ax ay bx bY px py qx qy : Int) (w : World) :
    Calls Try.prog 17 #[.agg #[.int .i64 ax, .int .i64 ay], .agg #[.int .i64 bx, .int .i64 bY], .agg #[.int .i64 px, .int .i64 py], .agg #[.int .i64 qx, .int .i64 qy]] w fun e w' => e = .returned (.bool (mt ax ay bx bY px py qx qy)) ∧ Below w.heap.size w w' := by
  have k1 := fun q W => cNear4 q ax ay bx bY px py qx qy W
  cases hn : (pn ax ay && pn bx bY && pn px py && pn qx qy) with
  | false =>
    have E : Hid (mt ax ay bx bY px py qx qy = false) := Lib.hid (by unfold mt; rw [hn]; rfl)
    rw [hn] at k1
    clear hn
    go_enter Try.func17, Try.ntmps17
    go_wp2_with (fail)
    (go_at_call 19; (with_reducible refine (k1 _ _ (by simp [go_sem]) (by simp [go_sem]) (by simp [go_sem]) (by simp [go_sem]) (by simp [go_sem]) (by simp [go_sem]) (by simp [go_sem]) (by simp [go_sem])).mono ?_); rintro e w1 ⟨rfl, hM⟩)
    go_wp2
    go_ret
    exact ⟨by rw [E.out]; rfl, by (repeat (first | with_reducible assumption | with_reducible exact Below.refl _ _ | ((with_reducible refine Below.setCell ?_ ?_ _); rotate_left; (first | exact Nat.le_refl _ | (dsimp only; omega) | (simp; done) | (simp; omega))) | with_reducible refine below_alloc ?_ _ | with_reducible apply below_drewN | with_reducible apply Below.drew | with_reducible refine below_step ?_ (by assumption)))⟩
  | true =>
    have E : mt ax ay bx bY px py qx qy = ((tch ax ay bx bY px py || tch ax ay bx bY qx qy || tch px py qx qy ax ay || tch px py qx qy bx bY) ||
      (decide (sd ax ay bx bY px py * sd ax ay bx bY qx qy < 0) && decide (sd px py qx qy ax ay * sd px py qx qy bx bY < 0))) := by unfold mt; rw [hn, Bool.true_and]
    rw [hn] at k1
    simp only [Bool.and_eq_true] at hn
    obtain ⟨⟨⟨ha, hb⟩, hp⟩, hq⟩ := hn
    have t1 := fun W => cTch ax ay bx bY px py W ha hb hp
    have t2 := fun W => cTch ax ay bx bY qx qy W ha hb hq
    have t3 := fun W => cTch px py qx qy ax ay W hp hq ha
    have t4 := fun W => cTch px py qx qy bx bY W hp hq hb
    have s1 := fun W => cSide ax ay bx bY px py W
    have s2 := fun W => cSide ax ay bx bY qx qy W
    have s3 := fun W => cSide px py qx qy ax ay W
    have s4 := fun W => cSide px py qx qy bx bY W
    have b1 := sd_pr ax ay bx bY px py ax ay bx bY qx qy
    have b2 := sd_pr px py qx qy ax ay px py qx qy bx bY
    clear ha hb hp hq
    generalize mt ax ay bx bY px py qx qy = V at *
    generalize tch ax ay bx bY px py = u1 at *
    generalize tch ax ay bx bY qx qy = u2 at *
    generalize tch px py qx qy ax ay = u3 at *
    generalize tch px py qx qy bx bY = u4 at *
    generalize sd ax ay bx bY px py = v1 at *
    generalize sd ax ay bx bY qx qy = v2 at *
    generalize sd px py qx qy ax ay = v3 at *
    generalize sd px py qx qy bx bY = v4 at *
    have HE := Lib.hid E
    have HW := Lib.hid (And.intro (wr64 (v1 * v2) (by omega) (by omega)) (wr64 (v3 * v4) (by omega) (by omega)))
    clear E b1 b2
    go_enter Try.func17, Try.ntmps17
    go_wp2_with (fail)
    (go_at_call 19; (with_reducible refine (k1 _ _ (by simp [go_sem]) (by simp [go_sem]) (by simp [go_sem]) (by simp [go_sem]) (by simp [go_sem]) (by simp [go_sem]) (by simp [go_sem]) (by simp [go_sem])).mono ?_); rintro e1 w1 ⟨rfl, hM⟩)
    have B0 : Bk (w.heap.size) 0 [.int .i64 ax, .int .i64 ay] w1 := Bk.later (by simp [Bk, go_sem]; done) hM
    have B1 : Bk (w.heap.size + 1) 0 [.int .i64 bx, .int .i64 bY] w1 := Bk.later (by simp [Bk, go_sem]; done) hM
    have B2 : Bk (w.heap.size + 1 + 1) 0 [.int .i64 px, .int .i64 py] w1 := Bk.later (by simp [Bk, go_sem]; done) hM
    have B3 : Bk (w.heap.size + 1 + 1 + 1) 0 [.int .i64 qx, .int .i64 qy] w1 := Bk.later (by simp [Bk, go_sem]; done) hM
    have HB : Below w.heap.size w w1 := by (repeat (first | with_reducible assumption | with_reducible exact Below.refl _ _ | ((with_reducible refine Below.setCell ?_ ?_ _); rotate_left; (first | exact Nat.le_refl _ | (dsimp only; omega) | (simp; done) | (simp; omega))) | with_reducible refine below_alloc ?_ _ | with_reducible apply below_drewN | with_reducible apply Below.drew | with_reducible refine below_step ?_ (by assumption)))
    clear hM k1
    have C_B0 := B0; simp only [Bk] at C_B0
    have C_B1 := B1; simp only [Bk] at C_B1
    have C_B2 := B2; simp only [Bk] at C_B2
    have C_B3 := B3; simp only [Bk] at C_B3
    cases u1 with
    | true =>
      have EV : Hid (V = true) := Lib.hid (by rw [HE.out]; simp)
      go_wp2_with (first | (go_at_call 43; (with_reducible refine (t1 _).mono ?_); rintro e9 w1 ⟨rfl, hM⟩; (first | have HB : Below w.heap.size w _ := below_step HB hM | have HB : Below w.heap.size w _ := below_step (W := _) (by (repeat (first | with_reducible assumption | with_reducible exact Below.refl _ _ | ((with_reducible refine Below.setCell ?_ ?_ _); rotate_left; (first | exact Nat.le_refl _ | (dsimp only; omega) | (simp; done) | (simp; omega))) | with_reducible refine below_alloc ?_ _ | with_reducible apply below_drewN | with_reducible apply Below.drew | with_reducible refine below_step ?_ (by assumption)))) hM); (first | have B0 := Bk.later B0 hM | have B0 := Bk.later (Bk.alloc B0 _) hM | have B0 := Bk.later (Bk.alloc (Bk.alloc B0 _) _) hM); have C_B0 := B0; simp only [Bk] at C_B0; (first | have B1 := Bk.later B1 hM | have B1 := Bk.later (Bk.alloc B1 _) hM | have B1 := Bk.later (Bk.alloc (Bk.alloc B1 _) _) hM); have C_B1 := B1; simp only [Bk] at C_B1; (first | have B2 := Bk.later B2 hM | have B2 := Bk.later (Bk.alloc B2 _) hM | have B2 := Bk.later (Bk.alloc (Bk.alloc B2 _) _) hM); have C_B2 := B2; simp only [Bk] at C_B2; (first | have B3 := Bk.later B3 hM | have B3 := Bk.later (Bk.alloc B3 _) hM | have B3 := Bk.later (Bk.alloc (Bk.alloc B3 _) _) hM); have C_B3 := B3; simp only [Bk] at C_B3))
      go_ret
      exact ⟨by rw [EV.out] <;> rfl, by first | exact HB | (repeat (first | with_reducible assumption | with_reducible exact Below.refl _ _ | ((with_reducible refine Below.setCell ?_ ?_ _); rotate_left; (first | exact Nat.le_refl _ | (dsimp only; omega) | (simp; done) | (simp; omega))) | with_reducible refine below_alloc ?_ _ | with_reducible apply below_drewN | with_reducible apply Below.drew | with_reducible refine below_step ?_ (by assumption)))⟩
    | false =>
    cases u2 with
    | true =>
      have EV : Hid (V = true) := Lib.hid (by rw [HE.out]; simp)
      go_wp2_with (first | (go_at_call 43; (with_reducible refine (t1 _).mono ?_); rintro e9 w1 ⟨rfl, hM⟩; (first | have HB : Below w.heap.size w _ := below_step HB hM | have HB : Below w.heap.size w _ := below_step (W := _) (by (repeat (first | with_reducible assumption | with_reducible exact Below.refl _ _ | ((with_reducible refine Below.setCell ?_ ?_ _); rotate_left; (first | exact Nat.le_refl _ | (dsimp only; omega) | (simp; done) | (simp; omega))) | with_reducible refine below_alloc ?_ _ | with_reducible apply below_drewN | with_reducible apply Below.drew | with_reducible refine below_step ?_ (by assumption)))) hM); (first | have B0 := Bk.later B0 hM | have B0 := Bk.later (Bk.alloc B0 _) hM | have B0 := Bk.later (Bk.alloc (Bk.alloc B0 _) _) hM); have C_B0 := B0; simp only [Bk] at C_B0; (first | have B1 := Bk.later B1 hM | have B1 := Bk.later (Bk.alloc B1 _) hM | have B1 := Bk.later (Bk.alloc (Bk.alloc B1 _) _) hM); have C_B1 := B1; simp only [Bk] at C_B1; (first | have B2 := Bk.later B2 hM | have B2 := Bk.later (Bk.alloc B2 _) hM | have B2 := Bk.later (Bk.alloc (Bk.alloc B2 _) _) hM); have C_B2 := B2; simp only [Bk] at C_B2; (first | have B3 := Bk.later B3 hM | have B3 := Bk.later (Bk.alloc B3 _) hM | have B3 := Bk.later (Bk.alloc (Bk.alloc B3 _) _) hM); have C_B3 := B3; simp only [Bk] at C_B3) | (go_at_call 43; (with_reducible refine (t2 _).mono ?_); rintro e9 w1 ⟨rfl, hM⟩; (first | have HB : Below w.heap.size w _ := below_step HB hM | have HB : Below w.heap.size w _ := below_step (W := _) (by (repeat (first | with_reducible assumption | with_reducible exact Below.refl _ _ | ((with_reducible refine Below.setCell ?_ ?_ _); rotate_left; (first | exact Nat.le_refl _ | (dsimp only; omega) | (simp; done) | (simp; omega))) | with_reducible refine below_alloc ?_ _ | with_reducible apply below_drewN | with_reducible apply Below.drew | with_reducible refine below_step ?_ (by assumption)))) hM); (first | have B0 := Bk.later B0 hM | have B0 := Bk.later (Bk.alloc B0 _) hM | have B0 := Bk.later (Bk.alloc (Bk.alloc B0 _) _) hM); have C_B0 := B0; simp only [Bk] at C_B0; (first | have B1 := Bk.later B1 hM | have B1 := Bk.later (Bk.alloc B1 _) hM | have B1 := Bk.later (Bk.alloc (Bk.alloc B1 _) _) hM); have C_B1 := B1; simp only [Bk] at C_B1; (first | have B2 := Bk.later B2 hM | have B2 := Bk.later (Bk.alloc B2 _) hM | have B2 := Bk.later (Bk.alloc (Bk.alloc B2 _) _) hM); have C_B2 := B2; simp only [Bk] at C_B2; (first | have B3 := Bk.later B3 hM | have B3 := Bk.later (Bk.alloc B3 _) hM | have B3 := Bk.later (Bk.alloc (Bk.alloc B3 _) _) hM); have C_B3 := B3; simp only [Bk] at C_B3))
      go_ret
      exact ⟨by rw [EV.out] <;> rfl, by first | exact HB | (repeat (first | with_reducible assumption | with_reducible exact Below.refl _ _ | ((with_reducible refine Below.setCell ?_ ?_ _); rotate_left; (first | exact Nat.le_refl _ | (dsimp only; omega) | (simp; done) | (simp; omega))) | with_reducible refine below_alloc ?_ _ | with_reducible apply below_drewN | with_reducible apply Below.drew | with_reducible refine below_step ?_ (by assumption)))⟩
    | false =>
    cases u3 with
    | true =>
      have EV : Hid (V = true) := Lib.hid (by rw [HE.out]; simp)
      go_wp2_with (first | (go_at_call 43; (with_reducible refine (t1 _).mono ?_); rintro e9 w1 ⟨rfl, hM⟩; (first | have HB : Below w.heap.size w _ := below_step HB hM | have HB : Below w.heap.size w _ := below_step (W := _) (by (repeat (first | with_reducible assumption | with_reducible exact Below.refl _ _ | ((with_reducible refine Below.setCell ?_ ?_ _); rotate_left; (first | exact Nat.le_refl _ | (dsimp only; omega) | (simp; done) | (simp; omega))) | with_reducible refine below_alloc ?_ _ | with_reducible apply below_drewN | with_reducible apply Below.drew | with_reducible refine below_step ?_ (by assumption)))) hM); (first | have B0 := Bk.later B0 hM | have B0 := Bk.later (Bk.alloc B0 _) hM | have B0 := Bk.later (Bk.alloc (Bk.alloc B0 _) _) hM); have C_B0 := B0; simp only [Bk] at C_B0; (first | have B1 := Bk.later B1 hM | have B1 := Bk.later (Bk.alloc B1 _) hM | have B1 := Bk.later (Bk.alloc (Bk.alloc B1 _) _) hM); have C_B1 := B1; simp only [Bk] at C_B1; (first | have B2 := Bk.later B2 hM | have B2 := Bk.later (Bk.alloc B2 _) hM | have B2 := Bk.later (Bk.alloc (Bk.alloc B2 _) _) hM); have C_B2 := B2; simp only [Bk] at C_B2; (first | have B3 := Bk.later B3 hM | have B3 := Bk.later (Bk.alloc B3 _) hM | have B3 := Bk.later (Bk.alloc (Bk.alloc B3 _) _) hM); have C_B3 := B3; simp only [Bk] at C_B3) | (go_at_call 43; (with_reducible refine (t2 _).mono ?_); rintro e9 w1 ⟨rfl, hM⟩; (first | have HB : Below w.heap.size w _ := below_step HB hM | have HB : Below w.heap.size w _ := below_step (W := _) (by (repeat (first | with_reducible assumption | with_reducible exact Below.refl _ _ | ((with_reducible refine Below.setCell ?_ ?_ _); rotate_left; (first | exact Nat.le_refl _ | (dsimp only; omega) | (simp; done) | (simp; omega))) | with_reducible refine below_alloc ?_ _ | with_reducible apply below_drewN | with_reducible apply Below.drew | with_reducible refine below_step ?_ (by assumption)))) hM); (first | have B0 := Bk.later B0 hM | have B0 := Bk.later (Bk.alloc B0 _) hM | have B0 := Bk.later (Bk.alloc (Bk.alloc B0 _) _) hM); have C_B0 := B0; simp only [Bk] at C_B0; (first | have B1 := Bk.later B1 hM | have B1 := Bk.later (Bk.alloc B1 _) hM | have B1 := Bk.later (Bk.alloc (Bk.alloc B1 _) _) hM); have C_B1 := B1; simp only [Bk] at C_B1; (first | have B2 := Bk.later B2 hM | have B2 := Bk.later (Bk.alloc B2 _) hM | have B2 := Bk.later (Bk.alloc (Bk.alloc B2 _) _) hM); have C_B2 := B2; simp only [Bk] at C_B2; (first | have B3 := Bk.later B3 hM | have B3 := Bk.later (Bk.alloc B3 _) hM | have B3 := Bk.later (Bk.alloc (Bk.alloc B3 _) _) hM); have C_B3 := B3; simp only [Bk] at C_B3) | (go_at_call 43; (with_reducible refine (t3 _).mono ?_); rintro e9 w1 ⟨rfl, hM⟩; (first | have HB : Below w.heap.size w _ := below_step HB hM | have HB : Below w.heap.size w _ := below_step (W := _) (by (repeat (first | with_reducible assumption | with_reducible exact Below.refl _ _ | ((with_reducible refine Below.setCell ?_ ?_ _); rotate_left; (first | exact Nat.le_refl _ | (dsimp only; omega) | (simp; done) | (simp; omega))) | with_reducible refine below_alloc ?_ _ | with_reducible apply below_drewN | with_reducible apply Below.drew | with_reducible refine below_step ?_ (by assumption)))) hM); (first | have B0 := Bk.later B0 hM | have B0 := Bk.later (Bk.alloc B0 _) hM | have B0 := Bk.later (Bk.alloc (Bk.alloc B0 _) _) hM); have C_B0 := B0; simp only [Bk] at C_B0; (first | have B1 := Bk.later B1 hM | have B1 := Bk.later (Bk.alloc B1 _) hM | have B1 := Bk.later (Bk.alloc (Bk.alloc B1 _) _) hM); have C_B1 := B1; simp only [Bk] at C_B1; (first | have B2 := Bk.later B2 hM | have B2 := Bk.later (Bk.alloc B2 _) hM | have B2 := Bk.later (Bk.alloc (Bk.alloc B2 _) _) hM); have C_B2 := B2; simp only [Bk] at C_B2; (first | have B3 := Bk.later B3 hM | have B3 := Bk.later (Bk.alloc B3 _) hM | have B3 := Bk.later (Bk.alloc (Bk.alloc B3 _) _) hM); have C_B3 := B3; simp only [Bk] at C_B3))
      go_ret
      exact ⟨by rw [EV.out] <;> rfl, by first | exact HB | (repeat (first | with_reducible assumption | with_reducible exact Below.refl _ _ | ((with_reducible refine Below.setCell ?_ ?_ _); rotate_left; (first | exact Nat.le_refl _ | (dsimp only; omega) | (simp; done) | (simp; omega))) | with_reducible refine below_alloc ?_ _ | with_reducible apply below_drewN | with_reducible apply Below.drew | with_reducible refine below_step ?_ (by assumption)))⟩
    | false =>
    cases u4 with
    | true =>
      have EV : Hid (V = true) := Lib.hid (by rw [HE.out]; simp)
      go_wp2_with (first | (go_at_call 43; (with_reducible refine (t1 _).mono ?_); rintro e9 w1 ⟨rfl, hM⟩; (first | have HB : Below w.heap.size w _ := below_step HB hM | have HB : Below w.heap.size w _ := below_step (W := _) (by (repeat (first | with_reducible assumption | with_reducible exact Below.refl _ _ | ((with_reducible refine Below.setCell ?_ ?_ _); rotate_left; (first | exact Nat.le_refl _ | (dsimp only; omega) | (simp; done) | (simp; omega))) | with_reducible refine below_alloc ?_ _ | with_reducible apply below_drewN | with_reducible apply Below.drew | with_reducible refine below_step ?_ (by assumption)))) hM); (first | have B0 := Bk.later B0 hM | have B0 := Bk.later (Bk.alloc B0 _) hM | have B0 := Bk.later (Bk.alloc (Bk.alloc B0 _) _) hM); have C_B0 := B0; simp only [Bk] at C_B0; (first | have B1 := Bk.later B1 hM | have B1 := Bk.later (Bk.alloc B1 _) hM | have B1 := Bk.later (Bk.alloc (Bk.alloc B1 _) _) hM); have C_B1 := B1; simp only [Bk] at C_B1; (first | have B2 := Bk.later B2 hM | have B2 := Bk.later (Bk.alloc B2 _) hM | have B2 := Bk.later (Bk.alloc (Bk.alloc B2 _) _) hM); have C_B2 := B2; simp only [Bk] at C_B2; (first | have B3 := Bk.later B3 hM | have B3 := Bk.later (Bk.alloc B3 _) hM | have B3 := Bk.later (Bk.alloc (Bk.alloc B3 _) _) hM); have C_B3 := B3; simp only [Bk] at C_B3) | (go_at_call 43; (with_reducible refine (t2 _).mono ?_); rintro e9 w1 ⟨rfl, hM⟩; (first | have HB : Below w.heap.size w _ := below_step HB hM | have HB : Below w.heap.size w _ := below_step (W := _) (by (repeat (first | with_reducible assumption | with_reducible exact Below.refl _ _ | ((with_reducible refine Below.setCell ?_ ?_ _); rotate_left; (first | exact Nat.le_refl _ | (dsimp only; omega) | (simp; done) | (simp; omega))) | with_reducible refine below_alloc ?_ _ | with_reducible apply below_drewN | with_reducible apply Below.drew | with_reducible refine below_step ?_ (by assumption)))) hM); (first | have B0 := Bk.later B0 hM | have B0 := Bk.later (Bk.alloc B0 _) hM | have B0 := Bk.later (Bk.alloc (Bk.alloc B0 _) _) hM); have C_B0 := B0; simp only [Bk] at C_B0; (first | have B1 := Bk.later B1 hM | have B1 := Bk.later (Bk.alloc B1 _) hM | have B1 := Bk.later (Bk.alloc (Bk.alloc B1 _) _) hM); have C_B1 := B1; simp only [Bk] at C_B1; (first | have B2 := Bk.later B2 hM | have B2 := Bk.later (Bk.alloc B2 _) hM | have B2 := Bk.later (Bk.alloc (Bk.alloc B2 _) _) hM); have C_B2 := B2; simp only [Bk] at C_B2; (first | have B3 := Bk.later B3 hM | have B3 := Bk.later (Bk.alloc B3 _) hM | have B3 := Bk.later (Bk.alloc (Bk.alloc B3 _) _) hM); have C_B3 := B3; simp only [Bk] at C_B3) | (go_at_call 43; (with_reducible refine (t3 _).mono ?_); rintro e9 w1 ⟨rfl, hM⟩; (first | have HB : Below w.heap.size w _ := below_step HB hM | have HB : Below w.heap.size w _ := below_step (W := _) (by (repeat (first | with_reducible assumption | with_reducible exact Below.refl _ _ | ((with_reducible refine Below.setCell ?_ ?_ _); rotate_left; (first | exact Nat.le_refl _ | (dsimp only; omega) | (simp; done) | (simp; omega))) | with_reducible refine below_alloc ?_ _ | with_reducible apply below_drewN | with_reducible apply Below.drew | with_reducible refine below_step ?_ (by assumption)))) hM); (first | have B0 := Bk.later B0 hM | have B0 := Bk.later (Bk.alloc B0 _) hM | have B0 := Bk.later (Bk.alloc (Bk.alloc B0 _) _) hM); have C_B0 := B0; simp only [Bk] at C_B0; (first | have B1 := Bk.later B1 hM | have B1 := Bk.later (Bk.alloc B1 _) hM | have B1 := Bk.later (Bk.alloc (Bk.alloc B1 _) _) hM); have C_B1 := B1; simp only [Bk] at C_B1; (first | have B2 := Bk.later B2 hM | have B2 := Bk.later (Bk.alloc B2 _) hM | have B2 := Bk.later (Bk.alloc (Bk.alloc B2 _) _) hM); have C_B2 := B2; simp only [Bk] at C_B2; (first | have B3 := Bk.later B3 hM | have B3 := Bk.later (Bk.alloc B3 _) hM | have B3 := Bk.later (Bk.alloc (Bk.alloc B3 _) _) hM); have C_B3 := B3; simp only [Bk] at C_B3) | (go_at_call 43; (with_reducible refine (t4 _).mono ?_); rintro e9 w1 ⟨rfl, hM⟩; (first | have HB : Below w.heap.size w _ := below_step HB hM | have HB : Below w.heap.size w _ := below_step (W := _) (by (repeat (first | with_reducible assumption | with_reducible exact Below.refl _ _ | ((with_reducible refine Below.setCell ?_ ?_ _); rotate_left; (first | exact Nat.le_refl _ | (dsimp only; omega) | (simp; done) | (simp; omega))) | with_reducible refine below_alloc ?_ _ | with_reducible apply below_drewN | with_reducible apply Below.drew | with_reducible refine below_step ?_ (by assumption)))) hM); (first | have B0 := Bk.later B0 hM | have B0 := Bk.later (Bk.alloc B0 _) hM | have B0 := Bk.later (Bk.alloc (Bk.alloc B0 _) _) hM); have C_B0 := B0; simp only [Bk] at C_B0; (first | have B1 := Bk.later B1 hM | have B1 := Bk.later (Bk.alloc B1 _) hM | have B1 := Bk.later (Bk.alloc (Bk.alloc B1 _) _) hM); have C_B1 := B1; simp only [Bk] at C_B1; (first | have B2 := Bk.later B2 hM | have B2 := Bk.later (Bk.alloc B2 _) hM | have B2 := Bk.later (Bk.alloc (Bk.alloc B2 _) _) hM); have C_B2 := B2; simp only [Bk] at C_B2; (first | have B3 := Bk.later B3 hM | have B3 := Bk.later (Bk.alloc B3 _) hM | have B3 := Bk.later (Bk.alloc (Bk.alloc B3 _) _) hM); have C_B3 := B3; simp only [Bk] at C_B3))
      go_ret
      exact ⟨by rw [EV.out] <;> rfl, by first | exact HB | (repeat (first | with_reducible assumption | with_reducible exact Below.refl _ _ | ((with_reducible refine Below.setCell ?_ ?_ _); rotate_left; (first | exact Nat.le_refl _ | (dsimp only; omega) | (simp; done) | (simp; omega))) | with_reducible refine below_alloc ?_ _ | with_reducible apply below_drewN | with_reducible apply Below.drew | with_reducible refine below_step ?_ (by assumption)))⟩
    | false =>
      go_upto_region 5 with (first | (go_at_call 43; (with_reducible refine (t1 _).mono ?_); rintro e9 w1 ⟨rfl, hM⟩; (first | have HB : Below w.heap.size w _ := below_step HB hM | have HB : Below w.heap.size w _ := below_step (W := _) (by (repeat (first | with_reducible assumption | with_reducible exact Below.refl _ _ | ((with_reducible refine Below.setCell ?_ ?_ _); rotate_left; (first | exact Nat.le_refl _ | (dsimp only; omega) | (simp; done) | (simp; omega))) | with_reducible refine below_alloc ?_ _ | with_reducible apply below_drewN | with_reducible apply Below.drew | with_reducible refine below_step ?_ (by assumption)))) hM); (first | have B0 := Bk.later B0 hM | have B0 := Bk.later (Bk.alloc B0 _) hM | have B0 := Bk.later (Bk.alloc (Bk.alloc B0 _) _) hM); have C_B0 := B0; simp only [Bk] at C_B0; (first | have B1 := Bk.later B1 hM | have B1 := Bk.later (Bk.alloc B1 _) hM | have B1 := Bk.later (Bk.alloc (Bk.alloc B1 _) _) hM); have C_B1 := B1; simp only [Bk] at C_B1; (first | have B2 := Bk.later B2 hM | have B2 := Bk.later (Bk.alloc B2 _) hM | have B2 := Bk.later (Bk.alloc (Bk.alloc B2 _) _) hM); have C_B2 := B2; simp only [Bk] at C_B2; (first | have B3 := Bk.later B3 hM | have B3 := Bk.later (Bk.alloc B3 _) hM | have B3 := Bk.later (Bk.alloc (Bk.alloc B3 _) _) hM); have C_B3 := B3; simp only [Bk] at C_B3) | (go_at_call 43; (with_reducible refine (t2 _).mono ?_); rintro e9 w1 ⟨rfl, hM⟩; (first | have HB : Below w.heap.size w _ := below_step HB hM | have HB : Below w.heap.size w _ := below_step (W := _) (by (repeat (first | with_reducible assumption | with_reducible exact Below.refl _ _ | ((with_reducible refine Below.setCell ?_ ?_ _); rotate_left; (first | exact Nat.le_refl _ | (dsimp only; omega) | (simp; done) | (simp; omega))) | with_reducible refine below_alloc ?_ _ | with_reducible apply below_drewN | with_reducible apply Below.drew | with_reducible refine below_step ?_ (by assumption)))) hM); (first | have B0 := Bk.later B0 hM | have B0 := Bk.later (Bk.alloc B0 _) hM | have B0 := Bk.later (Bk.alloc (Bk.alloc B0 _) _) hM); have C_B0 := B0; simp only [Bk] at C_B0; (first | have B1 := Bk.later B1 hM | have B1 := Bk.later (Bk.alloc B1 _) hM | have B1 := Bk.later (Bk.alloc (Bk.alloc B1 _) _) hM); have C_B1 := B1; simp only [Bk] at C_B1; (first | have B2 := Bk.later B2 hM | have B2 := Bk.later (Bk.alloc B2 _) hM | have B2 := Bk.later (Bk.alloc (Bk.alloc B2 _) _) hM); have C_B2 := B2; simp only [Bk] at C_B2; (first | have B3 := Bk.later B3 hM | have B3 := Bk.later (Bk.alloc B3 _) hM | have B3 := Bk.later (Bk.alloc (Bk.alloc B3 _) _) hM); have C_B3 := B3; simp only [Bk] at C_B3) | (go_at_call 43; (with_reducible refine (t3 _).mono ?_); rintro e9 w1 ⟨rfl, hM⟩; (first | have HB : Below w.heap.size w _ := below_step HB hM | have HB : Below w.heap.size w _ := below_step (W := _) (by (repeat (first | with_reducible assumption | with_reducible exact Below.refl _ _ | ((with_reducible refine Below.setCell ?_ ?_ _); rotate_left; (first | exact Nat.le_refl _ | (dsimp only; omega) | (simp; done) | (simp; omega))) | with_reducible refine below_alloc ?_ _ | with_reducible apply below_drewN | with_reducible apply Below.drew | with_reducible refine below_step ?_ (by assumption)))) hM); (first | have B0 := Bk.later B0 hM | have B0 := Bk.later (Bk.alloc B0 _) hM | have B0 := Bk.later (Bk.alloc (Bk.alloc B0 _) _) hM); have C_B0 := B0; simp only [Bk] at C_B0; (first | have B1 := Bk.later B1 hM | have B1 := Bk.later (Bk.alloc B1 _) hM | have B1 := Bk.later (Bk.alloc (Bk.alloc B1 _) _) hM); have C_B1 := B1; simp only [Bk] at C_B1; (first | have B2 := Bk.later B2 hM | have B2 := Bk.later (Bk.alloc B2 _) hM | have B2 := Bk.later (Bk.alloc (Bk.alloc B2 _) _) hM); have C_B2 := B2; simp only [Bk] at C_B2; (first | have B3 := Bk.later B3 hM | have B3 := Bk.later (Bk.alloc B3 _) hM | have B3 := Bk.later (Bk.alloc (Bk.alloc B3 _) _) hM); have C_B3 := B3; simp only [Bk] at C_B3) | (go_at_call 43; (with_reducible refine (t4 _).mono ?_); rintro e9 w1 ⟨rfl, hM⟩; (first | have HB : Below w.heap.size w _ := below_step HB hM | have HB : Below w.heap.size w _ := below_step (W := _) (by (repeat (first | with_reducible assumption | with_reducible exact Below.refl _ _ | ((with_reducible refine Below.setCell ?_ ?_ _); rotate_left; (first | exact Nat.le_refl _ | (dsimp only; omega) | (simp; done) | (simp; omega))) | with_reducible refine below_alloc ?_ _ | with_reducible apply below_drewN | with_reducible apply Below.drew | with_reducible refine below_step ?_ (by assumption)))) hM); (first | have B0 := Bk.later B0 hM | have B0 := Bk.later (Bk.alloc B0 _) hM | have B0 := Bk.later (Bk.alloc (Bk.alloc B0 _) _) hM); have C_B0 := B0; simp only [Bk] at C_B0; (first | have B1 := Bk.later B1 hM | have B1 := Bk.later (Bk.alloc B1 _) hM | have B1 := Bk.later (Bk.alloc (Bk.alloc B1 _) _) hM); have C_B1 := B1; simp only [Bk] at C_B1; (first | have B2 := Bk.later B2 hM | have B2 := Bk.later (Bk.alloc B2 _) hM | have B2 := Bk.later (Bk.alloc (Bk.alloc B2 _) _) hM); have C_B2 := B2; simp only [Bk] at C_B2; (first | have B3 := Bk.later B3 hM | have B3 := Bk.later (Bk.alloc B3 _) hM | have B3 := Bk.later (Bk.alloc (Bk.alloc B3 _) _) hM); have C_B3 := B3; simp only [Bk] at C_B3))
      clear t1 t2 t3 t4
      obtain ⟨y1, hy1⟩ : ∃ y, IntKind.i64.wrap (v1 * v2) = y := ⟨_, rfl⟩
      obtain ⟨y2, hy2⟩ : ∃ y, IntKind.i64.wrap (v3 * v4) = y := ⟨_, rfl⟩
      have EV : Hid (V = (decide (y1 < 0) && decide (y2 < 0))) := Lib.hid (by rw [HE.out, ← HW.out.1, ← HW.out.2, hy1, hy2]; simp)
      clear HE HW
      by_cases hl : y1 < 0
      · have dl := decide_eq_true hl
        (try refine wp_region_noPanic ?_)
        refine wp_region_held_drew (S := (fun (w' : World) => w'.cell? ⟨w.heap.size, 0, none⟩ = some (.int .i64 ax) ∧ w'.cell? ⟨w.heap.size, 1, none⟩ = some (.int .i64 ay) ∧ w'.cell? ⟨w.heap.size + 1, 0, none⟩ = some (.int .i64 bx) ∧ w'.cell? ⟨w.heap.size + 1, 1, none⟩ = some (.int .i64 bY) ∧ w'.cell? ⟨w.heap.size + 1 + 1, 0, none⟩ = some (.int .i64 px) ∧ w'.cell? ⟨w.heap.size + 1 + 1, 1, none⟩ = some (.int .i64 py) ∧ w'.cell? ⟨w.heap.size + 1 + 1 + 1, 0, none⟩ = some (.int .i64 qx) ∧ w'.cell? ⟨w.heap.size + 1 + 1 + 1, 1, none⟩ = some (.int .i64 qy))) (by kernel_rfl) ⟨(by first | (simp (maxDischargeDepth := 6) [go_sem, *]; done)), (by first | (simp (maxDischargeDepth := 6) [go_sem, *]; done)), (by first | (simp (maxDischargeDepth := 6) [go_sem, *]; done)), (by first | (simp (maxDischargeDepth := 6) [go_sem, *]; done)), (by first | (simp (maxDischargeDepth := 6) [go_sem, *]; done)), (by first | (simp (maxDischargeDepth := 6) [go_sem, *]; done)), (by first | (simp (maxDischargeDepth := 6) [go_sem, *]; done)), (by first | (simp (maxDischargeDepth := 6) [go_sem, *]; done))⟩ (fun hHeld => ?_)
        refine wpAnyH_take (i := 0) (v := ?_) (by simp only [List.getElem?_toArray, List.getElem?_cons_succ, List.getElem?_cons_zero]; rfl) (by kernel_rfl) (by kernel_rfl) (by kernel_rfl) (fun _ _ _ h => h) (Or.inl ⟨by rfl, ?_⟩) (by assumption) ?_
        rotate_left
        · intro w hSw; (try dsimp only at hSw); go_simp; try with_reducible rfl
        try simp only [Act.put, List.setIfInBounds_toArray, List.set_cons_zero, List.set_cons_succ]
        refine wpAnyH_take (i := 1) (v := ?_) (by simp only [List.getElem?_toArray, List.getElem?_cons_succ, List.getElem?_cons_zero]; rfl) (by kernel_rfl) (by kernel_rfl) (by kernel_rfl) (fun _ _ _ h => h) (Or.inl ⟨by rfl, ?_⟩) (by assumption) ?_
        rotate_left
        · intro w hSw; (try dsimp only at hSw); go_simp; try with_reducible rfl
        try simp only [Act.put, List.setIfInBounds_toArray, List.set_cons_zero, List.set_cons_succ]
        refine wpAnyH_take (i := 2) (v := ?_) (by simp only [List.getElem?_toArray, List.getElem?_cons_succ, List.getElem?_cons_zero]; rfl) (by kernel_rfl) (by kernel_rfl) (by kernel_rfl) (fun _ _ _ h => h) (Or.inl ⟨by rfl, ?_⟩) (by assumption) ?_
        rotate_left
        · intro w hSw; (try dsimp only at hSw); go_simp; try with_reducible rfl
        try simp only [Act.put, List.setIfInBounds_toArray, List.set_cons_zero, List.set_cons_succ]
        refine wpAnyH_take (i := 4) (v := ?_) (by simp only [List.getElem?_toArray, List.getElem?_cons_succ, List.getElem?_cons_zero]; rfl) (by kernel_rfl) (by kernel_rfl) (by kernel_rfl) (fun _ _ _ h => h) (Or.inl ⟨by rfl, ?_⟩) (by assumption) ?_
        rotate_left
        · intro w hSw; (try dsimp only at hSw); go_simp; try with_reducible rfl
        try simp only [Act.put, List.setIfInBounds_toArray, List.set_cons_zero, List.set_cons_succ]
        refine wpAnyH_take (i := 5) (v := ?_) (by simp only [List.getElem?_toArray, List.getElem?_cons_succ, List.getElem?_cons_zero]; rfl) (by kernel_rfl) (by kernel_rfl) (by kernel_rfl) (fun _ _ _ h => h) (Or.inl ⟨by rfl, ?_⟩) (by assumption) ?_
        rotate_left
        · intro w hSw; (try dsimp only at hSw); go_simp; try with_reducible rfl
        try simp only [Act.put, List.setIfInBounds_toArray, List.set_cons_zero, List.set_cons_succ]
        refine wpAnyH_take (i := 6) (v := ?_) (by simp only [List.getElem?_toArray, List.getElem?_cons_succ, List.getElem?_cons_zero]; rfl) (by kernel_rfl) (by kernel_rfl) (by kernel_rfl) (fun _ _ _ h => h) (Or.inl ⟨by rfl, ?_⟩) (by assumption) ?_
        rotate_left
        · intro w hSw; (try dsimp only at hSw); go_simp; try with_reducible rfl
        try simp only [Act.put, List.setIfInBounds_toArray, List.set_cons_zero, List.set_cons_succ]
        have hOld := hHeld; clear hHeld
        refine wpAnyH_ready (rs := [3]) (by kernel_rfl) (by simp) (AllReadyH.cons rfl (fun K hK => ?_) AllReadyH.nil)
        go_simp
        (go_at_call 10; (with_reducible refine (s1 _).mono ?_); rintro e w1 ⟨rfl, hM⟩)
        (try go_wp2_with (fail))
        refine hK.out _ _ ⟨(by first | exact mv_cell hM (by first | (dsimp only; omega) | (simp; omega)) hOld.1 | exact cell_later hM hOld.1 | exact HT.cb | exact HT.cc | (simp (maxDischargeDepth := 6) [go_sem, *]; done)), (by first | exact mv_cell hM (by first | (dsimp only; omega) | (simp; omega)) hOld.2.1 | exact cell_later hM hOld.2.1 | exact HT.cb | exact HT.cc | (simp (maxDischargeDepth := 6) [go_sem, *]; done)), (by first | exact mv_cell hM (by first | (dsimp only; omega) | (simp; omega)) hOld.2.2.1 | exact cell_later hM hOld.2.2.1 | exact HT.cb | exact HT.cc | (simp (maxDischargeDepth := 6) [go_sem, *]; done)), (by first | exact mv_cell hM (by first | (dsimp only; omega) | (simp; omega)) hOld.2.2.2.1 | exact cell_later hM hOld.2.2.2.1 | exact HT.cb | exact HT.cc | (simp (maxDischargeDepth := 6) [go_sem, *]; done)), (by first | exact mv_cell hM (by first | (dsimp only; omega) | (simp; omega)) hOld.2.2.2.2.1 | exact cell_later hM hOld.2.2.2.2.1 | exact HT.cb | exact HT.cc | (simp (maxDischargeDepth := 6) [go_sem, *]; done)), (by first | exact mv_cell hM (by first | (dsimp only; omega) | (simp; omega)) hOld.2.2.2.2.2.1 | exact cell_later hM hOld.2.2.2.2.2.1 | exact HT.cb | exact HT.cc | (simp (maxDischargeDepth := 6) [go_sem, *]; done)), (by first | exact mv_cell hM (by first | (dsimp only; omega) | (simp; omega)) hOld.2.2.2.2.2.2.1 | exact cell_later hM hOld.2.2.2.2.2.2.1 | exact HT.cb | exact HT.cc | (simp (maxDischargeDepth := 6) [go_sem, *]; done)), (by first | exact mv_cell hM (by first | (dsimp only; omega) | (simp; omega)) hOld.2.2.2.2.2.2.2 | exact cell_later hM hOld.2.2.2.2.2.2.2 | exact HT.cb | exact HT.cc | (simp (maxDischargeDepth := 6) [go_sem, *]; done))⟩ (fun hHeld => ?_)
        clear hK K hOld
        try simp only [Act.put, List.setIfInBounds_toArray, List.set_cons_zero, List.set_cons_succ]
        have HB := below_step (W := _) (by (repeat (first | with_reducible assumption | with_reducible exact Below.refl _ _ | ((with_reducible refine Below.setCell ?_ ?_ _); rotate_left; (first | exact Nat.le_refl _ | (dsimp only; omega) | (simp; done) | (simp; omega))) | with_reducible refine below_alloc ?_ _ | with_reducible apply below_drewN | with_reducible apply Below.drew | with_reducible refine below_step ?_ (by assumption)))) hM
        have hOld := hHeld; clear hHeld
        refine wpAnyH_ready (rs := [7]) (by kernel_rfl) (by simp) (AllReadyH.cons rfl (fun K hK => ?_) AllReadyH.nil)
        go_simp
        (go_at_call 10; (with_reducible refine (s2 _).mono ?_); rintro e w1 ⟨rfl, hM⟩)
        (try go_wp2_with (fail))
        refine hK.out _ _ ⟨(by first | exact mv_cell hM (by first | (dsimp only; omega) | (simp; omega)) hOld.1 | exact cell_later hM hOld.1 | exact HT.cb | exact HT.cc | (simp (maxDischargeDepth := 6) [go_sem, *]; done)), (by first | exact mv_cell hM (by first | (dsimp only; omega) | (simp; omega)) hOld.2.1 | exact cell_later hM hOld.2.1 | exact HT.cb | exact HT.cc | (simp (maxDischargeDepth := 6) [go_sem, *]; done)), (by first | exact mv_cell hM (by first | (dsimp only; omega) | (simp; omega)) hOld.2.2.1 | exact cell_later hM hOld.2.2.1 | exact HT.cb | exact HT.cc | (simp (maxDischargeDepth := 6) [go_sem, *]; done)), (by first | exact mv_cell hM (by first | (dsimp only; omega) | (simp; omega)) hOld.2.2.2.1 | exact cell_later hM hOld.2.2.2.1 | exact HT.cb | exact HT.cc | (simp (maxDischargeDepth := 6) [go_sem, *]; done)), (by first | exact mv_cell hM (by first | (dsimp only; omega) | (simp; omega)) hOld.2.2.2.2.1 | exact cell_later hM hOld.2.2.2.2.1 | exact HT.cb | exact HT.cc | (simp (maxDischargeDepth := 6) [go_sem, *]; done)), (by first | exact mv_cell hM (by first | (dsimp only; omega) | (simp; omega)) hOld.2.2.2.2.2.1 | exact cell_later hM hOld.2.2.2.2.2.1 | exact HT.cb | exact HT.cc | (simp (maxDischargeDepth := 6) [go_sem, *]; done)), (by first | exact mv_cell hM (by first | (dsimp only; omega) | (simp; omega)) hOld.2.2.2.2.2.2.1 | exact cell_later hM hOld.2.2.2.2.2.2.1 | exact HT.cb | exact HT.cc | (simp (maxDischargeDepth := 6) [go_sem, *]; done)), (by first | exact mv_cell hM (by first | (dsimp only; omega) | (simp; omega)) hOld.2.2.2.2.2.2.2 | exact cell_later hM hOld.2.2.2.2.2.2.2 | exact HT.cb | exact HT.cc | (simp (maxDischargeDepth := 6) [go_sem, *]; done))⟩ (fun hHeld => ?_)
        clear hK K hOld
        try simp only [Act.put, List.setIfInBounds_toArray, List.set_cons_zero, List.set_cons_succ]
        have HB := below_step HB hM
        refine wpAnyH_take (i := 8) (v := ?_) (by simp only [List.getElem?_toArray, List.getElem?_cons_succ, List.getElem?_cons_zero]; rfl) (by kernel_rfl) (by kernel_rfl) (by kernel_rfl) (fun _ _ _ h => h) (Or.inl ⟨by rfl, ?_⟩) (by assumption) ?_
        rotate_left
        · intro w hSw; (try dsimp only at hSw); go_simp; try with_reducible rfl
        try simp only [Act.put, List.setIfInBounds_toArray, List.set_cons_zero, List.set_cons_succ]
        refine wpAnyH_take (i := 9) (v := ?_) (by simp only [List.getElem?_toArray, List.getElem?_cons_succ, List.getElem?_cons_zero]; rfl) (by kernel_rfl) (by kernel_rfl) (by kernel_rfl) (fun _ _ _ h => h) (Or.inl ⟨by rfl, ?_⟩) (by assumption) ?_
        rotate_left
        · intro w hSw; (try dsimp only at hSw); go_simp; try with_reducible rfl
        try simp only [Act.put, List.setIfInBounds_toArray, List.set_cons_zero, List.set_cons_succ]
        refine wpAnyH_take (i := 10) (v := ?_) (by simp only [List.getElem?_toArray, List.getElem?_cons_succ, List.getElem?_cons_zero]; rfl) (by kernel_rfl) (by kernel_rfl) (by kernel_rfl) (fun _ _ _ h => h) (Or.inl ⟨by rfl, ?_⟩) (by assumption) ?_
        rotate_left
        · intro w hSw; (try dsimp only at hSw); go_simp; try with_reducible rfl
        try simp only [Act.put, List.setIfInBounds_toArray, List.set_cons_zero, List.set_cons_succ]
        refine wpAnyH_take (i := 11) (v := ?_) (by simp only [List.getElem?_toArray, List.getElem?_cons_succ, List.getElem?_cons_zero]; rfl) (by kernel_rfl) (by kernel_rfl) (by kernel_rfl) (fun _ _ _ h => h) (Or.inl ⟨by rfl, ?_⟩) (by assumption) ?_
        rotate_left
        · intro w hSw; (try dsimp only at hSw); go_simp; try with_reducible rfl
        try simp only [Act.put, List.setIfInBounds_toArray, List.set_cons_zero, List.set_cons_succ]
        refine wpAnyH_take (i := 12) (v := ?_) (by simp only [List.getElem?_toArray, List.getElem?_cons_succ, List.getElem?_cons_zero]; rfl) (by kernel_rfl) (by kernel_rfl) (by kernel_rfl) (fun _ _ _ h => h) (Or.inl ⟨by rfl, ?_⟩) (by assumption) ?_
        rotate_left
        · intro w hSw; (try dsimp only at hSw); go_simp; try with_reducible rfl
        try simp only [Act.put, List.setIfInBounds_toArray, List.set_cons_zero, List.set_cons_succ]
        refine wpAnyH_take (i := 13) (v := ?_) (by simp only [List.getElem?_toArray, List.getElem?_cons_succ, List.getElem?_cons_zero]; rfl) (by kernel_rfl) (by kernel_rfl) (by kernel_rfl) (fun _ _ _ h => h) (Or.inl ⟨by rfl, ?_⟩) (by assumption) ?_
        rotate_left
        · intro w hSw; (try dsimp only at hSw); go_simp; try with_reducible rfl
        try simp only [Act.put, List.setIfInBounds_toArray, List.set_cons_zero, List.set_cons_succ]
        refine wpAnyH_take (i := 15) (v := ?_) (by simp only [List.getElem?_toArray, List.getElem?_cons_succ, List.getElem?_cons_zero]; rfl) (by kernel_rfl) (by kernel_rfl) (by kernel_rfl) (fun _ _ _ h => h) (Or.inl ⟨by rfl, ?_⟩) (by assumption) ?_
        rotate_left
        · intro w hSw; (try dsimp only at hSw); go_simp; try with_reducible rfl
        try simp only [Act.put, List.setIfInBounds_toArray, List.set_cons_zero, List.set_cons_succ]
        refine wpAnyH_take (i := 16) (v := ?_) (by simp only [List.getElem?_toArray, List.getElem?_cons_succ, List.getElem?_cons_zero]; rfl) (by kernel_rfl) (by kernel_rfl) (by kernel_rfl) (fun _ _ _ h => h) (Or.inl ⟨by rfl, ?_⟩) (by assumption) ?_
        rotate_left
        · intro w hSw; (try dsimp only at hSw); go_simp; try with_reducible rfl
        try simp only [Act.put, List.setIfInBounds_toArray, List.set_cons_zero, List.set_cons_succ]
        refine wpAnyH_take (i := 17) (v := ?_) (by simp only [List.getElem?_toArray, List.getElem?_cons_succ, List.getElem?_cons_zero]; rfl) (by kernel_rfl) (by kernel_rfl) (by kernel_rfl) (fun _ _ _ h => h) (Or.inl ⟨by rfl, ?_⟩) (by assumption) ?_
        rotate_left
        · intro w hSw; (try dsimp only at hSw); go_simp; try with_reducible rfl
        try simp only [Act.put, List.setIfInBounds_toArray, List.set_cons_zero, List.set_cons_succ]
        have hOld := hHeld; clear hHeld
        refine wpAnyH_ready (rs := [14]) (by kernel_rfl) (by simp) (AllReadyH.cons rfl (fun K hK => ?_) AllReadyH.nil)
        go_simp
        (go_at_call 10; (with_reducible refine (s3 _).mono ?_); rintro e w1 ⟨rfl, hM⟩)
        (try go_wp2_with (fail))
        refine hK.out _ _ ⟨(by first | exact mv_cell hM (by first | (dsimp only; omega) | (simp; omega)) hOld.1 | exact cell_later hM hOld.1 | exact HT.cb | exact HT.cc | (simp (maxDischargeDepth := 6) [go_sem, *]; done)), (by first | exact mv_cell hM (by first | (dsimp only; omega) | (simp; omega)) hOld.2.1 | exact cell_later hM hOld.2.1 | exact HT.cb | exact HT.cc | (simp (maxDischargeDepth := 6) [go_sem, *]; done)), (by first | exact mv_cell hM (by first | (dsimp only; omega) | (simp; omega)) hOld.2.2.1 | exact cell_later hM hOld.2.2.1 | exact HT.cb | exact HT.cc | (simp (maxDischargeDepth := 6) [go_sem, *]; done)), (by first | exact mv_cell hM (by first | (dsimp only; omega) | (simp; omega)) hOld.2.2.2.1 | exact cell_later hM hOld.2.2.2.1 | exact HT.cb | exact HT.cc | (simp (maxDischargeDepth := 6) [go_sem, *]; done)), (by first | exact mv_cell hM (by first | (dsimp only; omega) | (simp; omega)) hOld.2.2.2.2.1 | exact cell_later hM hOld.2.2.2.2.1 | exact HT.cb | exact HT.cc | (simp (maxDischargeDepth := 6) [go_sem, *]; done)), (by first | exact mv_cell hM (by first | (dsimp only; omega) | (simp; omega)) hOld.2.2.2.2.2.1 | exact cell_later hM hOld.2.2.2.2.2.1 | exact HT.cb | exact HT.cc | (simp (maxDischargeDepth := 6) [go_sem, *]; done)), (by first | exact mv_cell hM (by first | (dsimp only; omega) | (simp; omega)) hOld.2.2.2.2.2.2.1 | exact cell_later hM hOld.2.2.2.2.2.2.1 | exact HT.cb | exact HT.cc | (simp (maxDischargeDepth := 6) [go_sem, *]; done)), (by first | exact mv_cell hM (by first | (dsimp only; omega) | (simp; omega)) hOld.2.2.2.2.2.2.2 | exact cell_later hM hOld.2.2.2.2.2.2.2 | exact HT.cb | exact HT.cc | (simp (maxDischargeDepth := 6) [go_sem, *]; done))⟩ (fun hHeld => ?_)
        clear hK K hOld
        try simp only [Act.put, List.setIfInBounds_toArray, List.set_cons_zero, List.set_cons_succ]
        have HB := below_step HB hM
        have hOld := hHeld; clear hHeld
        refine wpAnyH_ready (rs := [18]) (by kernel_rfl) (by simp) (AllReadyH.cons rfl (fun K hK => ?_) AllReadyH.nil)
        go_simp
        (go_at_call 10; (with_reducible refine (s4 _).mono ?_); rintro e w1 ⟨rfl, hM⟩)
        (try go_wp2_with (fail))
        refine hK.out _ _ ⟨(by first | exact mv_cell hM (by first | (dsimp only; omega) | (simp; omega)) hOld.1 | exact cell_later hM hOld.1 | exact HT.cb | exact HT.cc | (simp (maxDischargeDepth := 6) [go_sem, *]; done)), (by first | exact mv_cell hM (by first | (dsimp only; omega) | (simp; omega)) hOld.2.1 | exact cell_later hM hOld.2.1 | exact HT.cb | exact HT.cc | (simp (maxDischargeDepth := 6) [go_sem, *]; done)), (by first | exact mv_cell hM (by first | (dsimp only; omega) | (simp; omega)) hOld.2.2.1 | exact cell_later hM hOld.2.2.1 | exact HT.cb | exact HT.cc | (simp (maxDischargeDepth := 6) [go_sem, *]; done)), (by first | exact mv_cell hM (by first | (dsimp only; omega) | (simp; omega)) hOld.2.2.2.1 | exact cell_later hM hOld.2.2.2.1 | exact HT.cb | exact HT.cc | (simp (maxDischargeDepth := 6) [go_sem, *]; done)), (by first | exact mv_cell hM (by first | (dsimp only; omega) | (simp; omega)) hOld.2.2.2.2.1 | exact cell_later hM hOld.2.2.2.2.1 | exact HT.cb | exact HT.cc | (simp (maxDischargeDepth := 6) [go_sem, *]; done)), (by first | exact mv_cell hM (by first | (dsimp only; omega) | (simp; omega)) hOld.2.2.2.2.2.1 | exact cell_later hM hOld.2.2.2.2.2.1 | exact HT.cb | exact HT.cc | (simp (maxDischargeDepth := 6) [go_sem, *]; done)), (by first | exact mv_cell hM (by first | (dsimp only; omega) | (simp; omega)) hOld.2.2.2.2.2.2.1 | exact cell_later hM hOld.2.2.2.2.2.2.1 | exact HT.cb | exact HT.cc | (simp (maxDischargeDepth := 6) [go_sem, *]; done)), (by first | exact mv_cell hM (by first | (dsimp only; omega) | (simp; omega)) hOld.2.2.2.2.2.2.2 | exact cell_later hM hOld.2.2.2.2.2.2.2 | exact HT.cb | exact HT.cc | (simp (maxDischargeDepth := 6) [go_sem, *]; done))⟩ (fun hHeld => ?_)
        clear hK K hOld
        try simp only [Act.put, List.setIfInBounds_toArray, List.set_cons_zero, List.set_cons_succ]
        have HB := below_step HB hM
        refine wpAnyH_take (i := 19) (v := ?_) (by simp only [List.getElem?_toArray, List.getElem?_cons_succ, List.getElem?_cons_zero]; rfl) (by kernel_rfl) (by kernel_rfl) (by kernel_rfl) (fun _ _ _ h => h) (Or.inl ⟨by rfl, ?_⟩) (by assumption) ?_
        rotate_left
        · intro w hSw; (try dsimp only at hSw); go_simp; try with_reducible rfl
        try simp only [Act.put, List.setIfInBounds_toArray, List.set_cons_zero, List.set_cons_succ]
        refine wpAnyH_take (i := 20) (v := ?_) (by simp only [List.getElem?_toArray, List.getElem?_cons_succ, List.getElem?_cons_zero]; rfl) (by kernel_rfl) (by kernel_rfl) (by kernel_rfl) (fun _ _ _ h => h) (Or.inl ⟨by rfl, ?_⟩) (by assumption) ?_
        rotate_left
        · intro w hSw; (try dsimp only at hSw); go_simp; try with_reducible rfl
        try simp only [Act.put, List.setIfInBounds_toArray, List.set_cons_zero, List.set_cons_succ]
        refine wpAnyH_take (i := 21) (v := ?_) (by simp only [List.getElem?_toArray, List.getElem?_cons_succ, List.getElem?_cons_zero]; rfl) (by kernel_rfl) (by kernel_rfl) (by kernel_rfl) (fun _ _ _ h => h) (Or.inl ⟨by rfl, ?_⟩) (by assumption) ?_
        rotate_left
        · intro w hSw; (try dsimp only at hSw); go_simp; try with_reducible rfl
        try simp only [Act.put, List.setIfInBounds_toArray, List.set_cons_zero, List.set_cons_succ]
        refine wpAnyH_take (i := 22) (v := ?_) (by simp only [List.getElem?_toArray, List.getElem?_cons_succ, List.getElem?_cons_zero]; rfl) (by kernel_rfl) (by kernel_rfl) (by kernel_rfl) (fun _ _ _ h => h) (Or.inl ⟨by rfl, ?_⟩) (by assumption) ?_
        rotate_left
        · intro w hSw; (try dsimp only at hSw); go_simp; try with_reducible rfl
        try simp only [Act.put, List.setIfInBounds_toArray, List.set_cons_zero, List.set_cons_succ]
        refine wpAnyH_done (by kernel_rfl) ?_ _
        (try refine NoPanic.normal ?_)
        (try clear q0); (try clear q1); (try clear q2); (try clear q3); (try clear q4); (try clear q5); (try clear q6); (try clear q7); obtain ⟨q0, q1, q2, q3, q4, q5, q6, q7⟩ := hHeld
        go_wp2
        go_ret
        exact ⟨by rw [EV.out, dl] <;> rfl, by first | exact HB | (repeat (first | with_reducible assumption | with_reducible exact Below.refl _ _ | ((with_reducible refine Below.setCell ?_ ?_ _); rotate_left; (first | exact Nat.le_refl _ | (dsimp only; omega) | (simp; done) | (simp; omega))) | with_reducible refine below_alloc ?_ _ | with_reducible apply below_drewN | with_reducible apply Below.drew | with_reducible refine below_step ?_ (by assumption)))⟩
      · have dl := decide_eq_false hl
        (try refine wp_region_noPanic ?_)
        refine wp_region_held_drew (S := (fun (w' : World) => w'.cell? ⟨w.heap.size, 0, none⟩ = some (.int .i64 ax) ∧ w'.cell? ⟨w.heap.size, 1, none⟩ = some (.int .i64 ay) ∧ w'.cell? ⟨w.heap.size + 1, 0, none⟩ = some (.int .i64 bx) ∧ w'.cell? ⟨w.heap.size + 1, 1, none⟩ = some (.int .i64 bY) ∧ w'.cell? ⟨w.heap.size + 1 + 1, 0, none⟩ = some (.int .i64 px) ∧ w'.cell? ⟨w.heap.size + 1 + 1, 1, none⟩ = some (.int .i64 py) ∧ w'.cell? ⟨w.heap.size + 1 + 1 + 1, 0, none⟩ = some (.int .i64 qx) ∧ w'.cell? ⟨w.heap.size + 1 + 1 + 1, 1, none⟩ = some (.int .i64 qy))) (by kernel_rfl) ⟨(by first | (simp (maxDischargeDepth := 6) [go_sem, *]; done)), (by first | (simp (maxDischargeDepth := 6) [go_sem, *]; done)), (by first | (simp (maxDischargeDepth := 6) [go_sem, *]; done)), (by first | (simp (maxDischargeDepth := 6) [go_sem, *]; done)), (by first | (simp (maxDischargeDepth := 6) [go_sem, *]; done)), (by first | (simp (maxDischargeDepth := 6) [go_sem, *]; done)), (by first | (simp (maxDischargeDepth := 6) [go_sem, *]; done)), (by first | (simp (maxDischargeDepth := 6) [go_sem, *]; done))⟩ (fun hHeld => ?_)
        refine wpAnyH_take (i := 0) (v := ?_) (by simp only [List.getElem?_toArray, List.getElem?_cons_succ, List.getElem?_cons_zero]; rfl) (by kernel_rfl) (by kernel_rfl) (by kernel_rfl) (fun _ _ _ h => h) (Or.inl ⟨by rfl, ?_⟩) (by assumption) ?_
        rotate_left
        · intro w hSw; (try dsimp only at hSw); go_simp; try with_reducible rfl
        try simp only [Act.put, List.setIfInBounds_toArray, List.set_cons_zero, List.set_cons_succ]
        refine wpAnyH_take (i := 1) (v := ?_) (by simp only [List.getElem?_toArray, List.getElem?_cons_succ, List.getElem?_cons_zero]; rfl) (by kernel_rfl) (by kernel_rfl) (by kernel_rfl) (fun _ _ _ h => h) (Or.inl ⟨by rfl, ?_⟩) (by assumption) ?_
        rotate_left
        · intro w hSw; (try dsimp only at hSw); go_simp; try with_reducible rfl
        try simp only [Act.put, List.setIfInBounds_toArray, List.set_cons_zero, List.set_cons_succ]
        refine wpAnyH_take (i := 2) (v := ?_) (by simp only [List.getElem?_toArray, List.getElem?_cons_succ, List.getElem?_cons_zero]; rfl) (by kernel_rfl) (by kernel_rfl) (by kernel_rfl) (fun _ _ _ h => h) (Or.inl ⟨by rfl, ?_⟩) (by assumption) ?_
        rotate_left
        · intro w hSw; (try dsimp only at hSw); go_simp; try with_reducible rfl
        try simp only [Act.put, List.setIfInBounds_toArray, List.set_cons_zero, List.set_cons_succ]
        refine wpAnyH_take (i := 4) (v := ?_) (by simp only [List.getElem?_toArray, List.getElem?_cons_succ, List.getElem?_cons_zero]; rfl) (by kernel_rfl) (by kernel_rfl) (by kernel_rfl) (fun _ _ _ h => h) (Or.inl ⟨by rfl, ?_⟩) (by assumption) ?_
        rotate_left
        · intro w hSw; (try dsimp only at hSw); go_simp; try with_reducible rfl
        try simp only [Act.put, List.setIfInBounds_toArray, List.set_cons_zero, List.set_cons_succ]
        refine wpAnyH_take (i := 5) (v := ?_) (by simp only [List.getElem?_toArray, List.getElem?_cons_succ, List.getElem?_cons_zero]; rfl) (by kernel_rfl) (by kernel_rfl) (by kernel_rfl) (fun _ _ _ h => h) (Or.inl ⟨by rfl, ?_⟩) (by assumption) ?_
        rotate_left
        · intro w hSw; (try dsimp only at hSw); go_simp; try with_reducible rfl
        try simp only [Act.put, List.setIfInBounds_toArray, List.set_cons_zero, List.set_cons_succ]
        refine wpAnyH_take (i := 6) (v := ?_) (by simp only [List.getElem?_toArray, List.getElem?_cons_succ, List.getElem?_cons_zero]; rfl) (by kernel_rfl) (by kernel_rfl) (by kernel_rfl) (fun _ _ _ h => h) (Or.inl ⟨by rfl, ?_⟩) (by assumption) ?_
        rotate_left
        · intro w hSw; (try dsimp only at hSw); go_simp; try with_reducible rfl
        try simp only [Act.put, List.setIfInBounds_toArray, List.set_cons_zero, List.set_cons_succ]
        have hOld := hHeld; clear hHeld
        refine wpAnyH_ready (rs := [3]) (by kernel_rfl) (by simp) (AllReadyH.cons rfl (fun K hK => ?_) AllReadyH.nil)
        go_simp
        (go_at_call 10; (with_reducible refine (s1 _).mono ?_); rintro e w1 ⟨rfl, hM⟩)
        (try go_wp2_with (fail))
        refine hK.out _ _ ⟨(by first | exact mv_cell hM (by first | (dsimp only; omega) | (simp; omega)) hOld.1 | exact cell_later hM hOld.1 | exact HT.cb | exact HT.cc | (simp (maxDischargeDepth := 6) [go_sem, *]; done)), (by first | exact mv_cell hM (by first | (dsimp only; omega) | (simp; omega)) hOld.2.1 | exact cell_later hM hOld.2.1 | exact HT.cb | exact HT.cc | (simp (maxDischargeDepth := 6) [go_sem, *]; done)), (by first | exact mv_cell hM (by first | (dsimp only; omega) | (simp; omega)) hOld.2.2.1 | exact cell_later hM hOld.2.2.1 | exact HT.cb | exact HT.cc | (simp (maxDischargeDepth := 6) [go_sem, *]; done)), (by first | exact mv_cell hM (by first | (dsimp only; omega) | (simp; omega)) hOld.2.2.2.1 | exact cell_later hM hOld.2.2.2.1 | exact HT.cb | exact HT.cc | (simp (maxDischargeDepth := 6) [go_sem, *]; done)), (by first | exact mv_cell hM (by first | (dsimp only; omega) | (simp; omega)) hOld.2.2.2.2.1 | exact cell_later hM hOld.2.2.2.2.1 | exact HT.cb | exact HT.cc | (simp (maxDischargeDepth := 6) [go_sem, *]; done)), (by first | exact mv_cell hM (by first | (dsimp only; omega) | (simp; omega)) hOld.2.2.2.2.2.1 | exact cell_later hM hOld.2.2.2.2.2.1 | exact HT.cb | exact HT.cc | (simp (maxDischargeDepth := 6) [go_sem, *]; done)), (by first | exact mv_cell hM (by first | (dsimp only; omega) | (simp; omega)) hOld.2.2.2.2.2.2.1 | exact cell_later hM hOld.2.2.2.2.2.2.1 | exact HT.cb | exact HT.cc | (simp (maxDischargeDepth := 6) [go_sem, *]; done)), (by first | exact mv_cell hM (by first | (dsimp only; omega) | (simp; omega)) hOld.2.2.2.2.2.2.2 | exact cell_later hM hOld.2.2.2.2.2.2.2 | exact HT.cb | exact HT.cc | (simp (maxDischargeDepth := 6) [go_sem, *]; done))⟩ (fun hHeld => ?_)
        clear hK K hOld
        try simp only [Act.put, List.setIfInBounds_toArray, List.set_cons_zero, List.set_cons_succ]
        have HB := below_step (W := _) (by (repeat (first | with_reducible assumption | with_reducible exact Below.refl _ _ | ((with_reducible refine Below.setCell ?_ ?_ _); rotate_left; (first | exact Nat.le_refl _ | (dsimp only; omega) | (simp; done) | (simp; omega))) | with_reducible refine below_alloc ?_ _ | with_reducible apply below_drewN | with_reducible apply Below.drew | with_reducible refine below_step ?_ (by assumption)))) hM
        have hOld := hHeld; clear hHeld
        refine wpAnyH_ready (rs := [7]) (by kernel_rfl) (by simp) (AllReadyH.cons rfl (fun K hK => ?_) AllReadyH.nil)
        go_simp
        (go_at_call 10; (with_reducible refine (s2 _).mono ?_); rintro e w1 ⟨rfl, hM⟩)
        (try go_wp2_with (fail))
        refine hK.out _ _ ⟨(by first | exact mv_cell hM (by first | (dsimp only; omega) | (simp; omega)) hOld.1 | exact cell_later hM hOld.1 | exact HT.cb | exact HT.cc | (simp (maxDischargeDepth := 6) [go_sem, *]; done)), (by first | exact mv_cell hM (by first | (dsimp only; omega) | (simp; omega)) hOld.2.1 | exact cell_later hM hOld.2.1 | exact HT.cb | exact HT.cc | (simp (maxDischargeDepth := 6) [go_sem, *]; done)), (by first | exact mv_cell hM (by first | (dsimp only; omega) | (simp; omega)) hOld.2.2.1 | exact cell_later hM hOld.2.2.1 | exact HT.cb | exact HT.cc | (simp (maxDischargeDepth := 6) [go_sem, *]; done)), (by first | exact mv_cell hM (by first | (dsimp only; omega) | (simp; omega)) hOld.2.2.2.1 | exact cell_later hM hOld.2.2.2.1 | exact HT.cb | exact HT.cc | (simp (maxDischargeDepth := 6) [go_sem, *]; done)), (by first | exact mv_cell hM (by first | (dsimp only; omega) | (simp; omega)) hOld.2.2.2.2.1 | exact cell_later hM hOld.2.2.2.2.1 | exact HT.cb | exact HT.cc | (simp (maxDischargeDepth := 6) [go_sem, *]; done)), (by first | exact mv_cell hM (by first | (dsimp only; omega) | (simp; omega)) hOld.2.2.2.2.2.1 | exact cell_later hM hOld.2.2.2.2.2.1 | exact HT.cb | exact HT.cc | (simp (maxDischargeDepth := 6) [go_sem, *]; done)), (by first | exact mv_cell hM (by first | (dsimp only; omega) | (simp; omega)) hOld.2.2.2.2.2.2.1 | exact cell_later hM hOld.2.2.2.2.2.2.1 | exact HT.cb | exact HT.cc | (simp (maxDischargeDepth := 6) [go_sem, *]; done)), (by first | exact mv_cell hM (by first | (dsimp only; omega) | (simp; omega)) hOld.2.2.2.2.2.2.2 | exact cell_later hM hOld.2.2.2.2.2.2.2 | exact HT.cb | exact HT.cc | (simp (maxDischargeDepth := 6) [go_sem, *]; done))⟩ (fun hHeld => ?_)
        clear hK K hOld
        try simp only [Act.put, List.setIfInBounds_toArray, List.set_cons_zero, List.set_cons_succ]
        have HB := below_step HB hM
        refine wpAnyH_take (i := 8) (v := ?_) (by simp only [List.getElem?_toArray, List.getElem?_cons_succ, List.getElem?_cons_zero]; rfl) (by kernel_rfl) (by kernel_rfl) (by kernel_rfl) (fun _ _ _ h => h) (Or.inl ⟨by rfl, ?_⟩) (by assumption) ?_
        rotate_left
        · intro w hSw; (try dsimp only at hSw); go_simp; try with_reducible rfl
        try simp only [Act.put, List.setIfInBounds_toArray, List.set_cons_zero, List.set_cons_succ]
        refine wpAnyH_take (i := 9) (v := ?_) (by simp only [List.getElem?_toArray, List.getElem?_cons_succ, List.getElem?_cons_zero]; rfl) (by kernel_rfl) (by kernel_rfl) (by kernel_rfl) (fun _ _ _ h => h) (Or.inl ⟨by rfl, ?_⟩) (by assumption) ?_
        rotate_left
        · intro w hSw; (try dsimp only at hSw); go_simp; try with_reducible rfl
        try simp only [Act.put, List.setIfInBounds_toArray, List.set_cons_zero, List.set_cons_succ]
        refine wpAnyH_take (i := 10) (v := ?_) (by simp only [List.getElem?_toArray, List.getElem?_cons_succ, List.getElem?_cons_zero]; rfl) (by kernel_rfl) (by kernel_rfl) (by kernel_rfl) (fun _ _ _ h => h) (Or.inl ⟨by rfl, ?_⟩) (by assumption) ?_
        rotate_left
        · intro w hSw; (try dsimp only at hSw); go_simp; try with_reducible rfl
        try simp only [Act.put, List.setIfInBounds_toArray, List.set_cons_zero, List.set_cons_succ]
        refine wpAnyH_take (i := 11) (v := ?_) (by simp only [List.getElem?_toArray, List.getElem?_cons_succ, List.getElem?_cons_zero]; rfl) (by kernel_rfl) (by kernel_rfl) (by kernel_rfl) (fun _ _ _ h => h) (Or.inr ⟨by rfl, by rfl⟩) (by assumption) ?_
        try simp only [Act.put, List.setIfInBounds_toArray, List.set_cons_zero, List.set_cons_succ]
        refine wpAnyH_take (i := 12) (v := ?_) (by simp only [List.getElem?_toArray, List.getElem?_cons_succ, List.getElem?_cons_zero]; rfl) (by kernel_rfl) (by kernel_rfl) (by kernel_rfl) (fun _ _ _ h => h) (Or.inr ⟨by rfl, by rfl⟩) (by assumption) ?_
        try simp only [Act.put, List.setIfInBounds_toArray, List.set_cons_zero, List.set_cons_succ]
        refine wpAnyH_take (i := 13) (v := ?_) (by simp only [List.getElem?_toArray, List.getElem?_cons_succ, List.getElem?_cons_zero]; rfl) (by kernel_rfl) (by kernel_rfl) (by kernel_rfl) (fun _ _ _ h => h) (Or.inr ⟨by rfl, by rfl⟩) (by assumption) ?_
        try simp only [Act.put, List.setIfInBounds_toArray, List.set_cons_zero, List.set_cons_succ]
        refine wpAnyH_take (i := 15) (v := ?_) (by simp only [List.getElem?_toArray, List.getElem?_cons_succ, List.getElem?_cons_zero]; rfl) (by kernel_rfl) (by kernel_rfl) (by kernel_rfl) (fun _ _ _ h => h) (Or.inr ⟨by rfl, by rfl⟩) (by assumption) ?_
        try simp only [Act.put, List.setIfInBounds_toArray, List.set_cons_zero, List.set_cons_succ]
        refine wpAnyH_take (i := 16) (v := ?_) (by simp only [List.getElem?_toArray, List.getElem?_cons_succ, List.getElem?_cons_zero]; rfl) (by kernel_rfl) (by kernel_rfl) (by kernel_rfl) (fun _ _ _ h => h) (Or.inr ⟨by rfl, by rfl⟩) (by assumption) ?_
        try simp only [Act.put, List.setIfInBounds_toArray, List.set_cons_zero, List.set_cons_succ]
        refine wpAnyH_take (i := 17) (v := ?_) (by simp only [List.getElem?_toArray, List.getElem?_cons_succ, List.getElem?_cons_zero]; rfl) (by kernel_rfl) (by kernel_rfl) (by kernel_rfl) (fun _ _ _ h => h) (Or.inr ⟨by rfl, by rfl⟩) (by assumption) ?_
        try simp only [Act.put, List.setIfInBounds_toArray, List.set_cons_zero, List.set_cons_succ]
        have hOld := hHeld; clear hHeld
        refine wpAnyH_ready (rs := [14]) (by kernel_rfl) (by simp) (AllReadyH.cons rfl (fun K hK => ?_) AllReadyH.nil)
        go_simp
        refine hK.out _ _ hOld (fun hHeld => ?_)
        clear hK K hOld
        try simp only [Act.put, List.setIfInBounds_toArray, List.set_cons_zero, List.set_cons_succ]
        have hOld := hHeld; clear hHeld
        refine wpAnyH_ready (rs := [18]) (by kernel_rfl) (by simp) (AllReadyH.cons rfl (fun K hK => ?_) AllReadyH.nil)
        go_simp
        refine hK.out _ _ hOld (fun hHeld => ?_)
        clear hK K hOld
        try simp only [Act.put, List.setIfInBounds_toArray, List.set_cons_zero, List.set_cons_succ]
        refine wpAnyH_take (i := 19) (v := ?_) (by simp only [List.getElem?_toArray, List.getElem?_cons_succ, List.getElem?_cons_zero]; rfl) (by kernel_rfl) (by kernel_rfl) (by kernel_rfl) (fun _ _ _ h => h) (Or.inr ⟨by rfl, by rfl⟩) (by assumption) ?_
        try simp only [Act.put, List.setIfInBounds_toArray, List.set_cons_zero, List.set_cons_succ]
        refine wpAnyH_take (i := 20) (v := ?_) (by simp only [List.getElem?_toArray, List.getElem?_cons_succ, List.getElem?_cons_zero]; rfl) (by kernel_rfl) (by kernel_rfl) (by kernel_rfl) (fun _ _ _ h => h) (Or.inr ⟨by rfl, by rfl⟩) (by assumption) ?_
        try simp only [Act.put, List.setIfInBounds_toArray, List.set_cons_zero, List.set_cons_succ]
        refine wpAnyH_take (i := 21) (v := ?_) (by simp only [List.getElem?_toArray, List.getElem?_cons_succ, List.getElem?_cons_zero]; rfl) (by kernel_rfl) (by kernel_rfl) (by kernel_rfl) (fun _ _ _ h => h) (Or.inl ⟨by rfl, ?_⟩) (by assumption) ?_
        rotate_left
        · intro w hSw; (try dsimp only at hSw); go_simp; try with_reducible rfl
        try simp only [Act.put, List.setIfInBounds_toArray, List.set_cons_zero, List.set_cons_succ]
        refine wpAnyH_take (i := 22) (v := ?_) (by simp only [List.getElem?_toArray, List.getElem?_cons_succ, List.getElem?_cons_zero]; rfl) (by kernel_rfl) (by kernel_rfl) (by kernel_rfl) (fun _ _ _ h => h) (Or.inl ⟨by rfl, ?_⟩) (by assumption) ?_
        rotate_left
        · intro w hSw; (try dsimp only at hSw); go_simp; try with_reducible rfl
        try simp only [Act.put, List.setIfInBounds_toArray, List.set_cons_zero, List.set_cons_succ]
        refine wpAnyH_done (by kernel_rfl) ?_ _
        (try refine NoPanic.normal ?_)
        (try clear q0); (try clear q1); (try clear q2); (try clear q3); (try clear q4); (try clear q5); (try clear q6); (try clear q7); obtain ⟨q0, q1, q2, q3, q4, q5, q6, q7⟩ := hHeld
        go_wp2
        go_ret
        exact ⟨by rw [EV.out, dl] <;> rfl, by first | exact HB | (repeat (first | with_reducible assumption | with_reducible exact Below.refl _ _ | ((with_reducible refine Below.setCell ?_ ?_ _); rotate_left; (first | exact Nat.le_refl _ | (dsimp only; omega) | (simp; done) | (simp; omega))) | with_reducible refine below_alloc ?_ _ | with_reducible apply below_drewN | with_reducible apply Below.drew | with_reducible refine below_step ?_ (by assumption)))⟩
theorem c7Btw (n a b : Int) (w : World) : Calls Try.prog 64 #[.int .i64 n, .int .i64 a, .int .i64 b] w fun e w' => e = .returned (.bool (btw n a b)) ∧ w = w' := by
  by_cases h1 : min a b ≤ n
  · by_cases h2 : n ≤ max a b
    · go_enter Try.func64, Try.ntmps64
      go_wp2
      go_ret
      exact ⟨by unfold btw; rw [decide_eq_true (by omega)]; rfl, rfl⟩
    · go_enter Try.func64, Try.ntmps64
      go_wp2
      go_ret
      exact ⟨by unfold btw; rw [decide_eq_false (by omega)]; rfl, rfl⟩
  · go_enter Try.func64, Try.ntmps64
    go_wp2
    go_ret
    exact ⟨by unfold btw; rw [decide_eq_false (by omega)]; rfl, rfl⟩
set_option maxHeartbeats 2000000 in
theorem c7On (ax ay bx bY px py : Int) (w : World) :
    Calls Try.prog 44 #[.agg #[.int .i64 ax, .int .i64 ay], .agg #[.int .i64 bx, .int .i64 bY], .agg #[.int .i64 px, .int .i64 py]] w fun e w' => e = .returned (.bool (on7 ax ay bx bY px py)) ∧ Below w.heap.size w w' := by
  have k1 := fun W => c7Btw px ax bx W
  have k2 := fun W => c7Btw py ay bY W
  unfold on7
  generalize btw px ax bx = t1 at *
  generalize btw py ay bY = t2 at *
  cases t1 with
  | true =>
    go_enter Try.func44, Try.ntmps44
    go_wp2_with (first | ((go_at_call 64; (with_reducible refine (k1 _).mono ?_); rintro e w1 ⟨rfl, rfl⟩)) | ((go_at_call 64; (with_reducible refine (k2 _).mono ?_); rintro e w1 ⟨rfl, rfl⟩)))
    go_ret
    exact ⟨rfl, by (repeat (first | with_reducible assumption | with_reducible exact Below.refl _ _ | ((with_reducible refine Below.setCell ?_ ?_ _); rotate_left; (first | exact Nat.le_refl _ | (dsimp only; omega) | (simp; done) | (simp; omega))) | with_reducible refine below_alloc ?_ _ | with_reducible apply below_drewN | with_reducible apply Below.drew | with_reducible refine below_step ?_ (by assumption)))⟩
  | false =>
    go_enter Try.func44, Try.ntmps44
    go_wp2_with (first | ((go_at_call 64; (with_reducible refine (k1 _).mono ?_); rintro e w1 ⟨rfl, rfl⟩)) | ((go_at_call 64; (with_reducible refine (k2 _).mono ?_); rintro e w1 ⟨rfl, rfl⟩)))
    go_ret
    exact ⟨rfl, by (repeat (first | with_reducible assumption | with_reducible exact Below.refl _ _ | ((with_reducible refine Below.setCell ?_ ?_ _); rotate_left; (first | exact Nat.le_refl _ | (dsimp only; omega) | (simp; done) | (simp; omega))) | with_reducible refine below_alloc ?_ _ | with_reducible apply below_drewN | with_reducible apply Below.drew | with_reducible refine below_step ?_ (by assumption)))⟩
end Go.Proofs.Ytcijddjfadcanaa
