/- The contract of chapter 7's answer: Beyond. -/
import Derived.Test.YtcijddjfadcanaaH16
import Derived.Test.YtcijddjfadcanaaH10
import Derived.Test.YtcijddjfadcanaaH11
set_option linter.unusedSimpArgs false
set_option linter.unusedVariables false
namespace Go.Proofs.Ytcijddjfadcanaa
open Go.RowKit
theorem cmp3_lt7 (a b : Int) : cmp3 a b < 0 ↔ a < b := by unfold cmp3; split <;> (try split) <;> omega
set_option maxHeartbeats 16000000 in
theorem c7Beyond (ax ay bx bY px py : Int) (w : World) :
    Calls Try.prog 16 #[.agg #[.int .i64 ax, .int .i64 ay], .agg #[.int .i64 bx, .int .i64 bY], .agg #[.int .i64 px, .int .i64 py]] w fun e w' => e = .returned (.int .i64 (bh ax ay bx bY px py)) ∧ Below w.heap.size w w' := by
  have k1 := fun q W => c7Near3 q ax ay bx bY px py W
  cases hn : (pn ax ay && pn bx bY && pn px py) with
  | false =>
    have E : Hid (bh ax ay bx bY px py = 0) := Lib.hid (by unfold bh; rw [hn]; rfl)
    rw [hn] at k1
    clear hn
    go_enter Try.func16, Try.ntmps16
    go_wp2_with (fail)
    (go_at_call 22; (with_reducible refine (k1 _ _ (by simp [go_sem]) (by simp [go_sem]) (by simp [go_sem]) (by simp [go_sem]) (by simp [go_sem]) (by simp [go_sem])).mono ?_); rintro e w1 ⟨rfl, hM⟩)
    go_wp2
    go_ret
    exact ⟨by rw [E.out] <;> rfl, by (repeat (first | with_reducible assumption | with_reducible exact Below.refl _ _ | ((with_reducible refine Below.setCell ?_ ?_ _); rotate_left; (first | exact Nat.le_refl _ | (dsimp only; omega) | (simp; done) | (simp; omega))) | with_reducible refine below_alloc ?_ _ | with_reducible apply below_drewN | with_reducible apply Below.drew | with_reducible refine below_step ?_ (by assumption)))⟩
  | true =>
    have E0 : bh ax ay bx bY px py = if (decide (ar ax ay bx bY px py < 0) && wn ax ay bx bY px py) = true then -(ar ax ay bx bY px py / lg ax ay bx bY) else 0 := by unfold bh; rw [hn, Bool.true_and]
    have S0 := sd_near ax ay bx bY px py
    rw [hn] at k1
    simp only [Bool.and_eq_true] at hn
    obtain ⟨⟨ha, hb⟩, hp⟩ := hn
    have S0 := S0 ha hb hp
    have k2 := fun W => c7Side ax ay bx bY px py W
    have k3 := fun W => c7Dot ax ay bx bY px py W ha hb hp
    have k4 := fun W => c7Dot bx bY ax ay px py W hb ha hp
    have k5 := fun W => c7Area ax ay bx bY px py W ha hb hp
    have bd := ar_bd ax ay bx bY px py ha hb hp
    have b1 := dp_bd ax ay bx bY px py ha hb hp
    have b2 := dp_bd bx bY ax ay px py hb ha hp
    have b3 := dp_bd ax ay bx bY bx bY ha hb hb
    have k6 := fun W => cRSign (dp ax ay bx bY px py) W (by omega)
    have k7 := fun W => cRSign (dp bx bY ax ay px py) W (by omega)
    have k8 := fun W => c7Opp (ar ax ay bx bY px py) W (by omega)
    have hfar := far_bd ax ay bx bY px py ha hb hp
    rw [pn_iff] at ha hb hp
    have m1 := mul49 (bx - ax) (bx - ax) (by omega) (by omega) (by omega) (by omega)
    have m2 := mul49 (bY - ay) (bY - ay) (by omega) (by omega) (by omega) (by omega)
    have k9 := fun W => cRMul (bx - ax) (bx - ax) W (by omega) (by omega) (by omega) (by omega)
    have k10 := fun W => cRMul (bY - ay) (bY - ay) W (by omega) (by omega) (by omega) (by omega)
    have k11 := fun W => cRAdd ((bx - ax) * (bx - ax)) ((bY - ay) * (bY - ay)) W (by omega) (by omega)
    rw [cw_yes _ (by omega) (by omega), fw_yes _ (by omega) (by omega)] at k11
    have k12 := fun W => cRRoot (dp ax ay bx bY bx bY) W (by omega)
    have eD : (bx - ax) * (bx - ax) + (bY - ay) * (bY - ay) = dp ax ay bx bY bx bY := rfl
    rw [eD] at k11
    unfold wn at E0
    unfold lg at E0 hfar
    have q0 := sgn_neg' (ar ax ay bx bY px py)
    rw [← S0] at q0
    have q1 := cmp3_neg (dp ax ay bx bY px py)
    have q2 := cmp3_neg (dp bx bY ax ay px py)
    clear S0 hp
    generalize bh ax ay bx bY px py = V at *
    generalize dp ax ay bx bY bx bY = D at *
    generalize sd ax ay bx bY px py = sg at *
    generalize ar ax ay bx bY px py = A at *
    generalize dp ax ay bx bY px py = dA at *
    generalize dp bx bY ax ay px py = dB at *
    generalize cmp3 dA 0 = z1 at *
    generalize cmp3 dB 0 = z2 at *
    rcases (show 0 ≤ A ∨ (A < 0 ∧ dA < 0) ∨ (A < 0 ∧ 0 ≤ dA ∧ dB < 0) ∨ (A < 0 ∧ 0 ≤ dA ∧ 0 ≤ dB) by omega) with h | ⟨h, h1⟩ | ⟨h, h1, h2⟩ | ⟨h, h1, h2⟩
    · have EV : Hid (V = 0) := Lib.hid (by rw [E0, if_neg (by simp; omega)])
      have u1 : 0 ≤ sg := (by omega)
      generalize decide (dA < 0) = g1 at *
      generalize decide (dB < 0) = g2 at *
      generalize (dA.natAbs : Int) = n1 at *
      generalize (dB.natAbs : Int) = n2 at *
      clear E0 k5 k8 k9 k10 k11 k12 hfar m1 m2 b1 b2 b3 bd q0 q1 q2 eD
      go_enter Try.func16, Try.ntmps16
      go_wp2_with (fail)
      (go_at_call 22; (with_reducible refine (k1 _ _ (by simp [go_sem]) (by simp [go_sem]) (by simp [go_sem]) (by simp [go_sem]) (by simp [go_sem]) (by simp [go_sem])).mono ?_); rintro e w1 ⟨rfl, hM⟩)
      have B0 : Bk (w.heap.size) 0 [.int .i64 ax, .int .i64 ay] w1 := Bk.later (by simp [Bk, go_sem]; done) hM
      have B1 : Bk (w.heap.size + 1) 0 [.int .i64 bx, .int .i64 bY] w1 := Bk.later (by simp [Bk, go_sem]; done) hM
      have B2 : Bk (w.heap.size + 1 + 1) 0 [.int .i64 px, .int .i64 py] w1 := Bk.later (by simp [Bk, go_sem]; done) hM
      have HB : Below w.heap.size w w1 := by (repeat (first | with_reducible assumption | with_reducible exact Below.refl _ _ | ((with_reducible refine Below.setCell ?_ ?_ _); rotate_left; (first | exact Nat.le_refl _ | (dsimp only; omega) | (simp; done) | (simp; omega))) | with_reducible refine below_alloc ?_ _ | with_reducible apply below_drewN | with_reducible apply Below.drew | with_reducible refine below_step ?_ (by assumption)))
      have C_B0 := B0; simp only [Bk] at C_B0
      have C_B1 := B1; simp only [Bk] at C_B1
      have C_B2 := B2; simp only [Bk] at C_B2
      clear hM k1
      go_wp2_with (first | (go_at_call 11; (with_reducible refine (k2 _).mono ?_); rintro e9 w1 ⟨rfl, hM⟩; (first | have HB : Below w.heap.size w _ := below_step HB hM | have HB : Below w.heap.size w _ := below_step (W := _) (by (repeat (first | with_reducible assumption | with_reducible exact Below.refl _ _ | ((with_reducible refine Below.setCell ?_ ?_ _); rotate_left; (first | exact Nat.le_refl _ | (dsimp only; omega) | (simp; done) | (simp; omega))) | with_reducible refine below_alloc ?_ _ | with_reducible apply below_drewN | with_reducible apply Below.drew | with_reducible refine below_step ?_ (by assumption)))) hM); (first | have B0 := Bk.later B0 hM | have B0 := Bk.later (Bk.alloc B0 _) hM | have B0 := Bk.later (Bk.alloc (Bk.alloc B0 _) _) hM); have C_B0 := B0; simp only [Bk] at C_B0; (first | have B1 := Bk.later B1 hM | have B1 := Bk.later (Bk.alloc B1 _) hM | have B1 := Bk.later (Bk.alloc (Bk.alloc B1 _) _) hM); have C_B1 := B1; simp only [Bk] at C_B1; (first | have B2 := Bk.later B2 hM | have B2 := Bk.later (Bk.alloc B2 _) hM | have B2 := Bk.later (Bk.alloc (Bk.alloc B2 _) _) hM); have C_B2 := B2; simp only [Bk] at C_B2) | (go_at_call 39; (with_reducible refine (k3 _).mono ?_); rintro e9 w1 ⟨rfl, hM⟩; (first | have HB : Below w.heap.size w _ := below_step HB hM | have HB : Below w.heap.size w _ := below_step (W := _) (by (repeat (first | with_reducible assumption | with_reducible exact Below.refl _ _ | ((with_reducible refine Below.setCell ?_ ?_ _); rotate_left; (first | exact Nat.le_refl _ | (dsimp only; omega) | (simp; done) | (simp; omega))) | with_reducible refine below_alloc ?_ _ | with_reducible apply below_drewN | with_reducible apply Below.drew | with_reducible refine below_step ?_ (by assumption)))) hM); (first | have B0 := Bk.later B0 hM | have B0 := Bk.later (Bk.alloc B0 _) hM | have B0 := Bk.later (Bk.alloc (Bk.alloc B0 _) _) hM); have C_B0 := B0; simp only [Bk] at C_B0; (first | have B1 := Bk.later B1 hM | have B1 := Bk.later (Bk.alloc B1 _) hM | have B1 := Bk.later (Bk.alloc (Bk.alloc B1 _) _) hM); have C_B1 := B1; simp only [Bk] at C_B1; (first | have B2 := Bk.later B2 hM | have B2 := Bk.later (Bk.alloc B2 _) hM | have B2 := Bk.later (Bk.alloc (Bk.alloc B2 _) _) hM); have C_B2 := B2; simp only [Bk] at C_B2) | (go_at_call 23; (with_reducible refine (k6 _).mono ?_); rintro e9 w1 ⟨rfl, hM⟩; (first | have HB : Below w.heap.size w _ := below_step HB hM | have HB : Below w.heap.size w _ := below_step (W := _) (by (repeat (first | with_reducible assumption | with_reducible exact Below.refl _ _ | ((with_reducible refine Below.setCell ?_ ?_ _); rotate_left; (first | exact Nat.le_refl _ | (dsimp only; omega) | (simp; done) | (simp; omega))) | with_reducible refine below_alloc ?_ _ | with_reducible apply below_drewN | with_reducible apply Below.drew | with_reducible refine below_step ?_ (by assumption)))) hM); (first | have B0 := Bk.later B0 hM | have B0 := Bk.later (Bk.alloc B0 _) hM | have B0 := Bk.later (Bk.alloc (Bk.alloc B0 _) _) hM); have C_B0 := B0; simp only [Bk] at C_B0; (first | have B1 := Bk.later B1 hM | have B1 := Bk.later (Bk.alloc B1 _) hM | have B1 := Bk.later (Bk.alloc (Bk.alloc B1 _) _) hM); have C_B1 := B1; simp only [Bk] at C_B1; (first | have B2 := Bk.later B2 hM | have B2 := Bk.later (Bk.alloc B2 _) hM | have B2 := Bk.later (Bk.alloc (Bk.alloc B2 _) _) hM); have C_B2 := B2; simp only [Bk] at C_B2) | (go_at_call 39; (with_reducible refine (k4 _).mono ?_); rintro e9 w1 ⟨rfl, hM⟩; (first | have HB : Below w.heap.size w _ := below_step HB hM | have HB : Below w.heap.size w _ := below_step (W := _) (by (repeat (first | with_reducible assumption | with_reducible exact Below.refl _ _ | ((with_reducible refine Below.setCell ?_ ?_ _); rotate_left; (first | exact Nat.le_refl _ | (dsimp only; omega) | (simp; done) | (simp; omega))) | with_reducible refine below_alloc ?_ _ | with_reducible apply below_drewN | with_reducible apply Below.drew | with_reducible refine below_step ?_ (by assumption)))) hM); (first | have B0 := Bk.later B0 hM | have B0 := Bk.later (Bk.alloc B0 _) hM | have B0 := Bk.later (Bk.alloc (Bk.alloc B0 _) _) hM); have C_B0 := B0; simp only [Bk] at C_B0; (first | have B1 := Bk.later B1 hM | have B1 := Bk.later (Bk.alloc B1 _) hM | have B1 := Bk.later (Bk.alloc (Bk.alloc B1 _) _) hM); have C_B1 := B1; simp only [Bk] at C_B1; (first | have B2 := Bk.later B2 hM | have B2 := Bk.later (Bk.alloc B2 _) hM | have B2 := Bk.later (Bk.alloc (Bk.alloc B2 _) _) hM); have C_B2 := B2; simp only [Bk] at C_B2) | (go_at_call 23; (with_reducible refine (k7 _).mono ?_); rintro e9 w1 ⟨rfl, hM⟩; (first | have HB : Below w.heap.size w _ := below_step HB hM | have HB : Below w.heap.size w _ := below_step (W := _) (by (repeat (first | with_reducible assumption | with_reducible exact Below.refl _ _ | ((with_reducible refine Below.setCell ?_ ?_ _); rotate_left; (first | exact Nat.le_refl _ | (dsimp only; omega) | (simp; done) | (simp; omega))) | with_reducible refine below_alloc ?_ _ | with_reducible apply below_drewN | with_reducible apply Below.drew | with_reducible refine below_step ?_ (by assumption)))) hM); (first | have B0 := Bk.later B0 hM | have B0 := Bk.later (Bk.alloc B0 _) hM | have B0 := Bk.later (Bk.alloc (Bk.alloc B0 _) _) hM); have C_B0 := B0; simp only [Bk] at C_B0; (first | have B1 := Bk.later B1 hM | have B1 := Bk.later (Bk.alloc B1 _) hM | have B1 := Bk.later (Bk.alloc (Bk.alloc B1 _) _) hM); have C_B1 := B1; simp only [Bk] at C_B1; (first | have B2 := Bk.later B2 hM | have B2 := Bk.later (Bk.alloc B2 _) hM | have B2 := Bk.later (Bk.alloc (Bk.alloc B2 _) _) hM); have C_B2 := B2; simp only [Bk] at C_B2))
      go_ret
      exact ⟨by rw [EV.out] <;> rfl, by first | exact HB | (repeat (first | with_reducible assumption | with_reducible exact Below.refl _ _ | ((with_reducible refine Below.setCell ?_ ?_ _); rotate_left; (first | exact Nat.le_refl _ | (dsimp only; omega) | (simp; done) | (simp; omega))) | with_reducible refine below_alloc ?_ _ | with_reducible apply below_drewN | with_reducible apply Below.drew | with_reducible refine below_step ?_ (by assumption)))⟩
    · have EV : Hid (V = 0) := Lib.hid (by rw [E0, if_neg (by simp; omega)])
      have u1 : ¬ 0 ≤ sg := (by omega); have u2 : z1 < 0 := (by omega)
      generalize decide (dA < 0) = g1 at *
      generalize decide (dB < 0) = g2 at *
      generalize (dA.natAbs : Int) = n1 at *
      generalize (dB.natAbs : Int) = n2 at *
      clear E0 k5 k8 k9 k10 k11 k12 hfar m1 m2 b1 b2 b3 bd q0 q1 q2 eD
      go_enter Try.func16, Try.ntmps16
      go_wp2_with (fail)
      (go_at_call 22; (with_reducible refine (k1 _ _ (by simp [go_sem]) (by simp [go_sem]) (by simp [go_sem]) (by simp [go_sem]) (by simp [go_sem]) (by simp [go_sem])).mono ?_); rintro e w1 ⟨rfl, hM⟩)
      have B0 : Bk (w.heap.size) 0 [.int .i64 ax, .int .i64 ay] w1 := Bk.later (by simp [Bk, go_sem]; done) hM
      have B1 : Bk (w.heap.size + 1) 0 [.int .i64 bx, .int .i64 bY] w1 := Bk.later (by simp [Bk, go_sem]; done) hM
      have B2 : Bk (w.heap.size + 1 + 1) 0 [.int .i64 px, .int .i64 py] w1 := Bk.later (by simp [Bk, go_sem]; done) hM
      have HB : Below w.heap.size w w1 := by (repeat (first | with_reducible assumption | with_reducible exact Below.refl _ _ | ((with_reducible refine Below.setCell ?_ ?_ _); rotate_left; (first | exact Nat.le_refl _ | (dsimp only; omega) | (simp; done) | (simp; omega))) | with_reducible refine below_alloc ?_ _ | with_reducible apply below_drewN | with_reducible apply Below.drew | with_reducible refine below_step ?_ (by assumption)))
      have C_B0 := B0; simp only [Bk] at C_B0
      have C_B1 := B1; simp only [Bk] at C_B1
      have C_B2 := B2; simp only [Bk] at C_B2
      clear hM k1
      go_wp2_with (first | (go_at_call 11; (with_reducible refine (k2 _).mono ?_); rintro e9 w1 ⟨rfl, hM⟩; (first | have HB : Below w.heap.size w _ := below_step HB hM | have HB : Below w.heap.size w _ := below_step (W := _) (by (repeat (first | with_reducible assumption | with_reducible exact Below.refl _ _ | ((with_reducible refine Below.setCell ?_ ?_ _); rotate_left; (first | exact Nat.le_refl _ | (dsimp only; omega) | (simp; done) | (simp; omega))) | with_reducible refine below_alloc ?_ _ | with_reducible apply below_drewN | with_reducible apply Below.drew | with_reducible refine below_step ?_ (by assumption)))) hM); (first | have B0 := Bk.later B0 hM | have B0 := Bk.later (Bk.alloc B0 _) hM | have B0 := Bk.later (Bk.alloc (Bk.alloc B0 _) _) hM); have C_B0 := B0; simp only [Bk] at C_B0; (first | have B1 := Bk.later B1 hM | have B1 := Bk.later (Bk.alloc B1 _) hM | have B1 := Bk.later (Bk.alloc (Bk.alloc B1 _) _) hM); have C_B1 := B1; simp only [Bk] at C_B1; (first | have B2 := Bk.later B2 hM | have B2 := Bk.later (Bk.alloc B2 _) hM | have B2 := Bk.later (Bk.alloc (Bk.alloc B2 _) _) hM); have C_B2 := B2; simp only [Bk] at C_B2) | (go_at_call 39; (with_reducible refine (k3 _).mono ?_); rintro e9 w1 ⟨rfl, hM⟩; (first | have HB : Below w.heap.size w _ := below_step HB hM | have HB : Below w.heap.size w _ := below_step (W := _) (by (repeat (first | with_reducible assumption | with_reducible exact Below.refl _ _ | ((with_reducible refine Below.setCell ?_ ?_ _); rotate_left; (first | exact Nat.le_refl _ | (dsimp only; omega) | (simp; done) | (simp; omega))) | with_reducible refine below_alloc ?_ _ | with_reducible apply below_drewN | with_reducible apply Below.drew | with_reducible refine below_step ?_ (by assumption)))) hM); (first | have B0 := Bk.later B0 hM | have B0 := Bk.later (Bk.alloc B0 _) hM | have B0 := Bk.later (Bk.alloc (Bk.alloc B0 _) _) hM); have C_B0 := B0; simp only [Bk] at C_B0; (first | have B1 := Bk.later B1 hM | have B1 := Bk.later (Bk.alloc B1 _) hM | have B1 := Bk.later (Bk.alloc (Bk.alloc B1 _) _) hM); have C_B1 := B1; simp only [Bk] at C_B1; (first | have B2 := Bk.later B2 hM | have B2 := Bk.later (Bk.alloc B2 _) hM | have B2 := Bk.later (Bk.alloc (Bk.alloc B2 _) _) hM); have C_B2 := B2; simp only [Bk] at C_B2) | (go_at_call 23; (with_reducible refine (k6 _).mono ?_); rintro e9 w1 ⟨rfl, hM⟩; (first | have HB : Below w.heap.size w _ := below_step HB hM | have HB : Below w.heap.size w _ := below_step (W := _) (by (repeat (first | with_reducible assumption | with_reducible exact Below.refl _ _ | ((with_reducible refine Below.setCell ?_ ?_ _); rotate_left; (first | exact Nat.le_refl _ | (dsimp only; omega) | (simp; done) | (simp; omega))) | with_reducible refine below_alloc ?_ _ | with_reducible apply below_drewN | with_reducible apply Below.drew | with_reducible refine below_step ?_ (by assumption)))) hM); (first | have B0 := Bk.later B0 hM | have B0 := Bk.later (Bk.alloc B0 _) hM | have B0 := Bk.later (Bk.alloc (Bk.alloc B0 _) _) hM); have C_B0 := B0; simp only [Bk] at C_B0; (first | have B1 := Bk.later B1 hM | have B1 := Bk.later (Bk.alloc B1 _) hM | have B1 := Bk.later (Bk.alloc (Bk.alloc B1 _) _) hM); have C_B1 := B1; simp only [Bk] at C_B1; (first | have B2 := Bk.later B2 hM | have B2 := Bk.later (Bk.alloc B2 _) hM | have B2 := Bk.later (Bk.alloc (Bk.alloc B2 _) _) hM); have C_B2 := B2; simp only [Bk] at C_B2) | (go_at_call 39; (with_reducible refine (k4 _).mono ?_); rintro e9 w1 ⟨rfl, hM⟩; (first | have HB : Below w.heap.size w _ := below_step HB hM | have HB : Below w.heap.size w _ := below_step (W := _) (by (repeat (first | with_reducible assumption | with_reducible exact Below.refl _ _ | ((with_reducible refine Below.setCell ?_ ?_ _); rotate_left; (first | exact Nat.le_refl _ | (dsimp only; omega) | (simp; done) | (simp; omega))) | with_reducible refine below_alloc ?_ _ | with_reducible apply below_drewN | with_reducible apply Below.drew | with_reducible refine below_step ?_ (by assumption)))) hM); (first | have B0 := Bk.later B0 hM | have B0 := Bk.later (Bk.alloc B0 _) hM | have B0 := Bk.later (Bk.alloc (Bk.alloc B0 _) _) hM); have C_B0 := B0; simp only [Bk] at C_B0; (first | have B1 := Bk.later B1 hM | have B1 := Bk.later (Bk.alloc B1 _) hM | have B1 := Bk.later (Bk.alloc (Bk.alloc B1 _) _) hM); have C_B1 := B1; simp only [Bk] at C_B1; (first | have B2 := Bk.later B2 hM | have B2 := Bk.later (Bk.alloc B2 _) hM | have B2 := Bk.later (Bk.alloc (Bk.alloc B2 _) _) hM); have C_B2 := B2; simp only [Bk] at C_B2) | (go_at_call 23; (with_reducible refine (k7 _).mono ?_); rintro e9 w1 ⟨rfl, hM⟩; (first | have HB : Below w.heap.size w _ := below_step HB hM | have HB : Below w.heap.size w _ := below_step (W := _) (by (repeat (first | with_reducible assumption | with_reducible exact Below.refl _ _ | ((with_reducible refine Below.setCell ?_ ?_ _); rotate_left; (first | exact Nat.le_refl _ | (dsimp only; omega) | (simp; done) | (simp; omega))) | with_reducible refine below_alloc ?_ _ | with_reducible apply below_drewN | with_reducible apply Below.drew | with_reducible refine below_step ?_ (by assumption)))) hM); (first | have B0 := Bk.later B0 hM | have B0 := Bk.later (Bk.alloc B0 _) hM | have B0 := Bk.later (Bk.alloc (Bk.alloc B0 _) _) hM); have C_B0 := B0; simp only [Bk] at C_B0; (first | have B1 := Bk.later B1 hM | have B1 := Bk.later (Bk.alloc B1 _) hM | have B1 := Bk.later (Bk.alloc (Bk.alloc B1 _) _) hM); have C_B1 := B1; simp only [Bk] at C_B1; (first | have B2 := Bk.later B2 hM | have B2 := Bk.later (Bk.alloc B2 _) hM | have B2 := Bk.later (Bk.alloc (Bk.alloc B2 _) _) hM); have C_B2 := B2; simp only [Bk] at C_B2))
      go_ret
      exact ⟨by rw [EV.out] <;> rfl, by first | exact HB | (repeat (first | with_reducible assumption | with_reducible exact Below.refl _ _ | ((with_reducible refine Below.setCell ?_ ?_ _); rotate_left; (first | exact Nat.le_refl _ | (dsimp only; omega) | (simp; done) | (simp; omega))) | with_reducible refine below_alloc ?_ _ | with_reducible apply below_drewN | with_reducible apply Below.drew | with_reducible refine below_step ?_ (by assumption)))⟩
    · have EV : Hid (V = 0) := Lib.hid (by rw [E0, if_neg (by simp; omega)])
      have u1 : ¬ 0 ≤ sg := (by omega); have u2 : ¬ z1 < 0 := (by omega); have u3 : z2 < 0 := (by omega)
      generalize decide (dA < 0) = g1 at *
      generalize decide (dB < 0) = g2 at *
      generalize (dA.natAbs : Int) = n1 at *
      generalize (dB.natAbs : Int) = n2 at *
      clear E0 k5 k8 k9 k10 k11 k12 hfar m1 m2 b1 b2 b3 bd q0 q1 q2 eD
      go_enter Try.func16, Try.ntmps16
      go_wp2_with (fail)
      (go_at_call 22; (with_reducible refine (k1 _ _ (by simp [go_sem]) (by simp [go_sem]) (by simp [go_sem]) (by simp [go_sem]) (by simp [go_sem]) (by simp [go_sem])).mono ?_); rintro e w1 ⟨rfl, hM⟩)
      have B0 : Bk (w.heap.size) 0 [.int .i64 ax, .int .i64 ay] w1 := Bk.later (by simp [Bk, go_sem]; done) hM
      have B1 : Bk (w.heap.size + 1) 0 [.int .i64 bx, .int .i64 bY] w1 := Bk.later (by simp [Bk, go_sem]; done) hM
      have B2 : Bk (w.heap.size + 1 + 1) 0 [.int .i64 px, .int .i64 py] w1 := Bk.later (by simp [Bk, go_sem]; done) hM
      have HB : Below w.heap.size w w1 := by (repeat (first | with_reducible assumption | with_reducible exact Below.refl _ _ | ((with_reducible refine Below.setCell ?_ ?_ _); rotate_left; (first | exact Nat.le_refl _ | (dsimp only; omega) | (simp; done) | (simp; omega))) | with_reducible refine below_alloc ?_ _ | with_reducible apply below_drewN | with_reducible apply Below.drew | with_reducible refine below_step ?_ (by assumption)))
      have C_B0 := B0; simp only [Bk] at C_B0
      have C_B1 := B1; simp only [Bk] at C_B1
      have C_B2 := B2; simp only [Bk] at C_B2
      clear hM k1
      go_wp2_with (first | (go_at_call 11; (with_reducible refine (k2 _).mono ?_); rintro e9 w1 ⟨rfl, hM⟩; (first | have HB : Below w.heap.size w _ := below_step HB hM | have HB : Below w.heap.size w _ := below_step (W := _) (by (repeat (first | with_reducible assumption | with_reducible exact Below.refl _ _ | ((with_reducible refine Below.setCell ?_ ?_ _); rotate_left; (first | exact Nat.le_refl _ | (dsimp only; omega) | (simp; done) | (simp; omega))) | with_reducible refine below_alloc ?_ _ | with_reducible apply below_drewN | with_reducible apply Below.drew | with_reducible refine below_step ?_ (by assumption)))) hM); (first | have B0 := Bk.later B0 hM | have B0 := Bk.later (Bk.alloc B0 _) hM | have B0 := Bk.later (Bk.alloc (Bk.alloc B0 _) _) hM); have C_B0 := B0; simp only [Bk] at C_B0; (first | have B1 := Bk.later B1 hM | have B1 := Bk.later (Bk.alloc B1 _) hM | have B1 := Bk.later (Bk.alloc (Bk.alloc B1 _) _) hM); have C_B1 := B1; simp only [Bk] at C_B1; (first | have B2 := Bk.later B2 hM | have B2 := Bk.later (Bk.alloc B2 _) hM | have B2 := Bk.later (Bk.alloc (Bk.alloc B2 _) _) hM); have C_B2 := B2; simp only [Bk] at C_B2) | (go_at_call 39; (with_reducible refine (k3 _).mono ?_); rintro e9 w1 ⟨rfl, hM⟩; (first | have HB : Below w.heap.size w _ := below_step HB hM | have HB : Below w.heap.size w _ := below_step (W := _) (by (repeat (first | with_reducible assumption | with_reducible exact Below.refl _ _ | ((with_reducible refine Below.setCell ?_ ?_ _); rotate_left; (first | exact Nat.le_refl _ | (dsimp only; omega) | (simp; done) | (simp; omega))) | with_reducible refine below_alloc ?_ _ | with_reducible apply below_drewN | with_reducible apply Below.drew | with_reducible refine below_step ?_ (by assumption)))) hM); (first | have B0 := Bk.later B0 hM | have B0 := Bk.later (Bk.alloc B0 _) hM | have B0 := Bk.later (Bk.alloc (Bk.alloc B0 _) _) hM); have C_B0 := B0; simp only [Bk] at C_B0; (first | have B1 := Bk.later B1 hM | have B1 := Bk.later (Bk.alloc B1 _) hM | have B1 := Bk.later (Bk.alloc (Bk.alloc B1 _) _) hM); have C_B1 := B1; simp only [Bk] at C_B1; (first | have B2 := Bk.later B2 hM | have B2 := Bk.later (Bk.alloc B2 _) hM | have B2 := Bk.later (Bk.alloc (Bk.alloc B2 _) _) hM); have C_B2 := B2; simp only [Bk] at C_B2) | (go_at_call 23; (with_reducible refine (k6 _).mono ?_); rintro e9 w1 ⟨rfl, hM⟩; (first | have HB : Below w.heap.size w _ := below_step HB hM | have HB : Below w.heap.size w _ := below_step (W := _) (by (repeat (first | with_reducible assumption | with_reducible exact Below.refl _ _ | ((with_reducible refine Below.setCell ?_ ?_ _); rotate_left; (first | exact Nat.le_refl _ | (dsimp only; omega) | (simp; done) | (simp; omega))) | with_reducible refine below_alloc ?_ _ | with_reducible apply below_drewN | with_reducible apply Below.drew | with_reducible refine below_step ?_ (by assumption)))) hM); (first | have B0 := Bk.later B0 hM | have B0 := Bk.later (Bk.alloc B0 _) hM | have B0 := Bk.later (Bk.alloc (Bk.alloc B0 _) _) hM); have C_B0 := B0; simp only [Bk] at C_B0; (first | have B1 := Bk.later B1 hM | have B1 := Bk.later (Bk.alloc B1 _) hM | have B1 := Bk.later (Bk.alloc (Bk.alloc B1 _) _) hM); have C_B1 := B1; simp only [Bk] at C_B1; (first | have B2 := Bk.later B2 hM | have B2 := Bk.later (Bk.alloc B2 _) hM | have B2 := Bk.later (Bk.alloc (Bk.alloc B2 _) _) hM); have C_B2 := B2; simp only [Bk] at C_B2) | (go_at_call 39; (with_reducible refine (k4 _).mono ?_); rintro e9 w1 ⟨rfl, hM⟩; (first | have HB : Below w.heap.size w _ := below_step HB hM | have HB : Below w.heap.size w _ := below_step (W := _) (by (repeat (first | with_reducible assumption | with_reducible exact Below.refl _ _ | ((with_reducible refine Below.setCell ?_ ?_ _); rotate_left; (first | exact Nat.le_refl _ | (dsimp only; omega) | (simp; done) | (simp; omega))) | with_reducible refine below_alloc ?_ _ | with_reducible apply below_drewN | with_reducible apply Below.drew | with_reducible refine below_step ?_ (by assumption)))) hM); (first | have B0 := Bk.later B0 hM | have B0 := Bk.later (Bk.alloc B0 _) hM | have B0 := Bk.later (Bk.alloc (Bk.alloc B0 _) _) hM); have C_B0 := B0; simp only [Bk] at C_B0; (first | have B1 := Bk.later B1 hM | have B1 := Bk.later (Bk.alloc B1 _) hM | have B1 := Bk.later (Bk.alloc (Bk.alloc B1 _) _) hM); have C_B1 := B1; simp only [Bk] at C_B1; (first | have B2 := Bk.later B2 hM | have B2 := Bk.later (Bk.alloc B2 _) hM | have B2 := Bk.later (Bk.alloc (Bk.alloc B2 _) _) hM); have C_B2 := B2; simp only [Bk] at C_B2) | (go_at_call 23; (with_reducible refine (k7 _).mono ?_); rintro e9 w1 ⟨rfl, hM⟩; (first | have HB : Below w.heap.size w _ := below_step HB hM | have HB : Below w.heap.size w _ := below_step (W := _) (by (repeat (first | with_reducible assumption | with_reducible exact Below.refl _ _ | ((with_reducible refine Below.setCell ?_ ?_ _); rotate_left; (first | exact Nat.le_refl _ | (dsimp only; omega) | (simp; done) | (simp; omega))) | with_reducible refine below_alloc ?_ _ | with_reducible apply below_drewN | with_reducible apply Below.drew | with_reducible refine below_step ?_ (by assumption)))) hM); (first | have B0 := Bk.later B0 hM | have B0 := Bk.later (Bk.alloc B0 _) hM | have B0 := Bk.later (Bk.alloc (Bk.alloc B0 _) _) hM); have C_B0 := B0; simp only [Bk] at C_B0; (first | have B1 := Bk.later B1 hM | have B1 := Bk.later (Bk.alloc B1 _) hM | have B1 := Bk.later (Bk.alloc (Bk.alloc B1 _) _) hM); have C_B1 := B1; simp only [Bk] at C_B1; (first | have B2 := Bk.later B2 hM | have B2 := Bk.later (Bk.alloc B2 _) hM | have B2 := Bk.later (Bk.alloc (Bk.alloc B2 _) _) hM); have C_B2 := B2; simp only [Bk] at C_B2))
      go_ret
      exact ⟨by rw [EV.out] <;> rfl, by first | exact HB | (repeat (first | with_reducible assumption | with_reducible exact Below.refl _ _ | ((with_reducible refine Below.setCell ?_ ?_ _); rotate_left; (first | exact Nat.le_refl _ | (dsimp only; omega) | (simp; done) | (simp; omega))) | with_reducible refine below_alloc ?_ _ | with_reducible apply below_drewN | with_reducible apply Below.drew | with_reducible refine below_step ?_ (by assumption)))⟩
    · obtain ⟨L0, L1, D0, D1, hA⟩ := hfar h
      have EV : Hid (V = -(A / rt D)) := Lib.hid (by rw [E0, if_pos (by simp; omega)])
      have u1 : ¬ 0 ≤ sg := by omega
      have u2 : ¬ z1 < 0 := by omega
      have u3 : ¬ z2 < 0 := by omega
      have kC := fun (m : Int) (h0 : 0 ≤ m) (h1 : m ≤ 9223372036854775807) W => cRMul m (rt D) W (by omega) (by omega) (by omega) (by omega)
      have kD := fun (m : Int) (h0 : 0 ≤ m) (h1 : m ≤ 9223372036854775807) W => cRCmp (m * rt D) (-A) W (by have := mul_bd m (rt D) (by omega) (by omega) (by omega) (by omega); omega) (by omega)
      generalize rt D = L at *
      generalize decide (D < 0) = gD at *
      generalize (D.natAbs : Int) = nD at *
      generalize decide ((bx - ax) * (bx - ax) < 0) = gx at *
      generalize (((bx - ax) * (bx - ax)).natAbs : Int) = nx at *
      generalize decide ((bY - ay) * (bY - ay) < 0) = gy at *
      generalize (((bY - ay) * (bY - ay)).natAbs : Int) = ny at *
      generalize decide (dA < 0) = g1 at *
      generalize decide (dB < 0) = g2 at *
      generalize (dA.natAbs : Int) = n1 at *
      generalize (dB.natAbs : Int) = n2 at *
      generalize decide (-A < 0) = gA at *
      generalize ((-A).natAbs : Int) = nA at *
      generalize decide (A < 0) = hA' at *
      generalize (A.natAbs : Int) = mA at *
      clear E0 hfar m1 m2 b1 b2 b3 q0 q1 q2 eD
      go_enter Try.func16, Try.ntmps16
      go_wp2_with (fail)
      (go_at_call 22; (with_reducible refine (k1 _ _ (by simp [go_sem]) (by simp [go_sem]) (by simp [go_sem]) (by simp [go_sem]) (by simp [go_sem]) (by simp [go_sem])).mono ?_); rintro e w1 ⟨rfl, hM⟩)
      have B0 : Bk (w.heap.size) 0 [.int .i64 ax, .int .i64 ay] w1 := Bk.later (by simp [Bk, go_sem]; done) hM
      have B1 : Bk (w.heap.size + 1) 0 [.int .i64 bx, .int .i64 bY] w1 := Bk.later (by simp [Bk, go_sem]; done) hM
      have B2 : Bk (w.heap.size + 1 + 1) 0 [.int .i64 px, .int .i64 py] w1 := Bk.later (by simp [Bk, go_sem]; done) hM
      have HB : Below w.heap.size w w1 := by (repeat (first | with_reducible assumption | with_reducible exact Below.refl _ _ | ((with_reducible refine Below.setCell ?_ ?_ _); rotate_left; (first | exact Nat.le_refl _ | (dsimp only; omega) | (simp; done) | (simp; omega))) | with_reducible refine below_alloc ?_ _ | with_reducible apply below_drewN | with_reducible apply Below.drew | with_reducible refine below_step ?_ (by assumption)))
      have C_B0 := B0; simp only [Bk] at C_B0
      have C_B1 := B1; simp only [Bk] at C_B1
      have C_B2 := B2; simp only [Bk] at C_B2
      clear hM k1
      go_upto_region 3 with (first | (go_at_call 11; (with_reducible refine (k2 _).mono ?_); rintro e9 w1 ⟨rfl, hM⟩; (first | have HB : Below w.heap.size w _ := below_step HB hM | have HB : Below w.heap.size w _ := below_step (W := _) (by (repeat (first | with_reducible assumption | with_reducible exact Below.refl _ _ | ((with_reducible refine Below.setCell ?_ ?_ _); rotate_left; (first | exact Nat.le_refl _ | (dsimp only; omega) | (simp; done) | (simp; omega))) | with_reducible refine below_alloc ?_ _ | with_reducible apply below_drewN | with_reducible apply Below.drew | with_reducible refine below_step ?_ (by assumption)))) hM); (first | have B0 := Bk.later B0 hM | have B0 := Bk.later (Bk.alloc B0 _) hM | have B0 := Bk.later (Bk.alloc (Bk.alloc B0 _) _) hM); have C_B0 := B0; simp only [Bk] at C_B0; (first | have B1 := Bk.later B1 hM | have B1 := Bk.later (Bk.alloc B1 _) hM | have B1 := Bk.later (Bk.alloc (Bk.alloc B1 _) _) hM); have C_B1 := B1; simp only [Bk] at C_B1; (first | have B2 := Bk.later B2 hM | have B2 := Bk.later (Bk.alloc B2 _) hM | have B2 := Bk.later (Bk.alloc (Bk.alloc B2 _) _) hM); have C_B2 := B2; simp only [Bk] at C_B2) | (go_at_call 39; (with_reducible refine (k3 _).mono ?_); rintro e9 w1 ⟨rfl, hM⟩; (first | have HB : Below w.heap.size w _ := below_step HB hM | have HB : Below w.heap.size w _ := below_step (W := _) (by (repeat (first | with_reducible assumption | with_reducible exact Below.refl _ _ | ((with_reducible refine Below.setCell ?_ ?_ _); rotate_left; (first | exact Nat.le_refl _ | (dsimp only; omega) | (simp; done) | (simp; omega))) | with_reducible refine below_alloc ?_ _ | with_reducible apply below_drewN | with_reducible apply Below.drew | with_reducible refine below_step ?_ (by assumption)))) hM); (first | have B0 := Bk.later B0 hM | have B0 := Bk.later (Bk.alloc B0 _) hM | have B0 := Bk.later (Bk.alloc (Bk.alloc B0 _) _) hM); have C_B0 := B0; simp only [Bk] at C_B0; (first | have B1 := Bk.later B1 hM | have B1 := Bk.later (Bk.alloc B1 _) hM | have B1 := Bk.later (Bk.alloc (Bk.alloc B1 _) _) hM); have C_B1 := B1; simp only [Bk] at C_B1; (first | have B2 := Bk.later B2 hM | have B2 := Bk.later (Bk.alloc B2 _) hM | have B2 := Bk.later (Bk.alloc (Bk.alloc B2 _) _) hM); have C_B2 := B2; simp only [Bk] at C_B2) | (go_at_call 23; (with_reducible refine (k6 _).mono ?_); rintro e9 w1 ⟨rfl, hM⟩; (first | have HB : Below w.heap.size w _ := below_step HB hM | have HB : Below w.heap.size w _ := below_step (W := _) (by (repeat (first | with_reducible assumption | with_reducible exact Below.refl _ _ | ((with_reducible refine Below.setCell ?_ ?_ _); rotate_left; (first | exact Nat.le_refl _ | (dsimp only; omega) | (simp; done) | (simp; omega))) | with_reducible refine below_alloc ?_ _ | with_reducible apply below_drewN | with_reducible apply Below.drew | with_reducible refine below_step ?_ (by assumption)))) hM); (first | have B0 := Bk.later B0 hM | have B0 := Bk.later (Bk.alloc B0 _) hM | have B0 := Bk.later (Bk.alloc (Bk.alloc B0 _) _) hM); have C_B0 := B0; simp only [Bk] at C_B0; (first | have B1 := Bk.later B1 hM | have B1 := Bk.later (Bk.alloc B1 _) hM | have B1 := Bk.later (Bk.alloc (Bk.alloc B1 _) _) hM); have C_B1 := B1; simp only [Bk] at C_B1; (first | have B2 := Bk.later B2 hM | have B2 := Bk.later (Bk.alloc B2 _) hM | have B2 := Bk.later (Bk.alloc (Bk.alloc B2 _) _) hM); have C_B2 := B2; simp only [Bk] at C_B2) | (go_at_call 39; (with_reducible refine (k4 _).mono ?_); rintro e9 w1 ⟨rfl, hM⟩; (first | have HB : Below w.heap.size w _ := below_step HB hM | have HB : Below w.heap.size w _ := below_step (W := _) (by (repeat (first | with_reducible assumption | with_reducible exact Below.refl _ _ | ((with_reducible refine Below.setCell ?_ ?_ _); rotate_left; (first | exact Nat.le_refl _ | (dsimp only; omega) | (simp; done) | (simp; omega))) | with_reducible refine below_alloc ?_ _ | with_reducible apply below_drewN | with_reducible apply Below.drew | with_reducible refine below_step ?_ (by assumption)))) hM); (first | have B0 := Bk.later B0 hM | have B0 := Bk.later (Bk.alloc B0 _) hM | have B0 := Bk.later (Bk.alloc (Bk.alloc B0 _) _) hM); have C_B0 := B0; simp only [Bk] at C_B0; (first | have B1 := Bk.later B1 hM | have B1 := Bk.later (Bk.alloc B1 _) hM | have B1 := Bk.later (Bk.alloc (Bk.alloc B1 _) _) hM); have C_B1 := B1; simp only [Bk] at C_B1; (first | have B2 := Bk.later B2 hM | have B2 := Bk.later (Bk.alloc B2 _) hM | have B2 := Bk.later (Bk.alloc (Bk.alloc B2 _) _) hM); have C_B2 := B2; simp only [Bk] at C_B2) | (go_at_call 23; (with_reducible refine (k7 _).mono ?_); rintro e9 w1 ⟨rfl, hM⟩; (first | have HB : Below w.heap.size w _ := below_step HB hM | have HB : Below w.heap.size w _ := below_step (W := _) (by (repeat (first | with_reducible assumption | with_reducible exact Below.refl _ _ | ((with_reducible refine Below.setCell ?_ ?_ _); rotate_left; (first | exact Nat.le_refl _ | (dsimp only; omega) | (simp; done) | (simp; omega))) | with_reducible refine below_alloc ?_ _ | with_reducible apply below_drewN | with_reducible apply Below.drew | with_reducible refine below_step ?_ (by assumption)))) hM); (first | have B0 := Bk.later B0 hM | have B0 := Bk.later (Bk.alloc B0 _) hM | have B0 := Bk.later (Bk.alloc (Bk.alloc B0 _) _) hM); have C_B0 := B0; simp only [Bk] at C_B0; (first | have B1 := Bk.later B1 hM | have B1 := Bk.later (Bk.alloc B1 _) hM | have B1 := Bk.later (Bk.alloc (Bk.alloc B1 _) _) hM); have C_B1 := B1; simp only [Bk] at C_B1; (first | have B2 := Bk.later B2 hM | have B2 := Bk.later (Bk.alloc B2 _) hM | have B2 := Bk.later (Bk.alloc (Bk.alloc B2 _) _) hM); have C_B2 := B2; simp only [Bk] at C_B2))
      clear k2 k3 k4 k6 k7
      go_wp2_with (fail)
      (go_at_call 24; (with_reducible refine (k5 _).mono ?_); rintro e9 w1 ⟨rfl, hM⟩; (first | have HB : Below w.heap.size w _ := below_step HB hM | have HB : Below w.heap.size w _ := below_step (W := _) (by (repeat (first | with_reducible assumption | with_reducible exact Below.refl _ _ | ((with_reducible refine Below.setCell ?_ ?_ _); rotate_left; (first | exact Nat.le_refl _ | (dsimp only; omega) | (simp; done) | (simp; omega))) | with_reducible refine below_alloc ?_ _ | with_reducible apply below_drewN | with_reducible apply Below.drew | with_reducible refine below_step ?_ (by assumption)))) hM); (first | have B0 := Bk.later B0 hM | have B0 := Bk.later (Bk.alloc B0 _) hM | have B0 := Bk.later (Bk.alloc (Bk.alloc B0 _) _) hM); have C_B0 := B0; simp only [Bk] at C_B0; (first | have B1 := Bk.later B1 hM | have B1 := Bk.later (Bk.alloc B1 _) hM | have B1 := Bk.later (Bk.alloc (Bk.alloc B1 _) _) hM); have C_B1 := B1; simp only [Bk] at C_B1; (first | have B2 := Bk.later B2 hM | have B2 := Bk.later (Bk.alloc B2 _) hM | have B2 := Bk.later (Bk.alloc (Bk.alloc B2 _) _) hM); have C_B2 := B2; simp only [Bk] at C_B2)
      clear hM
      go_wp2_with (fail)
      (go_at_call 29; (with_reducible refine (k8 _).mono ?_); rintro e9 w1 ⟨rfl, hM⟩; (first | have HB : Below w.heap.size w _ := below_step HB hM | have HB : Below w.heap.size w _ := below_step (W := _) (by (repeat (first | with_reducible assumption | with_reducible exact Below.refl _ _ | ((with_reducible refine Below.setCell ?_ ?_ _); rotate_left; (first | exact Nat.le_refl _ | (dsimp only; omega) | (simp; done) | (simp; omega))) | with_reducible refine below_alloc ?_ _ | with_reducible apply below_drewN | with_reducible apply Below.drew | with_reducible refine below_step ?_ (by assumption)))) hM); (first | have B0 := Bk.later B0 hM | have B0 := Bk.later (Bk.alloc B0 _) hM | have B0 := Bk.later (Bk.alloc (Bk.alloc B0 _) _) hM); have C_B0 := B0; simp only [Bk] at C_B0; (first | have B1 := Bk.later B1 hM | have B1 := Bk.later (Bk.alloc B1 _) hM | have B1 := Bk.later (Bk.alloc (Bk.alloc B1 _) _) hM); have C_B1 := B1; simp only [Bk] at C_B1; (first | have B2 := Bk.later B2 hM | have B2 := Bk.later (Bk.alloc B2 _) hM | have B2 := Bk.later (Bk.alloc (Bk.alloc B2 _) _) hM); have C_B2 := B2; simp only [Bk] at C_B2)
      clear hM
      rename World => wa
      have hwa := HB.size
      go_wp2_with (fail)
      (go_at_call 40; (with_reducible refine (k9 _).mono ?_); rintro e9 w1 ⟨rfl, hM⟩)
      have G : Bk wa.heap.size 0 [.bool gA, .int .u64 (d0 nA), .int .u64 (d1 nA), .int .u64 (d2 nA), .int .u64 (d3 nA)] w1 := Bk.later (by simp [Bk, go_sem]) hM
      have HB : Below w.heap.size w w1 := by (repeat (first | with_reducible assumption | with_reducible exact Below.refl _ _ | ((with_reducible refine Below.setCell ?_ ?_ _); rotate_left; (first | exact Nat.le_refl _ | (dsimp only; omega) | (simp; done) | (simp; omega))) | with_reducible refine below_alloc ?_ _ | with_reducible apply below_drewN | with_reducible apply Below.drew | with_reducible refine below_step ?_ (by assumption)))
      clear hM
      go_wp2_with (fail)
      (go_at_call 40; (with_reducible refine (k10 _).mono ?_); rintro e9 w1 ⟨rfl, hM⟩)
      have G := G.later hM; have HB := below_step HB hM
      clear hM
      go_wp2_with (fail)
      (go_at_call 28; (with_reducible refine (k11 _).mono ?_); rintro e9 w1 ⟨rfl, hM⟩)
      have G := G.later hM; have HB := below_step HB hM
      clear hM
      rename World => wb
      have hwb := HB.size
      have hab := World.block_lt_of_cell? wb _ G.1
      go_wp2_with (fail)
      (go_at_call 41; (with_reducible refine (k12 _).mono ?_); rintro e9 w1 ⟨rfl, hM⟩)
      have G : Bk wa.heap.size 0 [.bool gA, .int .u64 (d0 nA), .int .u64 (d1 nA), .int .u64 (d2 nA), .int .u64 (d3 nA)] w1 := by (repeat (first | with_reducible assumption | with_reducible apply Bk.drew | with_reducible apply Bk.alloc | with_reducible apply Bk.later (hB := hR) | with_reducible apply Bk.later (hB := hM) | ((with_reducible apply Bk.later); rotate_left; (with_reducible assumption)) | ((with_reducible apply Bk.put); rotate_left; (first | (dsimp only; omega)))))
      have HB : Below w.heap.size w w1 := by (repeat (first | with_reducible assumption | with_reducible exact Below.refl _ _ | ((with_reducible refine Below.setCell ?_ ?_ _); rotate_left; (first | exact Nat.le_refl _ | (dsimp only; omega) | (simp; done) | (simp; omega))) | with_reducible refine below_alloc ?_ _ | with_reducible apply below_drewN | with_reducible apply Below.drew | with_reducible refine below_step ?_ (by assumption)))
      clear hM
      go_wp2
      go_loopw [13, 14] (fun n i wr => ∃ (j : Nat) (v K : Int), i = .int .i64 ((j : Int) - 1) ∧ j ≤ 63 ∧ n = .int .i64 v ∧ Hid (K = ((2 ^ j : Nat) : Int) ∧ Sr (-A) L v K ∧ v + K ≤ 9223372036854775808) ∧ Bk wa.heap.size 0 [.bool gA, .int .u64 (d0 nA), .int .u64 (d1 nA), .int .u64 (d2 nA), .int .u64 (d3 nA)] wr ∧ Below w.heap.size w wr) (fun n i _ => (RowKit.intOf i + 1).toNat)
      case atStart => exact ⟨63, 0, 9223372036854775808, by go_num, by omega, rfl, Lib.hid ⟨by decide, sr_start (q := 2251799813685248) (by omega) (by omega) (by rw [Int.mul_comm]; omega) (by decide), by decide⟩, G, by (repeat (first | with_reducible assumption | with_reducible exact Below.refl _ _ | ((with_reducible refine Below.setCell ?_ ?_ _); rotate_left; (first | exact Nat.le_refl _ | (dsimp only; omega) | (simp; done) | (simp; omega))) | with_reducible refine below_alloc ?_ _ | with_reducible apply below_drewN | with_reducible apply Below.drew | with_reducible refine below_step ?_ (by assumption)))⟩
      case round =>
        obtain ⟨j, v, K, rfl, hj, rfl, HK, G, HB⟩ := hrel
        have C_G := G; simp only [Bk] at C_G
        cases j with
        | zero =>
          have he : v + 1 = -(A / L) := by
            have := HK.out
            rw [show ((2 ^ 0 : Nat) : Int) = 1 by decide] at this
            have h3 := sr_end (by omega) (this.1 ▸ this.2.1)
            rw [Int.neg_neg] at h3
            exact h3
          have hv : 0 ≤ v ∧ v ≤ 9223372036854775806 := by
            have := HK.out
            rw [show ((2 ^ 0 : Nat) : Int) = 1 by decide] at this
            have h2 := this.2.1.1
            have h3 := this.2.2
            have h5 : -2251799813685248 ≤ A / L := Int.le_ediv_of_mul_le (by omega) (by rw [Int.neg_mul, Int.mul_comm]; omega)
            omega
          have EW : Hid (V = v + 1) := Lib.hid (by rw [EV.out, he])
          clear HK he EV
          go_wp2
          go_ret
          exact ⟨by rw [EW.out] <;> rfl, by first | exact HB | (repeat (first | with_reducible assumption | with_reducible exact Below.refl _ _ | ((with_reducible refine Below.setCell ?_ ?_ _); rotate_left; (first | exact Nat.le_refl _ | (dsimp only; omega) | (simp; done) | (simp; omega))) | with_reducible refine below_alloc ?_ _ | with_reducible apply below_drewN | with_reducible apply Below.drew | with_reducible refine below_step ?_ (by assumption)))⟩
        | succ j =>
          obtain ⟨P, hP⟩ : ∃ P : Int, (2 : Int) ^ j = P := ⟨_, rfl⟩
          have hP' : ((2 ^ j : Nat) : Int) = P := by rw [← hP]; simp
          have hK2 : ((2 ^ (j + 1) : Nat) : Int) = P + P := by rw [← hP', Nat.pow_succ]; omega
          have hP1 : 1 ≤ P := by rw [← hP']; have := Nat.two_pow_pos j; omega
          obtain ⟨hK, hS, hv⟩ := HK.out
          rw [hK, hK2] at hS hv
          have hv0 := hS.1
          have kc := fun W => kC (v + P) (by omega) (by omega) W
          have kd := fun W => kD (v + P) (by omega) (by omega) W
          have hlt := cmp3_lt7 ((v + P) * L) (-A)
          generalize cmp3 ((v + P) * L) (-A) = zc at *
          generalize decide ((v + P) * L < 0) = gc at *
          generalize (((v + P) * L).natAbs : Int) = nc at *
          have HS := Lib.hid (And.intro hS (And.intro hlt hP'))
          clear hK hS HK hK2 hlt hP' kC kD
          go_upto_region 13 with (fail)
          by_cases hz : zc < 0
          · have dz := decide_eq_true hz
            (try refine wp_region_noPanic ?_)
            refine wp_region_held_drew (S := (fun (w' : World) => w'.cell? ⟨wa.heap.size, 0, none⟩ = some (.bool gA) ∧ w'.cell? ⟨wa.heap.size, 1, none⟩ = some (.int .u64 (d0 nA)) ∧ w'.cell? ⟨wa.heap.size, 2, none⟩ = some (.int .u64 (d1 nA)) ∧ w'.cell? ⟨wa.heap.size, 3, none⟩ = some (.int .u64 (d2 nA)) ∧ w'.cell? ⟨wa.heap.size, 4, none⟩ = some (.int .u64 (d3 nA)))) (by kernel_rfl) ⟨(by first | (simp (maxDischargeDepth := 6) [go_sem, *]; done)), (by first | (simp (maxDischargeDepth := 6) [go_sem, *]; done)), (by first | (simp (maxDischargeDepth := 6) [go_sem, *]; done)), (by first | (simp (maxDischargeDepth := 6) [go_sem, *]; done)), (by first | (simp (maxDischargeDepth := 6) [go_sem, *]; done))⟩ (fun hHeld => ?_)
            refine wpAnyH_take (i := 0) (v := ?_) (by simp only [List.getElem?_toArray, List.getElem?_cons_succ, List.getElem?_cons_zero]; rfl) (by kernel_rfl) (by kernel_rfl) (by kernel_rfl) (fun _ _ _ h => h) (Or.inl ⟨by rfl, ?_⟩) (by assumption) ?_
            rotate_left
            · intro w hSw; (try dsimp only at hSw); go_simp; try with_reducible rfl
            try simp only [Act.put, List.setIfInBounds_toArray, List.set_cons_zero, List.set_cons_succ]
            refine wpAnyH_take (i := 1) (v := ?_) (by simp only [List.getElem?_toArray, List.getElem?_cons_succ, List.getElem?_cons_zero]; rfl) (by kernel_rfl) (by kernel_rfl) (by kernel_rfl) (fun _ _ _ h => h) (Or.inl ⟨by rfl, ?_⟩) (by assumption) ?_
            rotate_left
            · intro w hSw; (try dsimp only at hSw); go_simp; try with_reducible rfl
            try simp only [Act.put, List.setIfInBounds_toArray, List.set_cons_zero, List.set_cons_succ]
            refine wpAnyH_take (i := 3) (v := ?_) (by simp only [List.getElem?_toArray, List.getElem?_cons_succ, List.getElem?_cons_zero]; rfl) (by kernel_rfl) (by kernel_rfl) (by kernel_rfl) (fun _ _ _ h => h) (Or.inl ⟨by rfl, ?_⟩) (by assumption) ?_
            rotate_left
            · intro w hSw; (try dsimp only at hSw); go_simp; try with_reducible rfl
            try simp only [Act.put, List.setIfInBounds_toArray, List.set_cons_zero, List.set_cons_succ]
            have hOld := hHeld; clear hHeld
            refine wpAnyH_ready (rs := [2]) (by kernel_rfl) (by simp) (AllReadyH.cons rfl (fun K hK => ?_) AllReadyH.nil)
            go_simp
            (go_at_call 40; (with_reducible refine (kc _).mono ?_); rintro e w1 ⟨rfl, hM⟩)
            (try go_wp2_with (fail))
            refine hK.out _ _ ⟨(by first | exact mv_cell hM (by first | (dsimp only; omega) | (simp; omega)) hOld.1 | exact cell_later hM hOld.1 | exact HT.cb | exact HT.cc | (simp (maxDischargeDepth := 6) [go_sem, *]; done)), (by first | exact mv_cell hM (by first | (dsimp only; omega) | (simp; omega)) hOld.2.1 | exact cell_later hM hOld.2.1 | exact HT.cb | exact HT.cc | (simp (maxDischargeDepth := 6) [go_sem, *]; done)), (by first | exact mv_cell hM (by first | (dsimp only; omega) | (simp; omega)) hOld.2.2.1 | exact cell_later hM hOld.2.2.1 | exact HT.cb | exact HT.cc | (simp (maxDischargeDepth := 6) [go_sem, *]; done)), (by first | exact mv_cell hM (by first | (dsimp only; omega) | (simp; omega)) hOld.2.2.2.1 | exact cell_later hM hOld.2.2.2.1 | exact HT.cb | exact HT.cc | (simp (maxDischargeDepth := 6) [go_sem, *]; done)), (by first | exact mv_cell hM (by first | (dsimp only; omega) | (simp; omega)) hOld.2.2.2.2 | exact cell_later hM hOld.2.2.2.2 | exact HT.cb | exact HT.cc | (simp (maxDischargeDepth := 6) [go_sem, *]; done))⟩ (fun hHeld => ?_)
            clear hK K hOld
            try simp only [Act.put, List.setIfInBounds_toArray, List.set_cons_zero, List.set_cons_succ]
            have G := Bk.later G.drew hM; have HB : Below w.heap.size w _ := below_step (W := _) (by (repeat (first | with_reducible assumption | with_reducible exact Below.refl _ _ | ((with_reducible refine Below.setCell ?_ ?_ _); rotate_left; (first | exact Nat.le_refl _ | (dsimp only; omega) | (simp; done) | (simp; omega))) | with_reducible refine below_alloc ?_ _ | with_reducible apply below_drewN | with_reducible apply Below.drew | with_reducible refine below_step ?_ (by assumption)))) hM
            have hOld := hHeld; clear hHeld
            refine wpAnyH_ready (rs := [4]) (by kernel_rfl) (by simp) (AllReadyH.cons rfl (fun K hK => ?_) AllReadyH.nil)
            go_simp
            (go_at_call 42; (with_reducible refine (kd _).mono ?_); rintro e w1 ⟨rfl, hM⟩)
            (try go_wp2_with (fail))
            refine hK.out _ _ ⟨(by first | exact mv_cell hM (by first | (dsimp only; omega) | (simp; omega)) hOld.1 | exact cell_later hM hOld.1 | exact HT.cb | exact HT.cc | (simp (maxDischargeDepth := 6) [go_sem, *]; done)), (by first | exact mv_cell hM (by first | (dsimp only; omega) | (simp; omega)) hOld.2.1 | exact cell_later hM hOld.2.1 | exact HT.cb | exact HT.cc | (simp (maxDischargeDepth := 6) [go_sem, *]; done)), (by first | exact mv_cell hM (by first | (dsimp only; omega) | (simp; omega)) hOld.2.2.1 | exact cell_later hM hOld.2.2.1 | exact HT.cb | exact HT.cc | (simp (maxDischargeDepth := 6) [go_sem, *]; done)), (by first | exact mv_cell hM (by first | (dsimp only; omega) | (simp; omega)) hOld.2.2.2.1 | exact cell_later hM hOld.2.2.2.1 | exact HT.cb | exact HT.cc | (simp (maxDischargeDepth := 6) [go_sem, *]; done)), (by first | exact mv_cell hM (by first | (dsimp only; omega) | (simp; omega)) hOld.2.2.2.2 | exact cell_later hM hOld.2.2.2.2 | exact HT.cb | exact HT.cc | (simp (maxDischargeDepth := 6) [go_sem, *]; done))⟩ (fun hHeld => ?_)
            clear hK K hOld
            try simp only [Act.put, List.setIfInBounds_toArray, List.set_cons_zero, List.set_cons_succ]
            have G := G.later hM; have HB := below_step HB hM
            refine wpAnyH_take (i := 5) (v := ?_) (by simp only [List.getElem?_toArray, List.getElem?_cons_succ, List.getElem?_cons_zero]; rfl) (by kernel_rfl) (by kernel_rfl) (by kernel_rfl) (fun _ _ _ h => h) (Or.inl ⟨by rfl, ?_⟩) (by assumption) ?_
            rotate_left
            · intro w hSw; (try dsimp only at hSw); go_simp; try with_reducible rfl
            try simp only [Act.put, List.setIfInBounds_toArray, List.set_cons_zero, List.set_cons_succ]
            refine wpAnyH_done (by kernel_rfl) ?_ _
            (try refine NoPanic.normal ?_)
            (try clear q0); (try clear q1); (try clear q2); (try clear q3); (try clear q4); obtain ⟨q0, q1, q2, q3, q4⟩ := hHeld
            go_wp2
            exact ⟨⟨j, v + P, P, by go_num, by omega, rfl, Lib.hid ⟨HS.out.2.2.symm, sr_yes (by omega) HS.out.1 (HS.out.2.1.1 hz), by omega⟩, G, by first | exact HB | (repeat (first | with_reducible assumption | with_reducible exact Below.refl _ _ | ((with_reducible refine Below.setCell ?_ ?_ _); rotate_left; (first | exact Nat.le_refl _ | (dsimp only; omega) | (simp; done) | (simp; omega))) | with_reducible refine below_alloc ?_ _ | with_reducible apply below_drewN | with_reducible apply Below.drew | with_reducible refine below_step ?_ (by assumption)))⟩, by simp [RowKit.intOf] <;> omega⟩
          · have dz := decide_eq_false hz
            (try refine wp_region_noPanic ?_)
            refine wp_region_held_drew (S := (fun (w' : World) => w'.cell? ⟨wa.heap.size, 0, none⟩ = some (.bool gA) ∧ w'.cell? ⟨wa.heap.size, 1, none⟩ = some (.int .u64 (d0 nA)) ∧ w'.cell? ⟨wa.heap.size, 2, none⟩ = some (.int .u64 (d1 nA)) ∧ w'.cell? ⟨wa.heap.size, 3, none⟩ = some (.int .u64 (d2 nA)) ∧ w'.cell? ⟨wa.heap.size, 4, none⟩ = some (.int .u64 (d3 nA)))) (by kernel_rfl) ⟨(by first | (simp (maxDischargeDepth := 6) [go_sem, *]; done)), (by first | (simp (maxDischargeDepth := 6) [go_sem, *]; done)), (by first | (simp (maxDischargeDepth := 6) [go_sem, *]; done)), (by first | (simp (maxDischargeDepth := 6) [go_sem, *]; done)), (by first | (simp (maxDischargeDepth := 6) [go_sem, *]; done))⟩ (fun hHeld => ?_)
            refine wpAnyH_take (i := 0) (v := ?_) (by simp only [List.getElem?_toArray, List.getElem?_cons_succ, List.getElem?_cons_zero]; rfl) (by kernel_rfl) (by kernel_rfl) (by kernel_rfl) (fun _ _ _ h => h) (Or.inl ⟨by rfl, ?_⟩) (by assumption) ?_
            rotate_left
            · intro w hSw; (try dsimp only at hSw); go_simp; try with_reducible rfl
            try simp only [Act.put, List.setIfInBounds_toArray, List.set_cons_zero, List.set_cons_succ]
            refine wpAnyH_take (i := 1) (v := ?_) (by simp only [List.getElem?_toArray, List.getElem?_cons_succ, List.getElem?_cons_zero]; rfl) (by kernel_rfl) (by kernel_rfl) (by kernel_rfl) (fun _ _ _ h => h) (Or.inl ⟨by rfl, ?_⟩) (by assumption) ?_
            rotate_left
            · intro w hSw; (try dsimp only at hSw); go_simp; try with_reducible rfl
            try simp only [Act.put, List.setIfInBounds_toArray, List.set_cons_zero, List.set_cons_succ]
            refine wpAnyH_take (i := 3) (v := ?_) (by simp only [List.getElem?_toArray, List.getElem?_cons_succ, List.getElem?_cons_zero]; rfl) (by kernel_rfl) (by kernel_rfl) (by kernel_rfl) (fun _ _ _ h => h) (Or.inl ⟨by rfl, ?_⟩) (by assumption) ?_
            rotate_left
            · intro w hSw; (try dsimp only at hSw); go_simp; try with_reducible rfl
            try simp only [Act.put, List.setIfInBounds_toArray, List.set_cons_zero, List.set_cons_succ]
            have hOld := hHeld; clear hHeld
            refine wpAnyH_ready (rs := [2]) (by kernel_rfl) (by simp) (AllReadyH.cons rfl (fun K hK => ?_) AllReadyH.nil)
            go_simp
            (go_at_call 40; (with_reducible refine (kc _).mono ?_); rintro e w1 ⟨rfl, hM⟩)
            (try go_wp2_with (fail))
            refine hK.out _ _ ⟨(by first | exact mv_cell hM (by first | (dsimp only; omega) | (simp; omega)) hOld.1 | exact cell_later hM hOld.1 | exact HT.cb | exact HT.cc | (simp (maxDischargeDepth := 6) [go_sem, *]; done)), (by first | exact mv_cell hM (by first | (dsimp only; omega) | (simp; omega)) hOld.2.1 | exact cell_later hM hOld.2.1 | exact HT.cb | exact HT.cc | (simp (maxDischargeDepth := 6) [go_sem, *]; done)), (by first | exact mv_cell hM (by first | (dsimp only; omega) | (simp; omega)) hOld.2.2.1 | exact cell_later hM hOld.2.2.1 | exact HT.cb | exact HT.cc | (simp (maxDischargeDepth := 6) [go_sem, *]; done)), (by first | exact mv_cell hM (by first | (dsimp only; omega) | (simp; omega)) hOld.2.2.2.1 | exact cell_later hM hOld.2.2.2.1 | exact HT.cb | exact HT.cc | (simp (maxDischargeDepth := 6) [go_sem, *]; done)), (by first | exact mv_cell hM (by first | (dsimp only; omega) | (simp; omega)) hOld.2.2.2.2 | exact cell_later hM hOld.2.2.2.2 | exact HT.cb | exact HT.cc | (simp (maxDischargeDepth := 6) [go_sem, *]; done))⟩ (fun hHeld => ?_)
            clear hK K hOld
            try simp only [Act.put, List.setIfInBounds_toArray, List.set_cons_zero, List.set_cons_succ]
            have G := Bk.later G.drew hM; have HB : Below w.heap.size w _ := below_step (W := _) (by (repeat (first | with_reducible assumption | with_reducible exact Below.refl _ _ | ((with_reducible refine Below.setCell ?_ ?_ _); rotate_left; (first | exact Nat.le_refl _ | (dsimp only; omega) | (simp; done) | (simp; omega))) | with_reducible refine below_alloc ?_ _ | with_reducible apply below_drewN | with_reducible apply Below.drew | with_reducible refine below_step ?_ (by assumption)))) hM
            have hOld := hHeld; clear hHeld
            refine wpAnyH_ready (rs := [4]) (by kernel_rfl) (by simp) (AllReadyH.cons rfl (fun K hK => ?_) AllReadyH.nil)
            go_simp
            (go_at_call 42; (with_reducible refine (kd _).mono ?_); rintro e w1 ⟨rfl, hM⟩)
            (try go_wp2_with (fail))
            refine hK.out _ _ ⟨(by first | exact mv_cell hM (by first | (dsimp only; omega) | (simp; omega)) hOld.1 | exact cell_later hM hOld.1 | exact HT.cb | exact HT.cc | (simp (maxDischargeDepth := 6) [go_sem, *]; done)), (by first | exact mv_cell hM (by first | (dsimp only; omega) | (simp; omega)) hOld.2.1 | exact cell_later hM hOld.2.1 | exact HT.cb | exact HT.cc | (simp (maxDischargeDepth := 6) [go_sem, *]; done)), (by first | exact mv_cell hM (by first | (dsimp only; omega) | (simp; omega)) hOld.2.2.1 | exact cell_later hM hOld.2.2.1 | exact HT.cb | exact HT.cc | (simp (maxDischargeDepth := 6) [go_sem, *]; done)), (by first | exact mv_cell hM (by first | (dsimp only; omega) | (simp; omega)) hOld.2.2.2.1 | exact cell_later hM hOld.2.2.2.1 | exact HT.cb | exact HT.cc | (simp (maxDischargeDepth := 6) [go_sem, *]; done)), (by first | exact mv_cell hM (by first | (dsimp only; omega) | (simp; omega)) hOld.2.2.2.2 | exact cell_later hM hOld.2.2.2.2 | exact HT.cb | exact HT.cc | (simp (maxDischargeDepth := 6) [go_sem, *]; done))⟩ (fun hHeld => ?_)
            clear hK K hOld
            try simp only [Act.put, List.setIfInBounds_toArray, List.set_cons_zero, List.set_cons_succ]
            have G := G.later hM; have HB := below_step HB hM
            refine wpAnyH_take (i := 5) (v := ?_) (by simp only [List.getElem?_toArray, List.getElem?_cons_succ, List.getElem?_cons_zero]; rfl) (by kernel_rfl) (by kernel_rfl) (by kernel_rfl) (fun _ _ _ h => h) (Or.inl ⟨by rfl, ?_⟩) (by assumption) ?_
            rotate_left
            · intro w hSw; (try dsimp only at hSw); go_simp; try with_reducible rfl
            try simp only [Act.put, List.setIfInBounds_toArray, List.set_cons_zero, List.set_cons_succ]
            refine wpAnyH_done (by kernel_rfl) ?_ _
            (try refine NoPanic.normal ?_)
            (try clear q0); (try clear q1); (try clear q2); (try clear q3); (try clear q4); obtain ⟨q0, q1, q2, q3, q4⟩ := hHeld
            go_wp2
            exact ⟨⟨j, v, P, by go_num, by omega, rfl, Lib.hid ⟨HS.out.2.2.symm, sr_no HS.out.1 (fun h => absurd (HS.out.2.1.2 h) (by omega)), by omega⟩, G, by first | exact HB | (repeat (first | with_reducible assumption | with_reducible exact Below.refl _ _ | ((with_reducible refine Below.setCell ?_ ?_ _); rotate_left; (first | exact Nat.le_refl _ | (dsimp only; omega) | (simp; done) | (simp; omega))) | with_reducible refine below_alloc ?_ _ | with_reducible apply below_drewN | with_reducible apply Below.drew | with_reducible refine below_step ?_ (by assumption)))⟩, by simp [RowKit.intOf] <;> omega⟩
end Go.Proofs.Ytcijddjfadcanaa
