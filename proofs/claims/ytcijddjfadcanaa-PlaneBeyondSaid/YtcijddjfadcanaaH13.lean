/- The contracts of chapter 7's answer: the opposite, crossings. -/
import Derived.Test.YtcijddjfadcanaaH12
import Derived.Test.YtcijddjfadcanaaH4
import Derived.Test.YtcijddjfadcanaaB10
import Derived.Deep.CutBlock
import Derived.Deep.DeepCutAuto
set_option linter.unusedSimpArgs false
set_option linter.unusedVariables false
namespace Go.Proofs.Ytcijddjfadcanaa
open Go.RowKit
set_option maxHeartbeats 2000000 in
theorem c7Opp (v : Int) (w : World) (h0 : (v.natAbs : Int) ≤ 340282366920938463463374607431768211455) :
    Calls Try.prog 29 #[.agg #[.bool (decide (v < 0)), .int .u64 (d0 (v.natAbs)), .int .u64 (d1 (v.natAbs)), .int .u64 (d2 (v.natAbs)), .int .u64 (d3 (v.natAbs))]] w fun e w' => e = .returned (.agg #[.bool (decide (-v < 0)), .int .u64 (d0 ((-v).natAbs)), .int .u64 (d1 ((-v).natAbs)), .int .u64 (d2 ((-v).natAbs)), .int .u64 (d3 ((-v).natAbs))]) ∧ Below w.heap.size w w' := by
  rw [neg_flag v, show (((-v).natAbs : Nat) : Int) = (v.natAbs : Int) by omega]
  have kz := fun g W => cRZero g (v.natAbs : Int) W (by omega) h0
  have hs : decide ((v.natAbs : Int) = 0) = true → decide (v < 0) = false := by intro h; have := of_decide_eq_true h; exact decide_eq_false (by omega)
  generalize decide ((v.natAbs : Int) = 0) = z at *
  generalize decide (v < 0) = g at *
  generalize (v.natAbs : Int) = m at *
  cases g with
  | true =>
    cases z with
    | true => have := hs rfl; cases this
    | false =>
      clear hs
      go_enter Try.func29, Try.ntmps29
      go_wp2_with (fail)
      simp (maxDischargeDepth := 8) [bodyPost, results, Try.results29, go_sem, *]
      (repeat (first | with_reducible assumption | with_reducible exact Below.refl _ _ | ((with_reducible refine Below.setCell ?_ ?_ _); rotate_left; (first | exact Nat.le_refl _ | (dsimp only; omega) | (simp; done) | (simp; omega))) | with_reducible refine below_alloc ?_ _ | with_reducible apply below_drewN | with_reducible apply Below.drew | with_reducible refine below_step ?_ (by assumption)))
  | false =>
    clear hs
    go_enter Try.func29, Try.ntmps29
    go_wp2_with (fail)
    (go_at_call 47; (with_reducible refine (kz _ _).mono ?_); rintro e w1 ⟨rfl, hM⟩)
    have B0 : Bk (w.heap.size) 0 [.bool false, .int .u64 (d0 m), .int .u64 (d1 m), .int .u64 (d2 m), .int .u64 (d3 m)] w1 := Bk.later (by simp [Bk, go_sem]; done) hM
    have R0 : Bk (w.heap.size + 1) 0 [.bool false, .int .u64 0, .int .u64 0, .int .u64 0, .int .u64 0] w1 := Bk.later (by simp [Bk, go_sem]; done) hM
    have HB : Below w.heap.size w w1 := by (repeat (first | with_reducible assumption | with_reducible exact Below.refl _ _ | ((with_reducible refine Below.setCell ?_ ?_ _); rotate_left; (first | exact Nat.le_refl _ | (dsimp only; omega) | (simp; done) | (simp; omega))) | with_reducible refine below_alloc ?_ _ | with_reducible apply below_drewN | with_reducible apply Below.drew | with_reducible refine below_step ?_ (by assumption)))
    have C0 := B0; simp only [Bk] at C0
    have C1 := R0; simp only [Bk] at C1
    clear hM kz
    cases z <;> (go_wp2; simp (maxDischargeDepth := 8) [bodyPost, results, Try.results29, go_sem, *]; (repeat (first | with_reducible assumption | with_reducible exact Below.refl _ _ | ((with_reducible refine Below.setCell ?_ ?_ _); rotate_left; (first | exact Nat.le_refl _ | (dsimp only; omega) | (simp; done) | (simp; omega))) | with_reducible refine below_alloc ?_ _ | with_reducible apply below_drewN | with_reducible apply Below.drew | with_reducible refine below_step ?_ (by assumption))))
set_option maxHeartbeats 16000000 in
theorem c7Crosses (ax ay bx bY px py qx qy : Int) (w : World) :
    Calls Try.prog 14 #[.agg #[.int .i64 ax, .int .i64 ay], .agg #[.int .i64 bx, .int .i64 bY], .agg #[.int .i64 px, .int .i64 py], .agg #[.int .i64 qx, .int .i64 qy]] w fun e w' => e = .returned (.tuple #[.int .u32 (cxv ax ay bx bY px py qx qy), .bool (cxb ax ay bx bY px py qx qy)]) ∧ Below w.heap.size w w' := by
  have k1 := fun q W => c7Near4 q ax ay bx bY px py qx qy W
  cases hn : (pn ax ay && pn bx bY && pn px py && pn qx qy) with
  | false =>
    have E : Hid (cxb ax ay bx bY px py qx qy = false ∧ cxv ax ay bx bY px py qx qy = 0) := Lib.hid (by
      have h : cxb ax ay bx bY px py qx qy = false := by unfold cxb; rw [hn]; rfl
      exact ⟨h, by unfold cxv; rw [h]; rfl⟩)
    rw [hn] at k1
    clear hn
    go_enter Try.func14, Try.ntmps14
    go_wp2_with (fail)
    (go_at_call 22; (with_reducible refine (k1 _ _ (by simp [go_sem]) (by simp [go_sem]) (by simp [go_sem]) (by simp [go_sem]) (by simp [go_sem]) (by simp [go_sem]) (by simp [go_sem]) (by simp [go_sem])).mono ?_); rintro e w1 ⟨rfl, hM⟩)
    go_wp2
    go_ret2
    exact ⟨by rw [E.out.1, E.out.2]; rfl, by (repeat (first | with_reducible assumption | with_reducible exact Below.refl _ _ | ((with_reducible refine Below.setCell ?_ ?_ _); rotate_left; (first | exact Nat.le_refl _ | (dsimp only; omega) | (simp; done) | (simp; omega))) | with_reducible refine below_alloc ?_ _ | with_reducible apply below_drewN | with_reducible apply Below.drew | with_reducible refine below_step ?_ (by assumption)))⟩
  | true =>
    have E0 : cxb ax ay bx bY px py qx qy = (!(decide (0 < ar ax ay bx bY px py) || decide (ar ax ay bx bY qx qy ≤ 0)) && !(decide (sd px py qx qy ax ay < 0) || decide (0 ≤ sd px py qx qy bx bY))) := by unfold cxb; rw [hn, Bool.true_and]
    have E1 : cxv ax ay bx bY px py qx qy = if cxb ax ay bx bY px py qx qy = true then pt (-ar ax ay bx bY px py) (ar ax ay bx bY qx qy - ar ax ay bx bY px py) else 0 := rfl
    rw [hn] at k1
    simp only [Bool.and_eq_true] at hn
    obtain ⟨⟨⟨ha, hb⟩, hp⟩, hq⟩ := hn
    have k2 := fun W => c7Area ax ay bx bY px py W ha hb hp
    have k3 := fun W => c7Area ax ay bx bY qx qy W ha hb hq
    have k4 := fun W => c7Side px py qx qy ax ay W
    have k5 := fun W => c7Side px py qx qy bx bY W
    have b1 := ar_bd ax ay bx bY px py ha hb hp
    have b2 := ar_bd ax ay bx bY qx qy ha hb hq
    clear ha hb hp hq
    generalize cxv ax ay bx bY px py qx qy = V at *
    generalize cxb ax ay bx bY px py qx qy = B at *
    generalize ar ax ay bx bY px py = s at *
    generalize ar ax ay bx bY qx qy = t at *
    generalize sd px py qx qy ax ay = e at *
    generalize sd px py qx qy bx bY = f at *
    have k6 := fun W => cRSign s W (by omega)
    have k7 := fun W => cRSign t W (by omega)
    have k8 := fun W => c7Opp s W (by omega)
    have k9 := fun W => cRAdd t (-s) W (by omega) (by omega)
    rw [cw_yes (t + -s) (by omega) (by omega), fw_yes (t + -s) (by omega) (by omega), show t + -s = t - s by omega] at k9
    have kp := fun W => cRPart (-s) (t - s) W (by omega) (by omega)
    obtain ⟨zs, hzs⟩ : ∃ z, cmp3 s 0 = z := ⟨_, rfl⟩
    obtain ⟨zt, hzt⟩ : ∃ z, cmp3 t 0 = z := ⟨_, rfl⟩
    rw [hzs] at k6
    rw [hzt] at k7
    have c1 := cmp3_pos s
    have c2 := cmp3_pos t
    rw [hzs] at c1
    rw [hzt] at c2
    have HE := Lib.hid (And.intro E0 E1)
    have HC := Lib.hid (And.intro c1 c2)
    generalize pt (-s) (t - s) = pv at *
    generalize decide (s < 0) = gs at *
    generalize (s.natAbs : Int) = ms at *
    generalize decide (t < 0) = gt at *
    generalize (t.natAbs : Int) = mt at *
    generalize decide (-s < 0) = gn at *
    generalize ((-s).natAbs : Int) = mn at *
    generalize decide (t - s < 0) = gd at *
    generalize ((t - s).natAbs : Int) = md at *
    clear E0 E1 c1 c2 hzs hzt b1 b2
    go_enter Try.func14, Try.ntmps14
    go_wp2_with (fail)
    (go_at_call 22; (with_reducible refine (k1 _ _ (by simp [go_sem]) (by simp [go_sem]) (by simp [go_sem]) (by simp [go_sem]) (by simp [go_sem]) (by simp [go_sem]) (by simp [go_sem]) (by simp [go_sem])).mono ?_); rintro e1 w1 ⟨rfl, hM⟩)
    have B0 : Bk (w.heap.size) 0 [.int .i64 ax, .int .i64 ay] w1 := Bk.later (by simp [Bk, go_sem]; done) hM
    have B1 : Bk (w.heap.size + 1) 0 [.int .i64 bx, .int .i64 bY] w1 := Bk.later (by simp [Bk, go_sem]; done) hM
    have B2 : Bk (w.heap.size + 1 + 1) 0 [.int .i64 px, .int .i64 py] w1 := Bk.later (by simp [Bk, go_sem]; done) hM
    have B3 : Bk (w.heap.size + 1 + 1 + 1) 0 [.int .i64 qx, .int .i64 qy] w1 := Bk.later (by simp [Bk, go_sem]; done) hM
    have HB : Below w.heap.size w w1 := by (repeat (first | with_reducible assumption | with_reducible exact Below.refl _ _ | ((with_reducible refine Below.setCell ?_ ?_ _); rotate_left; (first | exact Nat.le_refl _ | (dsimp only; omega) | (simp; done) | (simp; omega))) | with_reducible refine below_alloc ?_ _ | with_reducible apply below_drewN | with_reducible apply Below.drew | with_reducible refine below_step ?_ (by assumption)))
    clear hM k1
    have C_B0 := B0; simp only [Bk] at C_B0
    have C_B1 := B1; simp only [Bk] at C_B1
    have C_B2 := B2; simp only [Bk] at C_B2
    have C_B3 := B3; simp only [Bk] at C_B3
    go_wp2_with (fail)
    (go_at_call 24; (with_reducible refine (k2 _).mono ?_); rintro e9 w1 ⟨rfl, hM⟩; (first | have HB : Below w.heap.size w _ := below_step HB hM | have HB : Below w.heap.size w _ := below_step (W := _) (by (repeat (first | with_reducible assumption | with_reducible exact Below.refl _ _ | ((with_reducible refine Below.setCell ?_ ?_ _); rotate_left; (first | exact Nat.le_refl _ | (dsimp only; omega) | (simp; done) | (simp; omega))) | with_reducible refine below_alloc ?_ _ | with_reducible apply below_drewN | with_reducible apply Below.drew | with_reducible refine below_step ?_ (by assumption)))) hM); (first | have B0 := Bk.later B0 hM | have B0 := Bk.later (Bk.alloc B0 _) hM | have B0 := Bk.later (Bk.alloc (Bk.alloc B0 _) _) hM); have C_B0 := B0; simp only [Bk] at C_B0; (first | have B1 := Bk.later B1 hM | have B1 := Bk.later (Bk.alloc B1 _) hM | have B1 := Bk.later (Bk.alloc (Bk.alloc B1 _) _) hM); have C_B1 := B1; simp only [Bk] at C_B1; (first | have B2 := Bk.later B2 hM | have B2 := Bk.later (Bk.alloc B2 _) hM | have B2 := Bk.later (Bk.alloc (Bk.alloc B2 _) _) hM); have C_B2 := B2; simp only [Bk] at C_B2; (first | have B3 := Bk.later B3 hM | have B3 := Bk.later (Bk.alloc B3 _) hM | have B3 := Bk.later (Bk.alloc (Bk.alloc B3 _) _) hM); have C_B3 := B3; simp only [Bk] at C_B3)
    rename World => wa
    clear hM k2
    go_wp2_with (fail)
    (go_at_call 24; (with_reducible refine (k3 _).mono ?_); rintro e9 w1 ⟨rfl, hM⟩; (first | have HB : Below w.heap.size w _ := below_step HB hM | have HB : Below w.heap.size w _ := below_step (W := _) (by (repeat (first | with_reducible assumption | with_reducible exact Below.refl _ _ | ((with_reducible refine Below.setCell ?_ ?_ _); rotate_left; (first | exact Nat.le_refl _ | (dsimp only; omega) | (simp; done) | (simp; omega))) | with_reducible refine below_alloc ?_ _ | with_reducible apply below_drewN | with_reducible apply Below.drew | with_reducible refine below_step ?_ (by assumption)))) hM); (first | have B0 := Bk.later B0 hM | have B0 := Bk.later (Bk.alloc B0 _) hM | have B0 := Bk.later (Bk.alloc (Bk.alloc B0 _) _) hM); have C_B0 := B0; simp only [Bk] at C_B0; (first | have B1 := Bk.later B1 hM | have B1 := Bk.later (Bk.alloc B1 _) hM | have B1 := Bk.later (Bk.alloc (Bk.alloc B1 _) _) hM); have C_B1 := B1; simp only [Bk] at C_B1; (first | have B2 := Bk.later B2 hM | have B2 := Bk.later (Bk.alloc B2 _) hM | have B2 := Bk.later (Bk.alloc (Bk.alloc B2 _) _) hM); have C_B2 := B2; simp only [Bk] at C_B2; (first | have B3 := Bk.later B3 hM | have B3 := Bk.later (Bk.alloc B3 _) hM | have B3 := Bk.later (Bk.alloc (Bk.alloc B3 _) _) hM); have C_B3 := B3; simp only [Bk] at C_B3)
    have G : Bk (wa.heap.size) 0 [.bool gs, .int .u64 (d0 ms), .int .u64 (d1 ms), .int .u64 (d2 ms), .int .u64 (d3 ms)] w1 := Bk.later (by simp [Bk, go_sem]; done) hM
    rename World => wb
    have hab : wa.heap.size < wb.heap.size := World.block_lt_of_cell? wb _ G.1
    clear hM k3
    have nab : wa.heap.size ≠ wb.heap.size := by omega
    have C_G := G; simp only [Bk] at C_G
    rcases (show 0 < s ∨ (s ≤ 0 ∧ t ≤ 0) ∨ (s ≤ 0 ∧ 0 < t ∧ e < 0) ∨ (s ≤ 0 ∧ 0 < t ∧ 0 ≤ e ∧ 0 ≤ f) ∨ (s ≤ 0 ∧ 0 < t ∧ 0 ≤ e ∧ f < 0) from by omega) with h1 | ⟨h1, h2⟩ | ⟨h1, h2, h3⟩ | ⟨h1, h2, h3, h4⟩ | ⟨h1, h2, h3, h4⟩
    · have EB : Hid (B = false) := Lib.hid (by rw [HE.out.1, decide_eq_true h1]; rfl)
      have EV : Hid (V = 0) := Lib.hid (by rw [HE.out.2, EB.out]; rfl)
      have u1 : 0 < zs := HC.out.1.2 h1
      have u1' := decide_eq_true u1
      go_wp2_with (fail)
      (go_at_call 23; (with_reducible refine (k6 _).mono ?_); rintro e9 w1 ⟨rfl, hM⟩; (first | have HB : Below w.heap.size w _ := below_step HB hM | have HB : Below w.heap.size w _ := below_step (W := _) (by (repeat (first | with_reducible assumption | with_reducible exact Below.refl _ _ | ((with_reducible refine Below.setCell ?_ ?_ _); rotate_left; (first | exact Nat.le_refl _ | (dsimp only; omega) | (simp; done) | (simp; omega))) | with_reducible refine below_alloc ?_ _ | with_reducible apply below_drewN | with_reducible apply Below.drew | with_reducible refine below_step ?_ (by assumption)))) hM); (first | have B0 := Bk.later B0 hM | have B0 := Bk.later (Bk.alloc B0 _) hM | have B0 := Bk.later (Bk.alloc (Bk.alloc B0 _) _) hM); have C_B0 := B0; simp only [Bk] at C_B0; (first | have B1 := Bk.later B1 hM | have B1 := Bk.later (Bk.alloc B1 _) hM | have B1 := Bk.later (Bk.alloc (Bk.alloc B1 _) _) hM); have C_B1 := B1; simp only [Bk] at C_B1; (first | have B2 := Bk.later B2 hM | have B2 := Bk.later (Bk.alloc B2 _) hM | have B2 := Bk.later (Bk.alloc (Bk.alloc B2 _) _) hM); have C_B2 := B2; simp only [Bk] at C_B2; (first | have B3 := Bk.later B3 hM | have B3 := Bk.later (Bk.alloc B3 _) hM | have B3 := Bk.later (Bk.alloc (Bk.alloc B3 _) _) hM); have C_B3 := B3; simp only [Bk] at C_B3; (first | have G := Bk.later G hM | have G := Bk.later (Bk.alloc G _) hM | have G := Bk.later (Bk.alloc (Bk.alloc G _) _) hM); have C_G := G; simp only [Bk] at C_G)
      have H : Bk (wb.heap.size) 0 [.bool gt, .int .u64 (d0 mt), .int .u64 (d1 mt), .int .u64 (d2 mt), .int .u64 (d3 mt)] w1 := Bk.later (by simp [Bk, go_sem]; done) hM
      have C_H := H; simp only [Bk] at C_H
      clear hM
      go_wp2
      go_ret2
      exact ⟨by rw [EB.out, EV.out]; rfl, by first | exact HB | (repeat (first | with_reducible assumption | with_reducible exact Below.refl _ _ | ((with_reducible refine Below.setCell ?_ ?_ _); rotate_left; (first | exact Nat.le_refl _ | (dsimp only; omega) | (simp; done) | (simp; omega))) | with_reducible refine below_alloc ?_ _ | with_reducible apply below_drewN | with_reducible apply Below.drew | with_reducible refine below_step ?_ (by assumption)))⟩
    · have EB : Hid (B = false) := Lib.hid (by rw [HE.out.1, decide_eq_true h2, Bool.or_true]; rfl)
      have EV : Hid (V = 0) := Lib.hid (by rw [HE.out.2, EB.out]; rfl)
      have u1 : ¬ 0 < zs := fun h => by have := HC.out.1.1 h; omega
      have u2 : zt ≤ 0 := Int.not_lt.1 (fun h => by have := HC.out.2.1 h; omega)
      have u1' := decide_eq_false u1
      have u2' := decide_eq_true u2
      go_wp2_with (fail)
      (go_at_call 23; (with_reducible refine (k6 _).mono ?_); rintro e9 w1 ⟨rfl, hM⟩; (first | have HB : Below w.heap.size w _ := below_step HB hM | have HB : Below w.heap.size w _ := below_step (W := _) (by (repeat (first | with_reducible assumption | with_reducible exact Below.refl _ _ | ((with_reducible refine Below.setCell ?_ ?_ _); rotate_left; (first | exact Nat.le_refl _ | (dsimp only; omega) | (simp; done) | (simp; omega))) | with_reducible refine below_alloc ?_ _ | with_reducible apply below_drewN | with_reducible apply Below.drew | with_reducible refine below_step ?_ (by assumption)))) hM); (first | have B0 := Bk.later B0 hM | have B0 := Bk.later (Bk.alloc B0 _) hM | have B0 := Bk.later (Bk.alloc (Bk.alloc B0 _) _) hM); have C_B0 := B0; simp only [Bk] at C_B0; (first | have B1 := Bk.later B1 hM | have B1 := Bk.later (Bk.alloc B1 _) hM | have B1 := Bk.later (Bk.alloc (Bk.alloc B1 _) _) hM); have C_B1 := B1; simp only [Bk] at C_B1; (first | have B2 := Bk.later B2 hM | have B2 := Bk.later (Bk.alloc B2 _) hM | have B2 := Bk.later (Bk.alloc (Bk.alloc B2 _) _) hM); have C_B2 := B2; simp only [Bk] at C_B2; (first | have B3 := Bk.later B3 hM | have B3 := Bk.later (Bk.alloc B3 _) hM | have B3 := Bk.later (Bk.alloc (Bk.alloc B3 _) _) hM); have C_B3 := B3; simp only [Bk] at C_B3; (first | have G := Bk.later G hM | have G := Bk.later (Bk.alloc G _) hM | have G := Bk.later (Bk.alloc (Bk.alloc G _) _) hM); have C_G := G; simp only [Bk] at C_G)
      have H : Bk (wb.heap.size) 0 [.bool gt, .int .u64 (d0 mt), .int .u64 (d1 mt), .int .u64 (d2 mt), .int .u64 (d3 mt)] w1 := Bk.later (by simp [Bk, go_sem]; done) hM
      have C_H := H; simp only [Bk] at C_H
      clear hM
      go_wp2_with (first | (go_at_call 23; (with_reducible refine (k7 _).mono ?_); rintro e9 w1 ⟨rfl, hM⟩; (first | have HB : Below w.heap.size w _ := below_step HB hM | have HB : Below w.heap.size w _ := below_step (W := _) (by (repeat (first | with_reducible assumption | with_reducible exact Below.refl _ _ | ((with_reducible refine Below.setCell ?_ ?_ _); rotate_left; (first | exact Nat.le_refl _ | (dsimp only; omega) | (simp; done) | (simp; omega))) | with_reducible refine below_alloc ?_ _ | with_reducible apply below_drewN | with_reducible apply Below.drew | with_reducible refine below_step ?_ (by assumption)))) hM); (first | have B0 := Bk.later B0 hM | have B0 := Bk.later (Bk.alloc B0 _) hM | have B0 := Bk.later (Bk.alloc (Bk.alloc B0 _) _) hM); have C_B0 := B0; simp only [Bk] at C_B0; (first | have B1 := Bk.later B1 hM | have B1 := Bk.later (Bk.alloc B1 _) hM | have B1 := Bk.later (Bk.alloc (Bk.alloc B1 _) _) hM); have C_B1 := B1; simp only [Bk] at C_B1; (first | have B2 := Bk.later B2 hM | have B2 := Bk.later (Bk.alloc B2 _) hM | have B2 := Bk.later (Bk.alloc (Bk.alloc B2 _) _) hM); have C_B2 := B2; simp only [Bk] at C_B2; (first | have B3 := Bk.later B3 hM | have B3 := Bk.later (Bk.alloc B3 _) hM | have B3 := Bk.later (Bk.alloc (Bk.alloc B3 _) _) hM); have C_B3 := B3; simp only [Bk] at C_B3; (first | have G := Bk.later G hM | have G := Bk.later (Bk.alloc G _) hM | have G := Bk.later (Bk.alloc (Bk.alloc G _) _) hM); have C_G := G; simp only [Bk] at C_G; (first | have H := Bk.later H hM | have H := Bk.later (Bk.alloc H _) hM | have H := Bk.later (Bk.alloc (Bk.alloc H _) _) hM); have C_H := H; simp only [Bk] at C_H) | (go_at_call 11; (with_reducible refine (k4 _).mono ?_); rintro e9 w1 ⟨rfl, hM⟩; (first | have HB : Below w.heap.size w _ := below_step HB hM | have HB : Below w.heap.size w _ := below_step (W := _) (by (repeat (first | with_reducible assumption | with_reducible exact Below.refl _ _ | ((with_reducible refine Below.setCell ?_ ?_ _); rotate_left; (first | exact Nat.le_refl _ | (dsimp only; omega) | (simp; done) | (simp; omega))) | with_reducible refine below_alloc ?_ _ | with_reducible apply below_drewN | with_reducible apply Below.drew | with_reducible refine below_step ?_ (by assumption)))) hM); (first | have B0 := Bk.later B0 hM | have B0 := Bk.later (Bk.alloc B0 _) hM | have B0 := Bk.later (Bk.alloc (Bk.alloc B0 _) _) hM); have C_B0 := B0; simp only [Bk] at C_B0; (first | have B1 := Bk.later B1 hM | have B1 := Bk.later (Bk.alloc B1 _) hM | have B1 := Bk.later (Bk.alloc (Bk.alloc B1 _) _) hM); have C_B1 := B1; simp only [Bk] at C_B1; (first | have B2 := Bk.later B2 hM | have B2 := Bk.later (Bk.alloc B2 _) hM | have B2 := Bk.later (Bk.alloc (Bk.alloc B2 _) _) hM); have C_B2 := B2; simp only [Bk] at C_B2; (first | have B3 := Bk.later B3 hM | have B3 := Bk.later (Bk.alloc B3 _) hM | have B3 := Bk.later (Bk.alloc (Bk.alloc B3 _) _) hM); have C_B3 := B3; simp only [Bk] at C_B3; (first | have G := Bk.later G hM | have G := Bk.later (Bk.alloc G _) hM | have G := Bk.later (Bk.alloc (Bk.alloc G _) _) hM); have C_G := G; simp only [Bk] at C_G; (first | have H := Bk.later H hM | have H := Bk.later (Bk.alloc H _) hM | have H := Bk.later (Bk.alloc (Bk.alloc H _) _) hM); have C_H := H; simp only [Bk] at C_H) | (go_at_call 11; (with_reducible refine (k5 _).mono ?_); rintro e9 w1 ⟨rfl, hM⟩; (first | have HB : Below w.heap.size w _ := below_step HB hM | have HB : Below w.heap.size w _ := below_step (W := _) (by (repeat (first | with_reducible assumption | with_reducible exact Below.refl _ _ | ((with_reducible refine Below.setCell ?_ ?_ _); rotate_left; (first | exact Nat.le_refl _ | (dsimp only; omega) | (simp; done) | (simp; omega))) | with_reducible refine below_alloc ?_ _ | with_reducible apply below_drewN | with_reducible apply Below.drew | with_reducible refine below_step ?_ (by assumption)))) hM); (first | have B0 := Bk.later B0 hM | have B0 := Bk.later (Bk.alloc B0 _) hM | have B0 := Bk.later (Bk.alloc (Bk.alloc B0 _) _) hM); have C_B0 := B0; simp only [Bk] at C_B0; (first | have B1 := Bk.later B1 hM | have B1 := Bk.later (Bk.alloc B1 _) hM | have B1 := Bk.later (Bk.alloc (Bk.alloc B1 _) _) hM); have C_B1 := B1; simp only [Bk] at C_B1; (first | have B2 := Bk.later B2 hM | have B2 := Bk.later (Bk.alloc B2 _) hM | have B2 := Bk.later (Bk.alloc (Bk.alloc B2 _) _) hM); have C_B2 := B2; simp only [Bk] at C_B2; (first | have B3 := Bk.later B3 hM | have B3 := Bk.later (Bk.alloc B3 _) hM | have B3 := Bk.later (Bk.alloc (Bk.alloc B3 _) _) hM); have C_B3 := B3; simp only [Bk] at C_B3; (first | have G := Bk.later G hM | have G := Bk.later (Bk.alloc G _) hM | have G := Bk.later (Bk.alloc (Bk.alloc G _) _) hM); have C_G := G; simp only [Bk] at C_G; (first | have H := Bk.later H hM | have H := Bk.later (Bk.alloc H _) hM | have H := Bk.later (Bk.alloc (Bk.alloc H _) _) hM); have C_H := H; simp only [Bk] at C_H))
      go_ret2
      exact ⟨by rw [EB.out, EV.out]; rfl, by first | exact HB | (repeat (first | with_reducible assumption | with_reducible exact Below.refl _ _ | ((with_reducible refine Below.setCell ?_ ?_ _); rotate_left; (first | exact Nat.le_refl _ | (dsimp only; omega) | (simp; done) | (simp; omega))) | with_reducible refine below_alloc ?_ _ | with_reducible apply below_drewN | with_reducible apply Below.drew | with_reducible refine below_step ?_ (by assumption)))⟩
    · have EB : Hid (B = false) := Lib.hid (by rw [HE.out.1, decide_eq_true h3]; simp)
      have EV : Hid (V = 0) := Lib.hid (by rw [HE.out.2, EB.out]; rfl)
      have u1 : ¬ 0 < zs := fun h => by have := HC.out.1.1 h; omega
      have u2 : ¬ zt ≤ 0 := by have := HC.out.2.2 h2; omega
      have u1' := decide_eq_false u1
      have u2' := decide_eq_false u2
      have u3' := decide_eq_true h3
      go_wp2_with (fail)
      (go_at_call 23; (with_reducible refine (k6 _).mono ?_); rintro e9 w1 ⟨rfl, hM⟩; (first | have HB : Below w.heap.size w _ := below_step HB hM | have HB : Below w.heap.size w _ := below_step (W := _) (by (repeat (first | with_reducible assumption | with_reducible exact Below.refl _ _ | ((with_reducible refine Below.setCell ?_ ?_ _); rotate_left; (first | exact Nat.le_refl _ | (dsimp only; omega) | (simp; done) | (simp; omega))) | with_reducible refine below_alloc ?_ _ | with_reducible apply below_drewN | with_reducible apply Below.drew | with_reducible refine below_step ?_ (by assumption)))) hM); (first | have B0 := Bk.later B0 hM | have B0 := Bk.later (Bk.alloc B0 _) hM | have B0 := Bk.later (Bk.alloc (Bk.alloc B0 _) _) hM); have C_B0 := B0; simp only [Bk] at C_B0; (first | have B1 := Bk.later B1 hM | have B1 := Bk.later (Bk.alloc B1 _) hM | have B1 := Bk.later (Bk.alloc (Bk.alloc B1 _) _) hM); have C_B1 := B1; simp only [Bk] at C_B1; (first | have B2 := Bk.later B2 hM | have B2 := Bk.later (Bk.alloc B2 _) hM | have B2 := Bk.later (Bk.alloc (Bk.alloc B2 _) _) hM); have C_B2 := B2; simp only [Bk] at C_B2; (first | have B3 := Bk.later B3 hM | have B3 := Bk.later (Bk.alloc B3 _) hM | have B3 := Bk.later (Bk.alloc (Bk.alloc B3 _) _) hM); have C_B3 := B3; simp only [Bk] at C_B3; (first | have G := Bk.later G hM | have G := Bk.later (Bk.alloc G _) hM | have G := Bk.later (Bk.alloc (Bk.alloc G _) _) hM); have C_G := G; simp only [Bk] at C_G)
      have H : Bk (wb.heap.size) 0 [.bool gt, .int .u64 (d0 mt), .int .u64 (d1 mt), .int .u64 (d2 mt), .int .u64 (d3 mt)] w1 := Bk.later (by simp [Bk, go_sem]; done) hM
      have C_H := H; simp only [Bk] at C_H
      clear hM
      go_wp2_with (first | (go_at_call 23; (with_reducible refine (k7 _).mono ?_); rintro e9 w1 ⟨rfl, hM⟩; (first | have HB : Below w.heap.size w _ := below_step HB hM | have HB : Below w.heap.size w _ := below_step (W := _) (by (repeat (first | with_reducible assumption | with_reducible exact Below.refl _ _ | ((with_reducible refine Below.setCell ?_ ?_ _); rotate_left; (first | exact Nat.le_refl _ | (dsimp only; omega) | (simp; done) | (simp; omega))) | with_reducible refine below_alloc ?_ _ | with_reducible apply below_drewN | with_reducible apply Below.drew | with_reducible refine below_step ?_ (by assumption)))) hM); (first | have B0 := Bk.later B0 hM | have B0 := Bk.later (Bk.alloc B0 _) hM | have B0 := Bk.later (Bk.alloc (Bk.alloc B0 _) _) hM); have C_B0 := B0; simp only [Bk] at C_B0; (first | have B1 := Bk.later B1 hM | have B1 := Bk.later (Bk.alloc B1 _) hM | have B1 := Bk.later (Bk.alloc (Bk.alloc B1 _) _) hM); have C_B1 := B1; simp only [Bk] at C_B1; (first | have B2 := Bk.later B2 hM | have B2 := Bk.later (Bk.alloc B2 _) hM | have B2 := Bk.later (Bk.alloc (Bk.alloc B2 _) _) hM); have C_B2 := B2; simp only [Bk] at C_B2; (first | have B3 := Bk.later B3 hM | have B3 := Bk.later (Bk.alloc B3 _) hM | have B3 := Bk.later (Bk.alloc (Bk.alloc B3 _) _) hM); have C_B3 := B3; simp only [Bk] at C_B3; (first | have G := Bk.later G hM | have G := Bk.later (Bk.alloc G _) hM | have G := Bk.later (Bk.alloc (Bk.alloc G _) _) hM); have C_G := G; simp only [Bk] at C_G; (first | have H := Bk.later H hM | have H := Bk.later (Bk.alloc H _) hM | have H := Bk.later (Bk.alloc (Bk.alloc H _) _) hM); have C_H := H; simp only [Bk] at C_H) | (go_at_call 11; (with_reducible refine (k4 _).mono ?_); rintro e9 w1 ⟨rfl, hM⟩; (first | have HB : Below w.heap.size w _ := below_step HB hM | have HB : Below w.heap.size w _ := below_step (W := _) (by (repeat (first | with_reducible assumption | with_reducible exact Below.refl _ _ | ((with_reducible refine Below.setCell ?_ ?_ _); rotate_left; (first | exact Nat.le_refl _ | (dsimp only; omega) | (simp; done) | (simp; omega))) | with_reducible refine below_alloc ?_ _ | with_reducible apply below_drewN | with_reducible apply Below.drew | with_reducible refine below_step ?_ (by assumption)))) hM); (first | have B0 := Bk.later B0 hM | have B0 := Bk.later (Bk.alloc B0 _) hM | have B0 := Bk.later (Bk.alloc (Bk.alloc B0 _) _) hM); have C_B0 := B0; simp only [Bk] at C_B0; (first | have B1 := Bk.later B1 hM | have B1 := Bk.later (Bk.alloc B1 _) hM | have B1 := Bk.later (Bk.alloc (Bk.alloc B1 _) _) hM); have C_B1 := B1; simp only [Bk] at C_B1; (first | have B2 := Bk.later B2 hM | have B2 := Bk.later (Bk.alloc B2 _) hM | have B2 := Bk.later (Bk.alloc (Bk.alloc B2 _) _) hM); have C_B2 := B2; simp only [Bk] at C_B2; (first | have B3 := Bk.later B3 hM | have B3 := Bk.later (Bk.alloc B3 _) hM | have B3 := Bk.later (Bk.alloc (Bk.alloc B3 _) _) hM); have C_B3 := B3; simp only [Bk] at C_B3; (first | have G := Bk.later G hM | have G := Bk.later (Bk.alloc G _) hM | have G := Bk.later (Bk.alloc (Bk.alloc G _) _) hM); have C_G := G; simp only [Bk] at C_G; (first | have H := Bk.later H hM | have H := Bk.later (Bk.alloc H _) hM | have H := Bk.later (Bk.alloc (Bk.alloc H _) _) hM); have C_H := H; simp only [Bk] at C_H) | (go_at_call 11; (with_reducible refine (k5 _).mono ?_); rintro e9 w1 ⟨rfl, hM⟩; (first | have HB : Below w.heap.size w _ := below_step HB hM | have HB : Below w.heap.size w _ := below_step (W := _) (by (repeat (first | with_reducible assumption | with_reducible exact Below.refl _ _ | ((with_reducible refine Below.setCell ?_ ?_ _); rotate_left; (first | exact Nat.le_refl _ | (dsimp only; omega) | (simp; done) | (simp; omega))) | with_reducible refine below_alloc ?_ _ | with_reducible apply below_drewN | with_reducible apply Below.drew | with_reducible refine below_step ?_ (by assumption)))) hM); (first | have B0 := Bk.later B0 hM | have B0 := Bk.later (Bk.alloc B0 _) hM | have B0 := Bk.later (Bk.alloc (Bk.alloc B0 _) _) hM); have C_B0 := B0; simp only [Bk] at C_B0; (first | have B1 := Bk.later B1 hM | have B1 := Bk.later (Bk.alloc B1 _) hM | have B1 := Bk.later (Bk.alloc (Bk.alloc B1 _) _) hM); have C_B1 := B1; simp only [Bk] at C_B1; (first | have B2 := Bk.later B2 hM | have B2 := Bk.later (Bk.alloc B2 _) hM | have B2 := Bk.later (Bk.alloc (Bk.alloc B2 _) _) hM); have C_B2 := B2; simp only [Bk] at C_B2; (first | have B3 := Bk.later B3 hM | have B3 := Bk.later (Bk.alloc B3 _) hM | have B3 := Bk.later (Bk.alloc (Bk.alloc B3 _) _) hM); have C_B3 := B3; simp only [Bk] at C_B3; (first | have G := Bk.later G hM | have G := Bk.later (Bk.alloc G _) hM | have G := Bk.later (Bk.alloc (Bk.alloc G _) _) hM); have C_G := G; simp only [Bk] at C_G; (first | have H := Bk.later H hM | have H := Bk.later (Bk.alloc H _) hM | have H := Bk.later (Bk.alloc (Bk.alloc H _) _) hM); have C_H := H; simp only [Bk] at C_H))
      go_ret2
      exact ⟨by rw [EB.out, EV.out]; rfl, by first | exact HB | (repeat (first | with_reducible assumption | with_reducible exact Below.refl _ _ | ((with_reducible refine Below.setCell ?_ ?_ _); rotate_left; (first | exact Nat.le_refl _ | (dsimp only; omega) | (simp; done) | (simp; omega))) | with_reducible refine below_alloc ?_ _ | with_reducible apply below_drewN | with_reducible apply Below.drew | with_reducible refine below_step ?_ (by assumption)))⟩
    · have EB : Hid (B = false) := Lib.hid (by rw [HE.out.1, decide_eq_true h4, Bool.or_true]; simp)
      have EV : Hid (V = 0) := Lib.hid (by rw [HE.out.2, EB.out]; rfl)
      have u1 : ¬ 0 < zs := fun h => by have := HC.out.1.1 h; omega
      have u2 : ¬ zt ≤ 0 := by have := HC.out.2.2 h2; omega
      have u1' := decide_eq_false u1
      have u2' := decide_eq_false u2
      have u3 : ¬ e < 0 := by omega
      have u3' := decide_eq_false u3
      have u4' := decide_eq_true h4
      go_wp2_with (fail)
      (go_at_call 23; (with_reducible refine (k6 _).mono ?_); rintro e9 w1 ⟨rfl, hM⟩; (first | have HB : Below w.heap.size w _ := below_step HB hM | have HB : Below w.heap.size w _ := below_step (W := _) (by (repeat (first | with_reducible assumption | with_reducible exact Below.refl _ _ | ((with_reducible refine Below.setCell ?_ ?_ _); rotate_left; (first | exact Nat.le_refl _ | (dsimp only; omega) | (simp; done) | (simp; omega))) | with_reducible refine below_alloc ?_ _ | with_reducible apply below_drewN | with_reducible apply Below.drew | with_reducible refine below_step ?_ (by assumption)))) hM); (first | have B0 := Bk.later B0 hM | have B0 := Bk.later (Bk.alloc B0 _) hM | have B0 := Bk.later (Bk.alloc (Bk.alloc B0 _) _) hM); have C_B0 := B0; simp only [Bk] at C_B0; (first | have B1 := Bk.later B1 hM | have B1 := Bk.later (Bk.alloc B1 _) hM | have B1 := Bk.later (Bk.alloc (Bk.alloc B1 _) _) hM); have C_B1 := B1; simp only [Bk] at C_B1; (first | have B2 := Bk.later B2 hM | have B2 := Bk.later (Bk.alloc B2 _) hM | have B2 := Bk.later (Bk.alloc (Bk.alloc B2 _) _) hM); have C_B2 := B2; simp only [Bk] at C_B2; (first | have B3 := Bk.later B3 hM | have B3 := Bk.later (Bk.alloc B3 _) hM | have B3 := Bk.later (Bk.alloc (Bk.alloc B3 _) _) hM); have C_B3 := B3; simp only [Bk] at C_B3; (first | have G := Bk.later G hM | have G := Bk.later (Bk.alloc G _) hM | have G := Bk.later (Bk.alloc (Bk.alloc G _) _) hM); have C_G := G; simp only [Bk] at C_G)
      have H : Bk (wb.heap.size) 0 [.bool gt, .int .u64 (d0 mt), .int .u64 (d1 mt), .int .u64 (d2 mt), .int .u64 (d3 mt)] w1 := Bk.later (by simp [Bk, go_sem]; done) hM
      have C_H := H; simp only [Bk] at C_H
      clear hM
      go_wp2_with (first | (go_at_call 23; (with_reducible refine (k7 _).mono ?_); rintro e9 w1 ⟨rfl, hM⟩; (first | have HB : Below w.heap.size w _ := below_step HB hM | have HB : Below w.heap.size w _ := below_step (W := _) (by (repeat (first | with_reducible assumption | with_reducible exact Below.refl _ _ | ((with_reducible refine Below.setCell ?_ ?_ _); rotate_left; (first | exact Nat.le_refl _ | (dsimp only; omega) | (simp; done) | (simp; omega))) | with_reducible refine below_alloc ?_ _ | with_reducible apply below_drewN | with_reducible apply Below.drew | with_reducible refine below_step ?_ (by assumption)))) hM); (first | have B0 := Bk.later B0 hM | have B0 := Bk.later (Bk.alloc B0 _) hM | have B0 := Bk.later (Bk.alloc (Bk.alloc B0 _) _) hM); have C_B0 := B0; simp only [Bk] at C_B0; (first | have B1 := Bk.later B1 hM | have B1 := Bk.later (Bk.alloc B1 _) hM | have B1 := Bk.later (Bk.alloc (Bk.alloc B1 _) _) hM); have C_B1 := B1; simp only [Bk] at C_B1; (first | have B2 := Bk.later B2 hM | have B2 := Bk.later (Bk.alloc B2 _) hM | have B2 := Bk.later (Bk.alloc (Bk.alloc B2 _) _) hM); have C_B2 := B2; simp only [Bk] at C_B2; (first | have B3 := Bk.later B3 hM | have B3 := Bk.later (Bk.alloc B3 _) hM | have B3 := Bk.later (Bk.alloc (Bk.alloc B3 _) _) hM); have C_B3 := B3; simp only [Bk] at C_B3; (first | have G := Bk.later G hM | have G := Bk.later (Bk.alloc G _) hM | have G := Bk.later (Bk.alloc (Bk.alloc G _) _) hM); have C_G := G; simp only [Bk] at C_G; (first | have H := Bk.later H hM | have H := Bk.later (Bk.alloc H _) hM | have H := Bk.later (Bk.alloc (Bk.alloc H _) _) hM); have C_H := H; simp only [Bk] at C_H) | (go_at_call 11; (with_reducible refine (k4 _).mono ?_); rintro e9 w1 ⟨rfl, hM⟩; (first | have HB : Below w.heap.size w _ := below_step HB hM | have HB : Below w.heap.size w _ := below_step (W := _) (by (repeat (first | with_reducible assumption | with_reducible exact Below.refl _ _ | ((with_reducible refine Below.setCell ?_ ?_ _); rotate_left; (first | exact Nat.le_refl _ | (dsimp only; omega) | (simp; done) | (simp; omega))) | with_reducible refine below_alloc ?_ _ | with_reducible apply below_drewN | with_reducible apply Below.drew | with_reducible refine below_step ?_ (by assumption)))) hM); (first | have B0 := Bk.later B0 hM | have B0 := Bk.later (Bk.alloc B0 _) hM | have B0 := Bk.later (Bk.alloc (Bk.alloc B0 _) _) hM); have C_B0 := B0; simp only [Bk] at C_B0; (first | have B1 := Bk.later B1 hM | have B1 := Bk.later (Bk.alloc B1 _) hM | have B1 := Bk.later (Bk.alloc (Bk.alloc B1 _) _) hM); have C_B1 := B1; simp only [Bk] at C_B1; (first | have B2 := Bk.later B2 hM | have B2 := Bk.later (Bk.alloc B2 _) hM | have B2 := Bk.later (Bk.alloc (Bk.alloc B2 _) _) hM); have C_B2 := B2; simp only [Bk] at C_B2; (first | have B3 := Bk.later B3 hM | have B3 := Bk.later (Bk.alloc B3 _) hM | have B3 := Bk.later (Bk.alloc (Bk.alloc B3 _) _) hM); have C_B3 := B3; simp only [Bk] at C_B3; (first | have G := Bk.later G hM | have G := Bk.later (Bk.alloc G _) hM | have G := Bk.later (Bk.alloc (Bk.alloc G _) _) hM); have C_G := G; simp only [Bk] at C_G; (first | have H := Bk.later H hM | have H := Bk.later (Bk.alloc H _) hM | have H := Bk.later (Bk.alloc (Bk.alloc H _) _) hM); have C_H := H; simp only [Bk] at C_H) | (go_at_call 11; (with_reducible refine (k5 _).mono ?_); rintro e9 w1 ⟨rfl, hM⟩; (first | have HB : Below w.heap.size w _ := below_step HB hM | have HB : Below w.heap.size w _ := below_step (W := _) (by (repeat (first | with_reducible assumption | with_reducible exact Below.refl _ _ | ((with_reducible refine Below.setCell ?_ ?_ _); rotate_left; (first | exact Nat.le_refl _ | (dsimp only; omega) | (simp; done) | (simp; omega))) | with_reducible refine below_alloc ?_ _ | with_reducible apply below_drewN | with_reducible apply Below.drew | with_reducible refine below_step ?_ (by assumption)))) hM); (first | have B0 := Bk.later B0 hM | have B0 := Bk.later (Bk.alloc B0 _) hM | have B0 := Bk.later (Bk.alloc (Bk.alloc B0 _) _) hM); have C_B0 := B0; simp only [Bk] at C_B0; (first | have B1 := Bk.later B1 hM | have B1 := Bk.later (Bk.alloc B1 _) hM | have B1 := Bk.later (Bk.alloc (Bk.alloc B1 _) _) hM); have C_B1 := B1; simp only [Bk] at C_B1; (first | have B2 := Bk.later B2 hM | have B2 := Bk.later (Bk.alloc B2 _) hM | have B2 := Bk.later (Bk.alloc (Bk.alloc B2 _) _) hM); have C_B2 := B2; simp only [Bk] at C_B2; (first | have B3 := Bk.later B3 hM | have B3 := Bk.later (Bk.alloc B3 _) hM | have B3 := Bk.later (Bk.alloc (Bk.alloc B3 _) _) hM); have C_B3 := B3; simp only [Bk] at C_B3; (first | have G := Bk.later G hM | have G := Bk.later (Bk.alloc G _) hM | have G := Bk.later (Bk.alloc (Bk.alloc G _) _) hM); have C_G := G; simp only [Bk] at C_G; (first | have H := Bk.later H hM | have H := Bk.later (Bk.alloc H _) hM | have H := Bk.later (Bk.alloc (Bk.alloc H _) _) hM); have C_H := H; simp only [Bk] at C_H))
      go_ret2
      exact ⟨by rw [EB.out, EV.out]; rfl, by first | exact HB | (repeat (first | with_reducible assumption | with_reducible exact Below.refl _ _ | ((with_reducible refine Below.setCell ?_ ?_ _); rotate_left; (first | exact Nat.le_refl _ | (dsimp only; omega) | (simp; done) | (simp; omega))) | with_reducible refine below_alloc ?_ _ | with_reducible apply below_drewN | with_reducible apply Below.drew | with_reducible refine below_step ?_ (by assumption)))⟩
    · have EB : Hid (B = true) := Lib.hid (by rw [HE.out.1, decide_eq_false (show ¬ 0 < s by omega), decide_eq_false (show ¬ t ≤ 0 by omega), decide_eq_false (show ¬ e < 0 by omega), decide_eq_false (show ¬ 0 ≤ f by omega)]; rfl)
      have EV : Hid (V = pv) := Lib.hid (by rw [HE.out.2, EB.out]; rfl)
      have u1 : ¬ 0 < zs := fun h => by have := HC.out.1.1 h; omega
      have u2 : ¬ zt ≤ 0 := by have := HC.out.2.2 h2; omega
      have u1' := decide_eq_false u1
      have u2' := decide_eq_false u2
      have u3 : ¬ e < 0 := by omega
      have u3' := decide_eq_false u3
      have u4 : ¬ 0 ≤ f := by omega
      have u4' := decide_eq_false u4
      go_wp2_with (fail)
      (go_at_call 23; (with_reducible refine (k6 _).mono ?_); rintro e9 w1 ⟨rfl, hM⟩; (first | have HB : Below w.heap.size w _ := below_step HB hM | have HB : Below w.heap.size w _ := below_step (W := _) (by (repeat (first | with_reducible assumption | with_reducible exact Below.refl _ _ | ((with_reducible refine Below.setCell ?_ ?_ _); rotate_left; (first | exact Nat.le_refl _ | (dsimp only; omega) | (simp; done) | (simp; omega))) | with_reducible refine below_alloc ?_ _ | with_reducible apply below_drewN | with_reducible apply Below.drew | with_reducible refine below_step ?_ (by assumption)))) hM); (first | have B0 := Bk.later B0 hM | have B0 := Bk.later (Bk.alloc B0 _) hM | have B0 := Bk.later (Bk.alloc (Bk.alloc B0 _) _) hM); have C_B0 := B0; simp only [Bk] at C_B0; (first | have B1 := Bk.later B1 hM | have B1 := Bk.later (Bk.alloc B1 _) hM | have B1 := Bk.later (Bk.alloc (Bk.alloc B1 _) _) hM); have C_B1 := B1; simp only [Bk] at C_B1; (first | have B2 := Bk.later B2 hM | have B2 := Bk.later (Bk.alloc B2 _) hM | have B2 := Bk.later (Bk.alloc (Bk.alloc B2 _) _) hM); have C_B2 := B2; simp only [Bk] at C_B2; (first | have B3 := Bk.later B3 hM | have B3 := Bk.later (Bk.alloc B3 _) hM | have B3 := Bk.later (Bk.alloc (Bk.alloc B3 _) _) hM); have C_B3 := B3; simp only [Bk] at C_B3; (first | have G := Bk.later G hM | have G := Bk.later (Bk.alloc G _) hM | have G := Bk.later (Bk.alloc (Bk.alloc G _) _) hM); have C_G := G; simp only [Bk] at C_G)
      have H : Bk (wb.heap.size) 0 [.bool gt, .int .u64 (d0 mt), .int .u64 (d1 mt), .int .u64 (d2 mt), .int .u64 (d3 mt)] w1 := Bk.later (by simp [Bk, go_sem]; done) hM
      have C_H := H; simp only [Bk] at C_H
      clear hM
      go_upto_region 7 with (first | (go_at_call 23; (with_reducible refine (k7 _).mono ?_); rintro e9 w1 ⟨rfl, hM⟩; (first | have HB : Below w.heap.size w _ := below_step HB hM | have HB : Below w.heap.size w _ := below_step (W := _) (by (repeat (first | with_reducible assumption | with_reducible exact Below.refl _ _ | ((with_reducible refine Below.setCell ?_ ?_ _); rotate_left; (first | exact Nat.le_refl _ | (dsimp only; omega) | (simp; done) | (simp; omega))) | with_reducible refine below_alloc ?_ _ | with_reducible apply below_drewN | with_reducible apply Below.drew | with_reducible refine below_step ?_ (by assumption)))) hM); (first | have B0 := Bk.later B0 hM | have B0 := Bk.later (Bk.alloc B0 _) hM | have B0 := Bk.later (Bk.alloc (Bk.alloc B0 _) _) hM); have C_B0 := B0; simp only [Bk] at C_B0; (first | have B1 := Bk.later B1 hM | have B1 := Bk.later (Bk.alloc B1 _) hM | have B1 := Bk.later (Bk.alloc (Bk.alloc B1 _) _) hM); have C_B1 := B1; simp only [Bk] at C_B1; (first | have B2 := Bk.later B2 hM | have B2 := Bk.later (Bk.alloc B2 _) hM | have B2 := Bk.later (Bk.alloc (Bk.alloc B2 _) _) hM); have C_B2 := B2; simp only [Bk] at C_B2; (first | have B3 := Bk.later B3 hM | have B3 := Bk.later (Bk.alloc B3 _) hM | have B3 := Bk.later (Bk.alloc (Bk.alloc B3 _) _) hM); have C_B3 := B3; simp only [Bk] at C_B3; (first | have G := Bk.later G hM | have G := Bk.later (Bk.alloc G _) hM | have G := Bk.later (Bk.alloc (Bk.alloc G _) _) hM); have C_G := G; simp only [Bk] at C_G; (first | have H := Bk.later H hM | have H := Bk.later (Bk.alloc H _) hM | have H := Bk.later (Bk.alloc (Bk.alloc H _) _) hM); have C_H := H; simp only [Bk] at C_H) | (go_at_call 11; (with_reducible refine (k4 _).mono ?_); rintro e9 w1 ⟨rfl, hM⟩; (first | have HB : Below w.heap.size w _ := below_step HB hM | have HB : Below w.heap.size w _ := below_step (W := _) (by (repeat (first | with_reducible assumption | with_reducible exact Below.refl _ _ | ((with_reducible refine Below.setCell ?_ ?_ _); rotate_left; (first | exact Nat.le_refl _ | (dsimp only; omega) | (simp; done) | (simp; omega))) | with_reducible refine below_alloc ?_ _ | with_reducible apply below_drewN | with_reducible apply Below.drew | with_reducible refine below_step ?_ (by assumption)))) hM); (first | have B0 := Bk.later B0 hM | have B0 := Bk.later (Bk.alloc B0 _) hM | have B0 := Bk.later (Bk.alloc (Bk.alloc B0 _) _) hM); have C_B0 := B0; simp only [Bk] at C_B0; (first | have B1 := Bk.later B1 hM | have B1 := Bk.later (Bk.alloc B1 _) hM | have B1 := Bk.later (Bk.alloc (Bk.alloc B1 _) _) hM); have C_B1 := B1; simp only [Bk] at C_B1; (first | have B2 := Bk.later B2 hM | have B2 := Bk.later (Bk.alloc B2 _) hM | have B2 := Bk.later (Bk.alloc (Bk.alloc B2 _) _) hM); have C_B2 := B2; simp only [Bk] at C_B2; (first | have B3 := Bk.later B3 hM | have B3 := Bk.later (Bk.alloc B3 _) hM | have B3 := Bk.later (Bk.alloc (Bk.alloc B3 _) _) hM); have C_B3 := B3; simp only [Bk] at C_B3; (first | have G := Bk.later G hM | have G := Bk.later (Bk.alloc G _) hM | have G := Bk.later (Bk.alloc (Bk.alloc G _) _) hM); have C_G := G; simp only [Bk] at C_G; (first | have H := Bk.later H hM | have H := Bk.later (Bk.alloc H _) hM | have H := Bk.later (Bk.alloc (Bk.alloc H _) _) hM); have C_H := H; simp only [Bk] at C_H) | (go_at_call 11; (with_reducible refine (k5 _).mono ?_); rintro e9 w1 ⟨rfl, hM⟩; (first | have HB : Below w.heap.size w _ := below_step HB hM | have HB : Below w.heap.size w _ := below_step (W := _) (by (repeat (first | with_reducible assumption | with_reducible exact Below.refl _ _ | ((with_reducible refine Below.setCell ?_ ?_ _); rotate_left; (first | exact Nat.le_refl _ | (dsimp only; omega) | (simp; done) | (simp; omega))) | with_reducible refine below_alloc ?_ _ | with_reducible apply below_drewN | with_reducible apply Below.drew | with_reducible refine below_step ?_ (by assumption)))) hM); (first | have B0 := Bk.later B0 hM | have B0 := Bk.later (Bk.alloc B0 _) hM | have B0 := Bk.later (Bk.alloc (Bk.alloc B0 _) _) hM); have C_B0 := B0; simp only [Bk] at C_B0; (first | have B1 := Bk.later B1 hM | have B1 := Bk.later (Bk.alloc B1 _) hM | have B1 := Bk.later (Bk.alloc (Bk.alloc B1 _) _) hM); have C_B1 := B1; simp only [Bk] at C_B1; (first | have B2 := Bk.later B2 hM | have B2 := Bk.later (Bk.alloc B2 _) hM | have B2 := Bk.later (Bk.alloc (Bk.alloc B2 _) _) hM); have C_B2 := B2; simp only [Bk] at C_B2; (first | have B3 := Bk.later B3 hM | have B3 := Bk.later (Bk.alloc B3 _) hM | have B3 := Bk.later (Bk.alloc (Bk.alloc B3 _) _) hM); have C_B3 := B3; simp only [Bk] at C_B3; (first | have G := Bk.later G hM | have G := Bk.later (Bk.alloc G _) hM | have G := Bk.later (Bk.alloc (Bk.alloc G _) _) hM); have C_G := G; simp only [Bk] at C_G; (first | have H := Bk.later H hM | have H := Bk.later (Bk.alloc H _) hM | have H := Bk.later (Bk.alloc (Bk.alloc H _) _) hM); have C_H := H; simp only [Bk] at C_H))
      rename World => ws
      clear C_B0 C_B1 C_B2 C_B3 C_G C_H
      have hsg := World.block_lt_of_cell? ws _ G.1
      have hsh := World.block_lt_of_cell? ws _ H.1
      dsimp only at hsg hsh
      have hzs := HB.size
      go_cut [12] (fun p wx => ∃ k : Nat, p = .pointer (some ⟨k, 0, none⟩) ∧ Below w.heap.size w wx ∧ Bk k 0 [.bool gd, .int .u64 (d0 md), .int .u64 (d1 md), .int .u64 (d2 md), .int .u64 (d3 md)] wx ∧ Bk (wa.heap.size) 0 [.bool gs, .int .u64 (d0 ms), .int .u64 (d1 ms), .int .u64 (d2 ms), .int .u64 (d3 ms)] wx)
      case first =>
        (try refine wp_region_noPanic ?_)
        refine wp_region_held_drew (S := (fun (w' : World) => Bk wa.heap.size 0 [.bool gs, .int .u64 (d0 ms), .int .u64 (d1 ms), .int .u64 (d2 ms), .int .u64 (d3 ms)] w' ∧ Bk wb.heap.size 0 [.bool gt, .int .u64 (d0 mt), .int .u64 (d1 mt), .int .u64 (d2 mt), .int .u64 (d3 mt)] w')) (by kernel_rfl) ⟨by (repeat (first | with_reducible assumption | with_reducible apply Bk.drew | with_reducible apply Bk.alloc | with_reducible refine Bk.later ?_ hR | with_reducible refine Bk.later ?_ hM | ((with_reducible apply Bk.later); rotate_left; (with_reducible assumption)) | ((with_reducible apply Bk.put); rotate_left; (first | (dsimp only; omega))))), by (repeat (first | with_reducible assumption | with_reducible apply Bk.drew | with_reducible apply Bk.alloc | with_reducible refine Bk.later ?_ hR | with_reducible refine Bk.later ?_ hM | ((with_reducible apply Bk.later); rotate_left; (with_reducible assumption)) | ((with_reducible apply Bk.put); rotate_left; (first | (dsimp only; omega)))))⟩ (fun hHeld => ?_)
        refine wpAnyH_take (i := 0) (v := ?_) (by simp only [List.getElem?_toArray, List.getElem?_cons_succ, List.getElem?_cons_zero]; rfl) (by kernel_rfl) (by kernel_rfl) (by kernel_rfl) (fun _ _ _ h => h) (Or.inl ⟨by rfl, ?_⟩) (by assumption) ?_
        rotate_left
        · intro w hSw; (try dsimp only at hSw); simp only [Bk] at hSw; go_simp; try with_reducible rfl
        try simp only [Act.put, List.setIfInBounds_toArray, List.set_cons_zero, List.set_cons_succ]
        refine wpAnyH_take (i := 1) (v := ?_) (by simp only [List.getElem?_toArray, List.getElem?_cons_succ, List.getElem?_cons_zero]; rfl) (by kernel_rfl) (by kernel_rfl) (by kernel_rfl) (fun _ _ _ h => h) (Or.inl ⟨by rfl, ?_⟩) (by assumption) ?_
        rotate_left
        · intro w hSw; (try dsimp only at hSw); simp only [Bk] at hSw; go_simp; try with_reducible rfl
        try simp only [Act.put, List.setIfInBounds_toArray, List.set_cons_zero, List.set_cons_succ]
        refine wpAnyH_ready (rs := [2, 7]) (by kernel_rfl) (by simp) ?_
        refine AllReadyH.cons rfl (fun K hK => ?_) ?_
        · have hOld := hHeld; clear hHeld
          have B0 := hOld.1
          have B1 := hOld.2
          go_simp
          (go_at_call 29; (with_reducible refine (k8 _).mono ?_); rintro e wz1 ⟨rfl, hR⟩)
          have hRwz1 := hR
          have hzR := hR.size
          (try simp at hzR)
          have HB : Below w.heap.size w _ := below_step (W := _) (by (repeat (first | with_reducible assumption | with_reducible exact Below.refl _ _ | ((with_reducible refine Below.setCell ?_ ?_ _); rotate_left; (first | exact Nat.le_refl _ | (dsimp only; omega) | (simp; done) | (simp; omega))) | with_reducible refine below_alloc ?_ _ | with_reducible apply below_drewN | with_reducible apply Below.drew | with_reducible refine below_step ?_ (by assumption)))) hR
          (try go_wp2_with (fail))
          refine hK.out _ _ ⟨by (repeat (first | with_reducible assumption | with_reducible apply Bk.drew | with_reducible apply Bk.alloc | with_reducible refine Bk.later ?_ hRwz1 | with_reducible refine Bk.later ?_ hM | ((with_reducible apply Bk.later); rotate_left; (with_reducible assumption)) | ((with_reducible apply Bk.put); rotate_left; (first | (dsimp only; omega))))), by (repeat (first | with_reducible assumption | with_reducible apply Bk.drew | with_reducible apply Bk.alloc | with_reducible refine Bk.later ?_ hRwz1 | with_reducible refine Bk.later ?_ hM | ((with_reducible apply Bk.later); rotate_left; (with_reducible assumption)) | ((with_reducible apply Bk.put); rotate_left; (first | (dsimp only; omega)))))⟩ (fun hHeld => ?_)
          clear hK K hOld B0 B1
          try simp only [Act.put, List.setIfInBounds_toArray, List.set_cons_zero, List.set_cons_succ]
          refine wpAnyH_ready (rs := [3, 7]) (by kernel_rfl) (by simp) ?_
          refine AllReadyH.cons rfl (fun K hK => ?_) ?_
          · have hOld := hHeld; clear hHeld
            have B0 := hOld.1
            have B1 := hOld.2
            go_simp
            (go_at_call 28; (with_reducible refine (k9 _).mono ?_); rintro e wz2 ⟨rfl, hR⟩)
            have hRwz2 := hR
            have hzR := hR.size
            (try simp at hzR)
            have HB : Below w.heap.size w _ := below_step (W := _) (by (repeat (first | with_reducible assumption | with_reducible exact Below.refl _ _ | ((with_reducible refine Below.setCell ?_ ?_ _); rotate_left; (first | exact Nat.le_refl _ | (dsimp only; omega) | (simp; done) | (simp; omega))) | with_reducible refine below_alloc ?_ _ | with_reducible apply below_drewN | with_reducible apply Below.drew | with_reducible refine below_step ?_ (by assumption)))) hR
            (try go_wp2_with (fail))
            refine hK.out _ _ ⟨by (repeat (first | with_reducible assumption | with_reducible apply Bk.drew | with_reducible apply Bk.alloc | with_reducible refine Bk.later ?_ hRwz2 | with_reducible refine Bk.later ?_ hRwz1 | with_reducible refine Bk.later ?_ hM | ((with_reducible apply Bk.later); rotate_left; (with_reducible assumption)) | ((with_reducible apply Bk.put); rotate_left; (first | (dsimp only; omega))))), by (repeat (first | with_reducible assumption | with_reducible apply Bk.drew | with_reducible apply Bk.alloc | with_reducible refine Bk.later ?_ hRwz2 | with_reducible refine Bk.later ?_ hRwz1 | with_reducible refine Bk.later ?_ hM | ((with_reducible apply Bk.later); rotate_left; (with_reducible assumption)) | ((with_reducible apply Bk.put); rotate_left; (first | (dsimp only; omega)))))⟩ (fun hHeld => ?_)
            clear hK K hOld B0 B1
            try simp only [Act.put, List.setIfInBounds_toArray, List.set_cons_zero, List.set_cons_succ]
            refine wpAnyH_take (i := 4) (v := ?_) (by simp only [List.getElem?_toArray, List.getElem?_cons_succ, List.getElem?_cons_zero]; rfl) (by kernel_rfl) (by kernel_rfl) (by kernel_rfl) (fun _ _ _ h => h) (Or.inl ⟨by rfl, ?_⟩) (by assumption) ?_
            rotate_left
            · intro w hSw; (try dsimp only at hSw); simp only [Bk] at hSw; go_simp; try with_reducible rfl
            try simp only [Act.put, List.setIfInBounds_toArray, List.set_cons_zero, List.set_cons_succ]
            refine wpAnyH_take (i := 5) (v := ?_) (by simp only [List.getElem?_toArray, List.getElem?_cons_succ, List.getElem?_cons_zero]; rfl) (by kernel_rfl) (by kernel_rfl) (by kernel_rfl) (fun _ _ _ h => h) (Or.inl ⟨by rfl, ?_⟩) (by assumption) ?_
            rotate_left
            · intro w hSw; (try dsimp only at hSw); simp only [Bk] at hSw; go_simp; try with_reducible rfl
            try simp only [Act.put, List.setIfInBounds_toArray, List.set_cons_zero, List.set_cons_succ]
            refine wpAnyH_take (i := 6) (v := ?_) (by simp only [List.getElem?_toArray, List.getElem?_cons_succ, List.getElem?_cons_zero]; rfl) (by kernel_rfl) (by kernel_rfl) (by kernel_rfl) (fun _ _ _ h => h) (Or.inl ⟨by rfl, ?_⟩) (by assumption) ?_
            rotate_left
            · intro w hSw; (try dsimp only at hSw); simp only [Bk] at hSw; go_simp; try with_reducible rfl
            try simp only [Act.put, List.setIfInBounds_toArray, List.set_cons_zero, List.set_cons_succ]
            refine wpAnyH_ready (rs := [7]) (by kernel_rfl) (by simp) ?_
            refine AllReadyH.cons rfl (fun K hK => ?_) ?_
            · have hOld := hHeld; clear hHeld
              have B0 := hOld.1
              have B1 := hOld.2
              go_simp
              refine hK.out _ _ ⟨by (repeat (first | with_reducible assumption | with_reducible apply Bk.drew | with_reducible apply Bk.alloc | with_reducible refine Bk.later ?_ hRwz2 | with_reducible refine Bk.later ?_ hRwz1 | with_reducible refine Bk.later ?_ hM | ((with_reducible apply Bk.later); rotate_left; (with_reducible assumption)) | ((with_reducible apply Bk.put); rotate_left; (first | (dsimp only; omega))))), by (repeat (first | with_reducible assumption | with_reducible apply Bk.drew | with_reducible apply Bk.alloc | with_reducible refine Bk.later ?_ hRwz2 | with_reducible refine Bk.later ?_ hRwz1 | with_reducible refine Bk.later ?_ hM | ((with_reducible apply Bk.later); rotate_left; (with_reducible assumption)) | ((with_reducible apply Bk.put); rotate_left; (first | (dsimp only; omega)))))⟩ (fun hHeld => ?_)
              clear hK K hOld B0 B1
              try simp only [Act.put, List.setIfInBounds_toArray, List.set_cons_zero, List.set_cons_succ]
              refine wpAnyH_ready (rs := [8]) (by kernel_rfl) (by simp) ?_
              refine AllReadyH.cons rfl (fun K hK => ?_) ?_
              · have hOld := hHeld; clear hHeld
                have B0 := hOld.1
                have B1 := hOld.2
                have G0 : Bk (wz2.heap.size) 0 [.bool false, .int .u64 0, .int .u64 0, .int .u64 0, .int .u64 0] ((wz2).alloc (Obj.cells #[.bool false, .int .u64 0, .int .u64 0, .int .u64 0, .int .u64 0] 48)) := by first | (simp [Bk, go_sem]; done) | (repeat (first | with_reducible assumption | with_reducible apply Bk.drew | with_reducible apply Bk.alloc | with_reducible refine Bk.later ?_ hRwz2 | with_reducible refine Bk.later ?_ hRwz1 | with_reducible refine Bk.later ?_ hM | ((with_reducible apply Bk.later); rotate_left; (with_reducible assumption)) | ((with_reducible apply Bk.put); rotate_left; (first | (dsimp only; omega)))))
                simp only [Bk] at G0
                go_simp
                refine hK.out _ _ ⟨by (repeat (first | with_reducible assumption | with_reducible apply Bk.drew | with_reducible apply Bk.alloc | with_reducible refine Bk.later ?_ hRwz2 | with_reducible refine Bk.later ?_ hRwz1 | with_reducible refine Bk.later ?_ hM | ((with_reducible apply Bk.later); rotate_left; (with_reducible assumption)) | ((with_reducible apply Bk.put); rotate_left; (first | (dsimp only; omega))))), by (repeat (first | with_reducible assumption | with_reducible apply Bk.drew | with_reducible apply Bk.alloc | with_reducible refine Bk.later ?_ hRwz2 | with_reducible refine Bk.later ?_ hRwz1 | with_reducible refine Bk.later ?_ hM | ((with_reducible apply Bk.later); rotate_left; (with_reducible assumption)) | ((with_reducible apply Bk.put); rotate_left; (first | (dsimp only; omega)))))⟩ (fun hHeld => ?_)
                clear hK K hOld B0 B1
                try simp only [Act.put, List.setIfInBounds_toArray, List.set_cons_zero, List.set_cons_succ]
                refine wpAnyH_take (i := 9) (v := ?_) (by simp only [List.getElem?_toArray, List.getElem?_cons_succ, List.getElem?_cons_zero]; rfl) (by kernel_rfl) (by kernel_rfl) (by kernel_rfl) (fun _ _ _ h => h) (Or.inl ⟨by rfl, ?_⟩) (by assumption) ?_
                rotate_left
                · intro w hSw; (try dsimp only at hSw); simp only [Bk] at hSw; go_simp; try with_reducible rfl
                try simp only [Act.put, List.setIfInBounds_toArray, List.set_cons_zero, List.set_cons_succ]
                refine wpAnyH_done (by kernel_rfl) ?_ _
                (try refine NoPanic.normal ?_)
                go_wp2
                go_meet
                exact ⟨_, rfl, by (repeat (first | with_reducible assumption | with_reducible exact Below.refl _ _ | ((with_reducible refine Below.setCell ?_ ?_ _); rotate_left; (first | exact Nat.le_refl _ | (dsimp only; omega) | (simp; done) | (simp; omega))) | with_reducible refine below_alloc ?_ _ | with_reducible apply below_drewN | with_reducible apply Below.drew | with_reducible refine below_step ?_ (by assumption))), by simp (maxDischargeDepth := 8) [Bk, go_sem, *], hHeld.1⟩
              exact AllReadyH.nil
            exact AllReadyH.nil
          refine AllReadyH.cons rfl (fun K hK => ?_) ?_
          · have hOld := hHeld; clear hHeld
            have B0 := hOld.1
            have B1 := hOld.2
            go_simp
            refine hK.out _ _ ⟨by (repeat (first | with_reducible assumption | with_reducible apply Bk.drew | with_reducible apply Bk.alloc | with_reducible refine Bk.later ?_ hRwz1 | with_reducible refine Bk.later ?_ hM | ((with_reducible apply Bk.later); rotate_left; (with_reducible assumption)) | ((with_reducible apply Bk.put); rotate_left; (first | (dsimp only; omega))))), by (repeat (first | with_reducible assumption | with_reducible apply Bk.drew | with_reducible apply Bk.alloc | with_reducible refine Bk.later ?_ hRwz1 | with_reducible refine Bk.later ?_ hM | ((with_reducible apply Bk.later); rotate_left; (with_reducible assumption)) | ((with_reducible apply Bk.put); rotate_left; (first | (dsimp only; omega)))))⟩ (fun hHeld => ?_)
            clear hK K hOld B0 B1
            try simp only [Act.put, List.setIfInBounds_toArray, List.set_cons_zero, List.set_cons_succ]
            refine wpAnyH_ready (rs := [3]) (by kernel_rfl) (by simp) ?_
            refine AllReadyH.cons rfl (fun K hK => ?_) ?_
            · have hOld := hHeld; clear hHeld
              have B0 := hOld.1
              have B1 := hOld.2
              go_simp
              (go_at_call 28; (with_reducible refine (k9 _).mono ?_); rintro e wz3 ⟨rfl, hR⟩)
              have hRwz3 := hR
              have hzR := hR.size
              (try simp at hzR)
              have GR0 : Bk (wz1.heap.size) 0 [.bool false, .int .u64 0, .int .u64 0, .int .u64 0, .int .u64 0] wz3 := Bk.later (by first | (simp [Bk, go_sem]; done) | (repeat (first | with_reducible assumption | with_reducible apply Bk.drew | with_reducible apply Bk.alloc | with_reducible refine Bk.later ?_ hRwz3 | with_reducible refine Bk.later ?_ hRwz1 | with_reducible refine Bk.later ?_ hM | ((with_reducible apply Bk.later); rotate_left; (with_reducible assumption)) | ((with_reducible apply Bk.put); rotate_left; (first | (dsimp only; omega)))))) hR
              have GS0 := GR0; simp only [Bk] at GS0
              have nl0 : wz1.heap.size < wz3.heap.size := by omega
              have HB : Below w.heap.size w _ := below_step (W := _) (by (repeat (first | with_reducible assumption | with_reducible exact Below.refl _ _ | ((with_reducible refine Below.setCell ?_ ?_ _); rotate_left; (first | exact Nat.le_refl _ | (dsimp only; omega) | (simp; done) | (simp; omega))) | with_reducible refine below_alloc ?_ _ | with_reducible apply below_drewN | with_reducible apply Below.drew | with_reducible refine below_step ?_ (by assumption)))) hR
              (try go_wp2_with (fail))
              refine hK.out _ _ ⟨by (repeat (first | with_reducible assumption | with_reducible apply Bk.drew | with_reducible apply Bk.alloc | with_reducible refine Bk.later ?_ hRwz3 | with_reducible refine Bk.later ?_ hRwz1 | with_reducible refine Bk.later ?_ hM | ((with_reducible apply Bk.later); rotate_left; (with_reducible assumption)) | ((with_reducible apply Bk.put); rotate_left; (first | (dsimp only; omega))))), by (repeat (first | with_reducible assumption | with_reducible apply Bk.drew | with_reducible apply Bk.alloc | with_reducible refine Bk.later ?_ hRwz3 | with_reducible refine Bk.later ?_ hRwz1 | with_reducible refine Bk.later ?_ hM | ((with_reducible apply Bk.later); rotate_left; (with_reducible assumption)) | ((with_reducible apply Bk.put); rotate_left; (first | (dsimp only; omega)))))⟩ (fun hHeld => ?_)
              clear hK K hOld B0 B1
              try simp only [Act.put, List.setIfInBounds_toArray, List.set_cons_zero, List.set_cons_succ]
              refine wpAnyH_take (i := 4) (v := ?_) (by simp only [List.getElem?_toArray, List.getElem?_cons_succ, List.getElem?_cons_zero]; rfl) (by kernel_rfl) (by kernel_rfl) (by kernel_rfl) (fun _ _ _ h => h) (Or.inl ⟨by rfl, ?_⟩) (by assumption) ?_
              rotate_left
              · intro w hSw; (try dsimp only at hSw); simp only [Bk] at hSw; go_simp; try with_reducible rfl
              try simp only [Act.put, List.setIfInBounds_toArray, List.set_cons_zero, List.set_cons_succ]
              refine wpAnyH_take (i := 5) (v := ?_) (by simp only [List.getElem?_toArray, List.getElem?_cons_succ, List.getElem?_cons_zero]; rfl) (by kernel_rfl) (by kernel_rfl) (by kernel_rfl) (fun _ _ _ h => h) (Or.inl ⟨by rfl, ?_⟩) (by assumption) ?_
              rotate_left
              · intro w hSw; (try dsimp only at hSw); simp only [Bk] at hSw; go_simp; try with_reducible rfl
              try simp only [Act.put, List.setIfInBounds_toArray, List.set_cons_zero, List.set_cons_succ]
              refine wpAnyH_take (i := 6) (v := ?_) (by simp only [List.getElem?_toArray, List.getElem?_cons_succ, List.getElem?_cons_zero]; rfl) (by kernel_rfl) (by kernel_rfl) (by kernel_rfl) (fun _ _ _ h => h) (Or.inl ⟨by rfl, ?_⟩) (by assumption) ?_
              rotate_left
              · intro w hSw; (try dsimp only at hSw); simp only [Bk] at hSw; go_simp; try with_reducible rfl
              try simp only [Act.put, List.setIfInBounds_toArray, List.set_cons_zero, List.set_cons_succ]
              refine wpAnyH_ready (rs := [8]) (by kernel_rfl) (by simp) ?_
              refine AllReadyH.cons rfl (fun K hK => ?_) ?_
              · have hOld := hHeld; clear hHeld
                have B0 := hOld.1
                have B1 := hOld.2
                have G0 : Bk (wz1.heap.size) 0 [.bool false, .int .u64 0, .int .u64 0, .int .u64 0, .int .u64 0] (wz3) := by first | (simp [Bk, go_sem]; done) | (repeat (first | with_reducible assumption | with_reducible apply Bk.drew | with_reducible apply Bk.alloc | with_reducible refine Bk.later ?_ hRwz3 | with_reducible refine Bk.later ?_ hRwz1 | with_reducible refine Bk.later ?_ hM | ((with_reducible apply Bk.later); rotate_left; (with_reducible assumption)) | ((with_reducible apply Bk.put); rotate_left; (first | (dsimp only; omega)))))
                simp only [Bk] at G0
                go_simp
                refine hK.out _ _ ⟨by (repeat (first | with_reducible assumption | with_reducible apply Bk.drew | with_reducible apply Bk.alloc | with_reducible refine Bk.later ?_ hRwz3 | with_reducible refine Bk.later ?_ hRwz1 | with_reducible refine Bk.later ?_ hM | ((with_reducible apply Bk.later); rotate_left; (with_reducible assumption)) | ((with_reducible apply Bk.put); rotate_left; (first | (dsimp only; omega))))), by (repeat (first | with_reducible assumption | with_reducible apply Bk.drew | with_reducible apply Bk.alloc | with_reducible refine Bk.later ?_ hRwz3 | with_reducible refine Bk.later ?_ hRwz1 | with_reducible refine Bk.later ?_ hM | ((with_reducible apply Bk.later); rotate_left; (with_reducible assumption)) | ((with_reducible apply Bk.put); rotate_left; (first | (dsimp only; omega)))))⟩ (fun hHeld => ?_)
                clear hK K hOld B0 B1
                try simp only [Act.put, List.setIfInBounds_toArray, List.set_cons_zero, List.set_cons_succ]
                refine wpAnyH_take (i := 9) (v := ?_) (by simp only [List.getElem?_toArray, List.getElem?_cons_succ, List.getElem?_cons_zero]; rfl) (by kernel_rfl) (by kernel_rfl) (by kernel_rfl) (fun _ _ _ h => h) (Or.inl ⟨by rfl, ?_⟩) (by assumption) ?_
                rotate_left
                · intro w hSw; (try dsimp only at hSw); simp only [Bk] at hSw; go_simp; try with_reducible rfl
                try simp only [Act.put, List.setIfInBounds_toArray, List.set_cons_zero, List.set_cons_succ]
                refine wpAnyH_done (by kernel_rfl) ?_ _
                (try refine NoPanic.normal ?_)
                go_wp2
                go_meet
                exact ⟨_, rfl, by (repeat (first | with_reducible assumption | with_reducible exact Below.refl _ _ | ((with_reducible refine Below.setCell ?_ ?_ _); rotate_left; (first | exact Nat.le_refl _ | (dsimp only; omega) | (simp; done) | (simp; omega))) | with_reducible refine below_alloc ?_ _ | with_reducible apply below_drewN | with_reducible apply Below.drew | with_reducible refine below_step ?_ (by assumption))), by simp (maxDischargeDepth := 8) [Bk, go_sem, *], hHeld.1⟩
              exact AllReadyH.nil
            exact AllReadyH.nil
          exact AllReadyH.nil
        refine AllReadyH.cons rfl (fun K hK => ?_) ?_
        · have hOld := hHeld; clear hHeld
          have B0 := hOld.1
          have B1 := hOld.2
          go_simp
          refine hK.out _ _ ⟨by (repeat (first | with_reducible assumption | with_reducible apply Bk.drew | with_reducible apply Bk.alloc | with_reducible refine Bk.later ?_ hM | ((with_reducible apply Bk.later); rotate_left; (with_reducible assumption)) | ((with_reducible apply Bk.put); rotate_left; (first | (dsimp only; omega))))), by (repeat (first | with_reducible assumption | with_reducible apply Bk.drew | with_reducible apply Bk.alloc | with_reducible refine Bk.later ?_ hM | ((with_reducible apply Bk.later); rotate_left; (with_reducible assumption)) | ((with_reducible apply Bk.put); rotate_left; (first | (dsimp only; omega)))))⟩ (fun hHeld => ?_)
          clear hK K hOld B0 B1
          try simp only [Act.put, List.setIfInBounds_toArray, List.set_cons_zero, List.set_cons_succ]
          refine wpAnyH_ready (rs := [2]) (by kernel_rfl) (by simp) ?_
          refine AllReadyH.cons rfl (fun K hK => ?_) ?_
          · have hOld := hHeld; clear hHeld
            have B0 := hOld.1
            have B1 := hOld.2
            go_simp
            (go_at_call 29; (with_reducible refine (k8 _).mono ?_); rintro e wz4 ⟨rfl, hR⟩)
            have hRwz4 := hR
            have hzR := hR.size
            (try simp at hzR)
            have GR0 : Bk (ws.heap.size) 0 [.bool false, .int .u64 0, .int .u64 0, .int .u64 0, .int .u64 0] wz4 := Bk.later (by first | (simp [Bk, go_sem]; done) | (repeat (first | with_reducible assumption | with_reducible apply Bk.drew | with_reducible apply Bk.alloc | with_reducible refine Bk.later ?_ hRwz4 | with_reducible refine Bk.later ?_ hM | ((with_reducible apply Bk.later); rotate_left; (with_reducible assumption)) | ((with_reducible apply Bk.put); rotate_left; (first | (dsimp only; omega)))))) hR
            have GS0 := GR0; simp only [Bk] at GS0
            have nl0 : ws.heap.size < wz4.heap.size := by omega
            have HB : Below w.heap.size w _ := below_step (W := _) (by (repeat (first | with_reducible assumption | with_reducible exact Below.refl _ _ | ((with_reducible refine Below.setCell ?_ ?_ _); rotate_left; (first | exact Nat.le_refl _ | (dsimp only; omega) | (simp; done) | (simp; omega))) | with_reducible refine below_alloc ?_ _ | with_reducible apply below_drewN | with_reducible apply Below.drew | with_reducible refine below_step ?_ (by assumption)))) hR
            (try go_wp2_with (fail))
            refine hK.out _ _ ⟨by (repeat (first | with_reducible assumption | with_reducible apply Bk.drew | with_reducible apply Bk.alloc | with_reducible refine Bk.later ?_ hRwz4 | with_reducible refine Bk.later ?_ hM | ((with_reducible apply Bk.later); rotate_left; (with_reducible assumption)) | ((with_reducible apply Bk.put); rotate_left; (first | (dsimp only; omega))))), by (repeat (first | with_reducible assumption | with_reducible apply Bk.drew | with_reducible apply Bk.alloc | with_reducible refine Bk.later ?_ hRwz4 | with_reducible refine Bk.later ?_ hM | ((with_reducible apply Bk.later); rotate_left; (with_reducible assumption)) | ((with_reducible apply Bk.put); rotate_left; (first | (dsimp only; omega)))))⟩ (fun hHeld => ?_)
            clear hK K hOld B0 B1
            try simp only [Act.put, List.setIfInBounds_toArray, List.set_cons_zero, List.set_cons_succ]
            refine wpAnyH_ready (rs := [3]) (by kernel_rfl) (by simp) ?_
            refine AllReadyH.cons rfl (fun K hK => ?_) ?_
            · have hOld := hHeld; clear hHeld
              have B0 := hOld.1
              have B1 := hOld.2
              go_simp
              (go_at_call 28; (with_reducible refine (k9 _).mono ?_); rintro e wz5 ⟨rfl, hR⟩)
              have hRwz5 := hR
              have hzR := hR.size
              (try simp at hzR)
              have GR0 : Bk (ws.heap.size) 0 [.bool false, .int .u64 0, .int .u64 0, .int .u64 0, .int .u64 0] wz5 := Bk.later (by first | (simp [Bk, go_sem]; done) | (repeat (first | with_reducible assumption | with_reducible apply Bk.drew | with_reducible apply Bk.alloc | with_reducible refine Bk.later ?_ hRwz5 | with_reducible refine Bk.later ?_ hRwz4 | with_reducible refine Bk.later ?_ hM | ((with_reducible apply Bk.later); rotate_left; (with_reducible assumption)) | ((with_reducible apply Bk.put); rotate_left; (first | (dsimp only; omega)))))) hR
              have GS0 := GR0; simp only [Bk] at GS0
              have nl0 : ws.heap.size < wz5.heap.size := by omega
              have HB : Below w.heap.size w _ := below_step (W := _) (by (repeat (first | with_reducible assumption | with_reducible exact Below.refl _ _ | ((with_reducible refine Below.setCell ?_ ?_ _); rotate_left; (first | exact Nat.le_refl _ | (dsimp only; omega) | (simp; done) | (simp; omega))) | with_reducible refine below_alloc ?_ _ | with_reducible apply below_drewN | with_reducible apply Below.drew | with_reducible refine below_step ?_ (by assumption)))) hR
              (try go_wp2_with (fail))
              refine hK.out _ _ ⟨by (repeat (first | with_reducible assumption | with_reducible apply Bk.drew | with_reducible apply Bk.alloc | with_reducible refine Bk.later ?_ hRwz5 | with_reducible refine Bk.later ?_ hRwz4 | with_reducible refine Bk.later ?_ hM | ((with_reducible apply Bk.later); rotate_left; (with_reducible assumption)) | ((with_reducible apply Bk.put); rotate_left; (first | (dsimp only; omega))))), by (repeat (first | with_reducible assumption | with_reducible apply Bk.drew | with_reducible apply Bk.alloc | with_reducible refine Bk.later ?_ hRwz5 | with_reducible refine Bk.later ?_ hRwz4 | with_reducible refine Bk.later ?_ hM | ((with_reducible apply Bk.later); rotate_left; (with_reducible assumption)) | ((with_reducible apply Bk.put); rotate_left; (first | (dsimp only; omega)))))⟩ (fun hHeld => ?_)
              clear hK K hOld B0 B1
              try simp only [Act.put, List.setIfInBounds_toArray, List.set_cons_zero, List.set_cons_succ]
              refine wpAnyH_take (i := 4) (v := ?_) (by simp only [List.getElem?_toArray, List.getElem?_cons_succ, List.getElem?_cons_zero]; rfl) (by kernel_rfl) (by kernel_rfl) (by kernel_rfl) (fun _ _ _ h => h) (Or.inl ⟨by rfl, ?_⟩) (by assumption) ?_
              rotate_left
              · intro w hSw; (try dsimp only at hSw); simp only [Bk] at hSw; go_simp; try with_reducible rfl
              try simp only [Act.put, List.setIfInBounds_toArray, List.set_cons_zero, List.set_cons_succ]
              refine wpAnyH_take (i := 5) (v := ?_) (by simp only [List.getElem?_toArray, List.getElem?_cons_succ, List.getElem?_cons_zero]; rfl) (by kernel_rfl) (by kernel_rfl) (by kernel_rfl) (fun _ _ _ h => h) (Or.inl ⟨by rfl, ?_⟩) (by assumption) ?_
              rotate_left
              · intro w hSw; (try dsimp only at hSw); simp only [Bk] at hSw; go_simp; try with_reducible rfl
              try simp only [Act.put, List.setIfInBounds_toArray, List.set_cons_zero, List.set_cons_succ]
              refine wpAnyH_take (i := 6) (v := ?_) (by simp only [List.getElem?_toArray, List.getElem?_cons_succ, List.getElem?_cons_zero]; rfl) (by kernel_rfl) (by kernel_rfl) (by kernel_rfl) (fun _ _ _ h => h) (Or.inl ⟨by rfl, ?_⟩) (by assumption) ?_
              rotate_left
              · intro w hSw; (try dsimp only at hSw); simp only [Bk] at hSw; go_simp; try with_reducible rfl
              try simp only [Act.put, List.setIfInBounds_toArray, List.set_cons_zero, List.set_cons_succ]
              refine wpAnyH_ready (rs := [8]) (by kernel_rfl) (by simp) ?_
              refine AllReadyH.cons rfl (fun K hK => ?_) ?_
              · have hOld := hHeld; clear hHeld
                have B0 := hOld.1
                have B1 := hOld.2
                have G0 : Bk (ws.heap.size) 0 [.bool false, .int .u64 0, .int .u64 0, .int .u64 0, .int .u64 0] (wz5) := by first | (simp [Bk, go_sem]; done) | (repeat (first | with_reducible assumption | with_reducible apply Bk.drew | with_reducible apply Bk.alloc | with_reducible refine Bk.later ?_ hRwz5 | with_reducible refine Bk.later ?_ hRwz4 | with_reducible refine Bk.later ?_ hM | ((with_reducible apply Bk.later); rotate_left; (with_reducible assumption)) | ((with_reducible apply Bk.put); rotate_left; (first | (dsimp only; omega)))))
                simp only [Bk] at G0
                go_simp
                refine hK.out _ _ ⟨by (repeat (first | with_reducible assumption | with_reducible apply Bk.drew | with_reducible apply Bk.alloc | with_reducible refine Bk.later ?_ hRwz5 | with_reducible refine Bk.later ?_ hRwz4 | with_reducible refine Bk.later ?_ hM | ((with_reducible apply Bk.later); rotate_left; (with_reducible assumption)) | ((with_reducible apply Bk.put); rotate_left; (first | (dsimp only; omega))))), by (repeat (first | with_reducible assumption | with_reducible apply Bk.drew | with_reducible apply Bk.alloc | with_reducible refine Bk.later ?_ hRwz5 | with_reducible refine Bk.later ?_ hRwz4 | with_reducible refine Bk.later ?_ hM | ((with_reducible apply Bk.later); rotate_left; (with_reducible assumption)) | ((with_reducible apply Bk.put); rotate_left; (first | (dsimp only; omega)))))⟩ (fun hHeld => ?_)
                clear hK K hOld B0 B1
                try simp only [Act.put, List.setIfInBounds_toArray, List.set_cons_zero, List.set_cons_succ]
                refine wpAnyH_take (i := 9) (v := ?_) (by simp only [List.getElem?_toArray, List.getElem?_cons_succ, List.getElem?_cons_zero]; rfl) (by kernel_rfl) (by kernel_rfl) (by kernel_rfl) (fun _ _ _ h => h) (Or.inl ⟨by rfl, ?_⟩) (by assumption) ?_
                rotate_left
                · intro w hSw; (try dsimp only at hSw); simp only [Bk] at hSw; go_simp; try with_reducible rfl
                try simp only [Act.put, List.setIfInBounds_toArray, List.set_cons_zero, List.set_cons_succ]
                refine wpAnyH_done (by kernel_rfl) ?_ _
                (try refine NoPanic.normal ?_)
                go_wp2
                go_meet
                exact ⟨_, rfl, by (repeat (first | with_reducible assumption | with_reducible exact Below.refl _ _ | ((with_reducible refine Below.setCell ?_ ?_ _); rotate_left; (first | exact Nat.le_refl _ | (dsimp only; omega) | (simp; done) | (simp; omega))) | with_reducible refine below_alloc ?_ _ | with_reducible apply below_drewN | with_reducible apply Below.drew | with_reducible refine below_step ?_ (by assumption))), by simp (maxDischargeDepth := 8) [Bk, go_sem, *], hHeld.1⟩
              exact AllReadyH.nil
            exact AllReadyH.nil
          exact AllReadyH.nil
        exact AllReadyH.nil
      case rest =>
        obtain ⟨k, rfl, HB, K0, G⟩ := hcut
        have C_K0 := K0; simp only [Bk] at C_K0
        have C_G := G; simp only [Bk] at C_G
        rename World => wt
        go_upto_region 8 with (fail)
        (try refine wp_region_noPanic ?_)
        refine wp_region_held_drew (S := (fun (w' : World) => w'.cell? ⟨wa.heap.size, 0, none⟩ = some (.bool gs) ∧ w'.cell? ⟨wa.heap.size, 1, none⟩ = some (.int .u64 (d0 ms)) ∧ w'.cell? ⟨wa.heap.size, 2, none⟩ = some (.int .u64 (d1 ms)) ∧ w'.cell? ⟨wa.heap.size, 3, none⟩ = some (.int .u64 (d2 ms)) ∧ w'.cell? ⟨wa.heap.size, 4, none⟩ = some (.int .u64 (d3 ms)) ∧ w'.cell? ⟨k, 0, none⟩ = some (.bool gd) ∧ w'.cell? ⟨k, 1, none⟩ = some (.int .u64 (d0 md)) ∧ w'.cell? ⟨k, 2, none⟩ = some (.int .u64 (d1 md)) ∧ w'.cell? ⟨k, 3, none⟩ = some (.int .u64 (d2 md)) ∧ w'.cell? ⟨k, 4, none⟩ = some (.int .u64 (d3 md)))) (by kernel_rfl) ⟨(by first | (simp (maxDischargeDepth := 6) [go_sem, *]; done)), (by first | (simp (maxDischargeDepth := 6) [go_sem, *]; done)), (by first | (simp (maxDischargeDepth := 6) [go_sem, *]; done)), (by first | (simp (maxDischargeDepth := 6) [go_sem, *]; done)), (by first | (simp (maxDischargeDepth := 6) [go_sem, *]; done)), (by first | (simp (maxDischargeDepth := 6) [go_sem, *]; done)), (by first | (simp (maxDischargeDepth := 6) [go_sem, *]; done)), (by first | (simp (maxDischargeDepth := 6) [go_sem, *]; done)), (by first | (simp (maxDischargeDepth := 6) [go_sem, *]; done)), (by first | (simp (maxDischargeDepth := 6) [go_sem, *]; done))⟩ (fun hHeld => ?_)
        refine wpAnyH_take (i := 0) (v := ?_) (by simp only [List.getElem?_toArray, List.getElem?_cons_succ, List.getElem?_cons_zero]; rfl) (by kernel_rfl) (by kernel_rfl) (by kernel_rfl) (fun _ _ _ h => h) (Or.inl ⟨by rfl, ?_⟩) (by assumption) ?_
        rotate_left
        · intro w hSw; (try dsimp only at hSw); go_simp; try with_reducible rfl
        try simp only [Act.put, List.setIfInBounds_toArray, List.set_cons_zero, List.set_cons_succ]
        refine wpAnyH_take (i := 2) (v := ?_) (by simp only [List.getElem?_toArray, List.getElem?_cons_succ, List.getElem?_cons_zero]; rfl) (by kernel_rfl) (by kernel_rfl) (by kernel_rfl) (fun _ _ _ h => h) (Or.inl ⟨by rfl, ?_⟩) (by assumption) ?_
        rotate_left
        · intro w hSw; (try dsimp only at hSw); go_simp; try with_reducible rfl
        try simp only [Act.put, List.setIfInBounds_toArray, List.set_cons_zero, List.set_cons_succ]
        have hOld := hHeld; clear hHeld
        refine wpAnyH_ready (rs := [1]) (by kernel_rfl) (by simp) (AllReadyH.cons rfl (fun K hK => ?_) AllReadyH.nil)
        go_simp
        (go_at_call 29; (with_reducible refine (k8 _).mono ?_); rintro e w1 ⟨rfl, hM⟩)
        (try go_wp2_with (fail))
        refine hK.out _ _ ⟨(by first | exact mv_cell hM (by first | (dsimp only; omega) | (simp; omega)) hOld.1 | exact cell_later hM hOld.1 | exact HT.cb | exact HT.cc | (simp (maxDischargeDepth := 6) [go_sem, *]; done)), (by first | exact mv_cell hM (by first | (dsimp only; omega) | (simp; omega)) hOld.2.1 | exact cell_later hM hOld.2.1 | exact HT.cb | exact HT.cc | (simp (maxDischargeDepth := 6) [go_sem, *]; done)), (by first | exact mv_cell hM (by first | (dsimp only; omega) | (simp; omega)) hOld.2.2.1 | exact cell_later hM hOld.2.2.1 | exact HT.cb | exact HT.cc | (simp (maxDischargeDepth := 6) [go_sem, *]; done)), (by first | exact mv_cell hM (by first | (dsimp only; omega) | (simp; omega)) hOld.2.2.2.1 | exact cell_later hM hOld.2.2.2.1 | exact HT.cb | exact HT.cc | (simp (maxDischargeDepth := 6) [go_sem, *]; done)), (by first | exact mv_cell hM (by first | (dsimp only; omega) | (simp; omega)) hOld.2.2.2.2.1 | exact cell_later hM hOld.2.2.2.2.1 | exact HT.cb | exact HT.cc | (simp (maxDischargeDepth := 6) [go_sem, *]; done)), (by first | exact mv_cell hM (by first | (dsimp only; omega) | (simp; omega)) hOld.2.2.2.2.2.1 | exact cell_later hM hOld.2.2.2.2.2.1 | exact HT.cb | exact HT.cc | (simp (maxDischargeDepth := 6) [go_sem, *]; done)), (by first | exact mv_cell hM (by first | (dsimp only; omega) | (simp; omega)) hOld.2.2.2.2.2.2.1 | exact cell_later hM hOld.2.2.2.2.2.2.1 | exact HT.cb | exact HT.cc | (simp (maxDischargeDepth := 6) [go_sem, *]; done)), (by first | exact mv_cell hM (by first | (dsimp only; omega) | (simp; omega)) hOld.2.2.2.2.2.2.2.1 | exact cell_later hM hOld.2.2.2.2.2.2.2.1 | exact HT.cb | exact HT.cc | (simp (maxDischargeDepth := 6) [go_sem, *]; done)), (by first | exact mv_cell hM (by first | (dsimp only; omega) | (simp; omega)) hOld.2.2.2.2.2.2.2.2.1 | exact cell_later hM hOld.2.2.2.2.2.2.2.2.1 | exact HT.cb | exact HT.cc | (simp (maxDischargeDepth := 6) [go_sem, *]; done)), (by first | exact mv_cell hM (by first | (dsimp only; omega) | (simp; omega)) hOld.2.2.2.2.2.2.2.2.2 | exact cell_later hM hOld.2.2.2.2.2.2.2.2.2 | exact HT.cb | exact HT.cc | (simp (maxDischargeDepth := 6) [go_sem, *]; done))⟩ (fun hHeld => ?_)
        clear hK K hOld
        try simp only [Act.put, List.setIfInBounds_toArray, List.set_cons_zero, List.set_cons_succ]
        have HB := below_step (W := _) (by (repeat (first | with_reducible assumption | with_reducible exact Below.refl _ _ | ((with_reducible refine Below.setCell ?_ ?_ _); rotate_left; (first | exact Nat.le_refl _ | (dsimp only; omega) | (simp; done) | (simp; omega))) | with_reducible refine below_alloc ?_ _ | with_reducible apply below_drewN | with_reducible apply Below.drew | with_reducible refine below_step ?_ (by assumption)))) hM
        have hOld := hHeld; clear hHeld
        refine wpAnyH_ready (rs := [3]) (by kernel_rfl) (by simp) (AllReadyH.cons rfl (fun K hK => ?_) AllReadyH.nil)
        go_simp
        (go_at_call 30; (with_reducible refine (kp _).mono ?_); rintro e w1 ⟨rfl, hM⟩)
        (try go_wp2_with (fail))
        refine hK.out _ _ ⟨(by first | exact mv_cell hM (by first | (dsimp only; omega) | (simp; omega)) hOld.1 | exact cell_later hM hOld.1 | exact HT.cb | exact HT.cc | (simp (maxDischargeDepth := 6) [go_sem, *]; done)), (by first | exact mv_cell hM (by first | (dsimp only; omega) | (simp; omega)) hOld.2.1 | exact cell_later hM hOld.2.1 | exact HT.cb | exact HT.cc | (simp (maxDischargeDepth := 6) [go_sem, *]; done)), (by first | exact mv_cell hM (by first | (dsimp only; omega) | (simp; omega)) hOld.2.2.1 | exact cell_later hM hOld.2.2.1 | exact HT.cb | exact HT.cc | (simp (maxDischargeDepth := 6) [go_sem, *]; done)), (by first | exact mv_cell hM (by first | (dsimp only; omega) | (simp; omega)) hOld.2.2.2.1 | exact cell_later hM hOld.2.2.2.1 | exact HT.cb | exact HT.cc | (simp (maxDischargeDepth := 6) [go_sem, *]; done)), (by first | exact mv_cell hM (by first | (dsimp only; omega) | (simp; omega)) hOld.2.2.2.2.1 | exact cell_later hM hOld.2.2.2.2.1 | exact HT.cb | exact HT.cc | (simp (maxDischargeDepth := 6) [go_sem, *]; done)), (by first | exact mv_cell hM (by first | (dsimp only; omega) | (simp; omega)) hOld.2.2.2.2.2.1 | exact cell_later hM hOld.2.2.2.2.2.1 | exact HT.cb | exact HT.cc | (simp (maxDischargeDepth := 6) [go_sem, *]; done)), (by first | exact mv_cell hM (by first | (dsimp only; omega) | (simp; omega)) hOld.2.2.2.2.2.2.1 | exact cell_later hM hOld.2.2.2.2.2.2.1 | exact HT.cb | exact HT.cc | (simp (maxDischargeDepth := 6) [go_sem, *]; done)), (by first | exact mv_cell hM (by first | (dsimp only; omega) | (simp; omega)) hOld.2.2.2.2.2.2.2.1 | exact cell_later hM hOld.2.2.2.2.2.2.2.1 | exact HT.cb | exact HT.cc | (simp (maxDischargeDepth := 6) [go_sem, *]; done)), (by first | exact mv_cell hM (by first | (dsimp only; omega) | (simp; omega)) hOld.2.2.2.2.2.2.2.2.1 | exact cell_later hM hOld.2.2.2.2.2.2.2.2.1 | exact HT.cb | exact HT.cc | (simp (maxDischargeDepth := 6) [go_sem, *]; done)), (by first | exact mv_cell hM (by first | (dsimp only; omega) | (simp; omega)) hOld.2.2.2.2.2.2.2.2.2 | exact cell_later hM hOld.2.2.2.2.2.2.2.2.2 | exact HT.cb | exact HT.cc | (simp (maxDischargeDepth := 6) [go_sem, *]; done))⟩ (fun hHeld => ?_)
        clear hK K hOld
        try simp only [Act.put, List.setIfInBounds_toArray, List.set_cons_zero, List.set_cons_succ]
        have HB := below_step HB hM
        refine wpAnyH_take (i := 4) (v := ?_) (by simp only [List.getElem?_toArray, List.getElem?_cons_succ, List.getElem?_cons_zero]; rfl) (by kernel_rfl) (by kernel_rfl) (by kernel_rfl) (fun _ _ _ h => h) (Or.inl ⟨by rfl, ?_⟩) (by assumption) ?_
        rotate_left
        · intro w hSw; (try dsimp only at hSw); go_simp; try with_reducible rfl
        try simp only [Act.put, List.setIfInBounds_toArray, List.set_cons_zero, List.set_cons_succ]
        refine wpAnyH_take (i := 5) (v := ?_) (by simp only [List.getElem?_toArray, List.getElem?_cons_succ, List.getElem?_cons_zero]; rfl) (by kernel_rfl) (by kernel_rfl) (by kernel_rfl) (fun _ _ _ h => h) (Or.inl ⟨by rfl, ?_⟩) (by assumption) ?_
        rotate_left
        · intro w hSw; (try dsimp only at hSw); go_simp; try with_reducible rfl
        try simp only [Act.put, List.setIfInBounds_toArray, List.set_cons_zero, List.set_cons_succ]
        refine wpAnyH_done (by kernel_rfl) ?_ _
        (try refine NoPanic.normal ?_)
        (try clear q0); (try clear q1); (try clear q2); (try clear q3); (try clear q4); (try clear q5); (try clear q6); (try clear q7); (try clear q8); (try clear q9); obtain ⟨q0, q1, q2, q3, q4, q5, q6, q7, q8, q9⟩ := hHeld
        go_wp2
        go_ret2
        exact ⟨by rw [EB.out, EV.out]; rfl, by first | exact HB | (repeat (first | with_reducible assumption | with_reducible exact Below.refl _ _ | ((with_reducible refine Below.setCell ?_ ?_ _); rotate_left; (first | exact Nat.le_refl _ | (dsimp only; omega) | (simp; done) | (simp; omega))) | with_reducible refine below_alloc ?_ _ | with_reducible apply below_drewN | with_reducible apply Below.drew | with_reducible refine below_step ?_ (by assumption)))⟩
end Go.Proofs.Ytcijddjfadcanaa
