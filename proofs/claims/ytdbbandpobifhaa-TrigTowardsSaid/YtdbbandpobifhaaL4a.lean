/- The walks of chapter 4's example and of TrigTurns, TrigRises, TrigBack, TrigRound. -/
import Derived.Test.YtdbbandpobifhaaT4
set_option linter.unusedSimpArgs false
set_option linter.unusedVariables false
namespace Go.Proofs.Ytdbbandpobifhaa
open Go.RowKit
set_option maxHeartbeats 4000000 in
theorem cAwake4 (w : World) : Calls Try.prog 12 #[] w fun e w' => e = .returned (.bool true) ∧ Below w.heap.size w w' := by
  have k1 := fun W => cSin 536870912 W (by decide) (by decide)
  rw [sinv_45] at k1
  have k2 := fun W => cTow 4294967296 4294967296 536870912 W (by decide) (by decide) (by decide) (by decide) isT_45
  have k3 := fun W => cCos 0 W (by decide) (by decide)
  rw [cosv_45] at k3
  go_enter Try.func12, Try.ntmps12
  go_wp2_with (first | (go_at_call 13; (with_reducible refine (k1 _).mono ?_); rintro e w1 ⟨rfl, hM⟩) | (go_at_call 17; (with_reducible refine (k2 _).mono ?_); rintro e w1 ⟨rfl, hM⟩) | (go_at_call 15; (with_reducible refine (k3 _).mono ?_); rintro e w1 ⟨rfl, hM⟩))
  go_ret
  exact ⟨rfl, by (repeat (first | with_reducible assumption | with_reducible exact Below.refl _ _ | ((with_reducible refine Below.setCell ?_ ?_ _); rotate_left; (first | exact Nat.le_refl _ | (dsimp only; omega) | (simp; done) | (simp; omega))) | with_reducible refine below_alloc ?_ _ | with_reducible apply below_drewN | with_reducible apply Below.drew | with_reducible refine below_step ?_ (by assumption)))⟩
set_option maxHeartbeats 4000000 in
theorem walk_TrigTurns (x0 : Int) (w : World) (x0_0 : 0 ≤ x0) (x0_1 : x0 ≤ 4294967295) :
    Calls Try.prog 6 #[.int .u32 x0] w fun e w' => e = .returned (.bool true) ∧ Below w.heap.size w w' := by
  have b := sinv_bd x0 x0_0 (by omega)
  have k1 := fun W => cSin x0 W x0_0 x0_1
  have k2 := fun W => cSin ((x0 + 2147483648) % 4294967296) W (by omega) (by omega)
  rw [sinv_half x0 x0_0 (by omega)] at k2
  have k3 := fun W => cSin ((2147483648 - x0) % 4294967296) W (by omega) (by omega)
  rw [sinv_mirror x0 x0_0 (by omega)] at k3
  have k4 := fun W => cCos x0 W x0_0 x0_1
  have k5 := fun W => cCos ((-x0) % 4294967296) W (by omega) (by omega)
  rw [cosv_even x0 x0_0 (by omega)] at k5
  generalize sinv x0 = s at *
  generalize cosv x0 = c at *
  go_enter Try.func6, Try.ntmps6
  go_wp2_with (first | (go_at_call 13; (with_reducible refine (k1 _).mono ?_); rintro e w1 ⟨rfl, hM⟩) | (go_at_call 13; (with_reducible refine (k2 _).mono ?_); rintro e w1 ⟨rfl, hM⟩) | (go_at_call 13; (with_reducible refine (k3 _).mono ?_); rintro e w1 ⟨rfl, hM⟩) | (go_at_call 15; (with_reducible refine (k4 _).mono ?_); rintro e w1 ⟨rfl, hM⟩) | (go_at_call 15; (with_reducible refine (k5 _).mono ?_); rintro e w1 ⟨rfl, hM⟩) | (go_at_call 12; (with_reducible refine (cAwake4 _).mono ?_); rintro e w1 ⟨rfl, hM⟩))
  go_ret
  exact ⟨rfl, by (repeat (first | with_reducible assumption | with_reducible exact Below.refl _ _ | ((with_reducible refine Below.setCell ?_ ?_ _); rotate_left; (first | exact Nat.le_refl _ | (dsimp only; omega) | (simp; done) | (simp; omega))) | with_reducible refine below_alloc ?_ _ | with_reducible apply below_drewN | with_reducible apply Below.drew | with_reducible refine below_step ?_ (by assumption)))⟩
set_option maxHeartbeats 4000000 in
theorem walk_TrigRises (x0 x1 : Int) (w : World) (x0_0 : 0 ≤ x0) (x0_1 : x0 ≤ 4294967295) (x1_0 : 0 ≤ x1) (x1_1 : x1 ≤ 4294967295) :
    Calls Try.prog 7 #[.int .u32 x0, .int .u32 x1] w fun e w' => e = .returned (.bool true) ∧ Below w.heap.size w w' := by
  rcases (show x1 < x0 ∨ (x0 ≤ x1 ∧ 1073741824 < x1) ∨ (x0 ≤ x1 ∧ x1 ≤ 1073741824) by omega) with h | ⟨h, h2⟩ | ⟨h, h2⟩
  · go_enter Try.func7, Try.ntmps7
    go_wp2_with (first | (go_at_call 12; (with_reducible refine (cAwake4 _).mono ?_); rintro e w1 ⟨rfl, hM⟩))
    go_ret
    exact ⟨rfl, by (repeat (first | with_reducible assumption | with_reducible exact Below.refl _ _ | ((with_reducible refine Below.setCell ?_ ?_ _); rotate_left; (first | exact Nat.le_refl _ | (dsimp only; omega) | (simp; done) | (simp; omega))) | with_reducible refine below_alloc ?_ _ | with_reducible apply below_drewN | with_reducible apply Below.drew | with_reducible refine below_step ?_ (by assumption)))⟩
  · go_enter Try.func7, Try.ntmps7
    go_wp2_with (first | (go_at_call 12; (with_reducible refine (cAwake4 _).mono ?_); rintro e w1 ⟨rfl, hM⟩))
    go_ret
    exact ⟨rfl, by (repeat (first | with_reducible assumption | with_reducible exact Below.refl _ _ | ((with_reducible refine Below.setCell ?_ ?_ _); rotate_left; (first | exact Nat.le_refl _ | (dsimp only; omega) | (simp; done) | (simp; omega))) | with_reducible refine below_alloc ?_ _ | with_reducible apply below_drewN | with_reducible apply Below.drew | with_reducible refine below_step ?_ (by assumption)))⟩
  · have r := sinv_rises x0 x1 x0_0 h h2
    have k1 := fun W => cSin x0 W x0_0 x0_1
    have k2 := fun W => cSin x1 W x1_0 x1_1
    have k3 := fun W => cCos x0 W x0_0 x0_1
    have k4 := fun W => cCos x1 W x1_0 x1_1
    generalize sinv x0 = s0 at *
    generalize cosv x0 = c0 at *
    generalize sinv x1 = s1 at *
    generalize cosv x1 = c1 at *
    obtain ⟨r1, r2⟩ := r
    go_enter Try.func7, Try.ntmps7
    go_wp2_with (first | (go_at_call 13; (with_reducible refine (k1 _).mono ?_); rintro e w1 ⟨rfl, hM⟩) | (go_at_call 13; (with_reducible refine (k2 _).mono ?_); rintro e w1 ⟨rfl, hM⟩) | (go_at_call 15; (with_reducible refine (k3 _).mono ?_); rintro e w1 ⟨rfl, hM⟩) | (go_at_call 15; (with_reducible refine (k4 _).mono ?_); rintro e w1 ⟨rfl, hM⟩) | (go_at_call 12; (with_reducible refine (cAwake4 _).mono ?_); rintro e w1 ⟨rfl, hM⟩))
    go_ret
    exact ⟨rfl, by (repeat (first | with_reducible assumption | with_reducible exact Below.refl _ _ | ((with_reducible refine Below.setCell ?_ ?_ _); rotate_left; (first | exact Nat.le_refl _ | (dsimp only; omega) | (simp; done) | (simp; omega))) | with_reducible refine below_alloc ?_ _ | with_reducible apply below_drewN | with_reducible apply Below.drew | with_reducible refine below_step ?_ (by assumption)))⟩
set_option maxHeartbeats 4000000 in
theorem walk_TrigBack (x0 x1 : Int) (w : World) (x0_0 : -9223372036854775808 ≤ x0) (x0_1 : x0 ≤ 9223372036854775807) (x1_0 : -9223372036854775808 ≤ x1) (x1_1 : x1 ≤ 9223372036854775807) :
    Calls Try.prog 8 #[.int .i64 x0, .int .i64 x1] w fun e w' => e = .returned (.bool true) ∧ Below w.heap.size w w' := by
  rcases (show x0 = 0 ∨ (¬ x0 = 0 ∧ x1 = 0) ∨ (¬ x0 = 0 ∧ ¬ x1 = 0 ∧ x0 = -9223372036854775808) ∨ (¬ x0 = 0 ∧ ¬ x1 = 0 ∧ ¬ x0 = -9223372036854775808 ∧ x1 = -9223372036854775808) ∨ (¬ x0 = 0 ∧ ¬ x1 = 0 ∧ ¬ x0 = -9223372036854775808 ∧ ¬ x1 = -9223372036854775808) by omega) with h | ⟨h, h2⟩ | ⟨h, h2, h3⟩ | ⟨h, h2, h3, h4⟩ | ⟨h, h2, h3, h4⟩
  · go_enter Try.func8, Try.ntmps8
    go_wp2_with (first | (go_at_call 12; (with_reducible refine (cAwake4 _).mono ?_); rintro e w1 ⟨rfl, hM⟩))
    go_ret
    exact ⟨rfl, by (repeat (first | with_reducible assumption | with_reducible exact Below.refl _ _ | ((with_reducible refine Below.setCell ?_ ?_ _); rotate_left; (first | exact Nat.le_refl _ | (dsimp only; omega) | (simp; done) | (simp; omega))) | with_reducible refine below_alloc ?_ _ | with_reducible apply below_drewN | with_reducible apply Below.drew | with_reducible refine below_step ?_ (by assumption)))⟩
  · go_enter Try.func8, Try.ntmps8
    go_wp2_with (first | (go_at_call 12; (with_reducible refine (cAwake4 _).mono ?_); rintro e w1 ⟨rfl, hM⟩))
    go_ret
    exact ⟨rfl, by (repeat (first | with_reducible assumption | with_reducible exact Below.refl _ _ | ((with_reducible refine Below.setCell ?_ ?_ _); rotate_left; (first | exact Nat.le_refl _ | (dsimp only; omega) | (simp; done) | (simp; omega))) | with_reducible refine below_alloc ?_ _ | with_reducible apply below_drewN | with_reducible apply Below.drew | with_reducible refine below_step ?_ (by assumption)))⟩
  · go_enter Try.func8, Try.ntmps8
    go_wp2_with (first | (go_at_call 12; (with_reducible refine (cAwake4 _).mono ?_); rintro e w1 ⟨rfl, hM⟩))
    go_ret
    exact ⟨rfl, by (repeat (first | with_reducible assumption | with_reducible exact Below.refl _ _ | ((with_reducible refine Below.setCell ?_ ?_ _); rotate_left; (first | exact Nat.le_refl _ | (dsimp only; omega) | (simp; done) | (simp; omega))) | with_reducible refine below_alloc ?_ _ | with_reducible apply below_drewN | with_reducible apply Below.drew | with_reducible refine below_step ?_ (by assumption)))⟩
  · go_enter Try.func8, Try.ntmps8
    go_wp2_with (first | (go_at_call 12; (with_reducible refine (cAwake4 _).mono ?_); rintro e w1 ⟨rfl, hM⟩))
    go_ret
    exact ⟨rfl, by (repeat (first | with_reducible assumption | with_reducible exact Below.refl _ _ | ((with_reducible refine Below.setCell ?_ ?_ _); rotate_left; (first | exact Nat.le_refl _ | (dsimp only; omega) | (simp; done) | (simp; omega))) | with_reducible refine below_alloc ?_ _ | with_reducible apply below_drewN | with_reducible apply Below.drew | with_reducible refine below_step ?_ (by assumption)))⟩
  · obtain ⟨d, hd⟩ := isT_ex x0 x1
    have hb := isT_bd hd
    have hk := isT_back h h2 hd
    have k1 := fun W => cTow x0 x1 d W (by omega) (by omega) (by omega) (by omega) (by rw [show max x0 (-9223372036854775807) = x0 by omega, show max x1 (-9223372036854775807) = x1 by omega]; exact hd)
    have k2 := fun W => cTow (-x0) (-x1) ((d + 2147483648) % 4294967296) W (by omega) (by omega) (by omega) (by omega) (by rw [show max (-x0) (-9223372036854775807) = -x0 by omega, show max (-x1) (-9223372036854775807) = -x1 by omega]; exact hk)
    clear hd hk
    go_enter Try.func8, Try.ntmps8
    go_wp2_with (first | (go_at_call 17; (with_reducible refine (k1 _).mono ?_); rintro e w1 ⟨rfl, hM⟩) | (go_at_call 17; (with_reducible refine (k2 _).mono ?_); rintro e w1 ⟨rfl, hM⟩) | (go_at_call 12; (with_reducible refine (cAwake4 _).mono ?_); rintro e w1 ⟨rfl, hM⟩))
    all_goals go_ret
    all_goals exact ⟨rfl, by (repeat (first | with_reducible assumption | with_reducible exact Below.refl _ _ | ((with_reducible refine Below.setCell ?_ ?_ _); rotate_left; (first | exact Nat.le_refl _ | (dsimp only; omega) | (simp; done) | (simp; omega))) | with_reducible refine below_alloc ?_ _ | with_reducible apply below_drewN | with_reducible apply Below.drew | with_reducible refine below_step ?_ (by assumption)))⟩
set_option maxHeartbeats 4000000 in
theorem walk_TrigRound (x0 : Int) (w : World) (x0_0 : 0 ≤ x0) (x0_1 : x0 ≤ 4294967295) :
    Calls Try.prog 9 #[.int .u32 x0] w fun e w' => e = .returned (.bool true) ∧ Below w.heap.size w w' := by
  have r := sin_round x0 x0_0 (by omega)
  have bs := sinv_bd x0 x0_0 (by omega)
  have bc := cosv_bd x0
  have k1 := fun W => cSin x0 W x0_0 x0_1
  have k2 := fun W => cCos x0 W x0_0 x0_1
  generalize sinv x0 = s at *
  generalize cosv x0 = c at *
  have m1 := mul_bd s s (by omega) (by omega) (by omega) (by omega)
  have m2 := mul_bd c c (by omega) (by omega) (by omega) (by omega)
  have k3 := fun W => cWMul s s W (by omega) (by omega) (by omega) (by omega)
  have k4 := fun W => cWMul c c W (by omega) (by omega) (by omega) (by omega)
  generalize s * s = p at *
  generalize c * c = q at *
  have k5 := fun W => nWAdd p q W (by omega) (by omega) (by omega) (by omega)
  rw [cw_yes (p + q) (by omega) (by omega), fw_yes (p + q) (by omega) (by omega)] at k5
  have k6 := fun W => nWAdd (p + q) (-18446744073709551616) W (by omega) (by omega) (by omega) (by omega)
  rw [cw_yes (p + q + -18446744073709551616) (by omega) (by omega), fw_yes (p + q + -18446744073709551616) (by omega) (by omega)] at k6
  obtain ⟨n, hn⟩ : ∃ n, p + q + -18446744073709551616 = n := ⟨_, rfl⟩
  rw [hn] at k6
  rw [show hw (-18446744073709551616) = -1 by decide, show lw (-18446744073709551616) = 0 by decide] at k6
  have r1 : -36028797018963968 ≤ n ∧ n ≤ 36028797018963968 := by omega
  have o1 := fun W => cWOf 36028797018963968 W (by decide) (by decide)
  have o2 := fun W => cWOf (-36028797018963968) W (by decide) (by decide)
  have c1 := fun W => nWCmp n 36028797018963968 W
  have c2 := fun W => nWCmp n (-36028797018963968) W
  have e1 : cmp3 n 36028797018963968 ≤ 0 := by unfold cmp3; split <;> (try split) <;> omega
  have e2 : 0 ≤ cmp3 n (-36028797018963968) := by unfold cmp3; split <;> (try split) <;> omega
  generalize cmp3 n 36028797018963968 = z1 at *
  generalize cmp3 n (-36028797018963968) = z2 at *
  generalize hw n = nh at *
  generalize lw n = nl at *
  generalize p + q = pq at *
  generalize hw p = ph at *
  generalize lw p = pl at *
  generalize hw q = qh at *
  generalize lw q = ql at *
  generalize hw pq = pqh at *
  generalize lw pq = pql at *
  generalize hw 36028797018963968 = ah at *
  generalize lw 36028797018963968 = al at *
  generalize hw (-36028797018963968) = bh at *
  generalize lw (-36028797018963968) = bl at *
  clear r bs bc m1 m2 hn r1
  go_enter Try.func9, Try.ntmps9
  go_wp2_with (first | (go_at_call 13; (with_reducible refine (k1 _).mono ?_); rintro e w1 ⟨rfl, hM⟩) | (go_at_call 15; (with_reducible refine (k2 _).mono ?_); rintro e w1 ⟨rfl, hM⟩) | (go_at_call 20; (with_reducible refine (k3 _).mono ?_); rintro e w1 ⟨rfl, hM⟩) | (go_at_call 20; (with_reducible refine (k4 _).mono ?_); rintro e w1 ⟨rfl, hM⟩))
  (go_at_call 19; (with_reducible refine (k5 _).mono ?_); rintro e w1 ⟨rfl, hM⟩)
  have HB : Below w.heap.size w w1 := by (repeat (first | with_reducible assumption | with_reducible exact Below.refl _ _ | ((with_reducible refine Below.setCell ?_ ?_ _); rotate_left; (first | exact Nat.le_refl _ | (dsimp only; omega) | (simp; done) | (simp; omega))) | with_reducible refine below_alloc ?_ _ | with_reducible apply below_drewN | with_reducible apply Below.drew | with_reducible refine below_step ?_ (by assumption)))
  clear hM
  go_wp2_with (fail)
  (go_at_call 19; (with_reducible refine (k6 _).mono ?_); rintro e w1 ⟨rfl, hM⟩)
  have HB : Below w.heap.size w w1 := by (repeat (first | with_reducible assumption | with_reducible exact Below.refl _ _ | ((with_reducible refine Below.setCell ?_ ?_ _); rotate_left; (first | exact Nat.le_refl _ | (dsimp only; omega) | (simp; done) | (simp; omega))) | with_reducible refine below_alloc ?_ _ | with_reducible apply below_drewN | with_reducible apply Below.drew | with_reducible refine below_step ?_ (by assumption)))
  clear hM
  rename World => wb
  go_upto_region 5 with (fail)
  (try refine wp_region_noPanic ?_)
  refine wp_region_held_drew (S := (fun (w' : World) => w'.cell? ⟨wb.heap.size, 0, none⟩ = some (.int .i64 nh) ∧ w'.cell? ⟨wb.heap.size, 1, none⟩ = some (.int .u64 nl))) (by kernel_rfl) ⟨(by first | (simp (maxDischargeDepth := 6) [go_sem, *]; done)), (by first | (simp (maxDischargeDepth := 6) [go_sem, *]; done))⟩ (fun hHeld => ?_)
  refine wpAnyH_take (i := 0) (v := ?_) (by simp only [List.getElem?_toArray, List.getElem?_cons_succ, List.getElem?_cons_zero]; rfl) (by kernel_rfl) (by kernel_rfl) (by kernel_rfl) (fun _ _ _ h => h) (Or.inl ⟨by rfl, ?_⟩) (by assumption) ?_
  rotate_left
  · intro w hSw; (try dsimp only at hSw); go_simp; try with_reducible rfl
  try simp only [Act.put, List.setIfInBounds_toArray, List.set_cons_zero, List.set_cons_succ]
  refine wpAnyH_take (i := 1) (v := ?_) (by simp only [List.getElem?_toArray, List.getElem?_cons_succ, List.getElem?_cons_zero]; rfl) (by kernel_rfl) (by kernel_rfl) (by kernel_rfl) (fun _ _ _ h => h) (Or.inl ⟨by rfl, ?_⟩) (by assumption) ?_
  rotate_left
  · intro w hSw; (try dsimp only at hSw); go_simp; try with_reducible rfl
  try simp only [Act.put, List.setIfInBounds_toArray, List.set_cons_zero, List.set_cons_succ]
  refine wpAnyH_take (i := 2) (v := ?_) (by simp only [List.getElem?_toArray, List.getElem?_cons_succ, List.getElem?_cons_zero]; rfl) (by kernel_rfl) (by kernel_rfl) (by kernel_rfl) (fun _ _ _ h => h) (Or.inl ⟨by rfl, ?_⟩) (by assumption) ?_
  rotate_left
  · intro w hSw; (try dsimp only at hSw); go_simp; try with_reducible rfl
  try simp only [Act.put, List.setIfInBounds_toArray, List.set_cons_zero, List.set_cons_succ]
  have hOld := hHeld; clear hHeld
  refine wpAnyH_ready (rs := [3]) (by kernel_rfl) (by simp) (AllReadyH.cons rfl (fun K hK => ?_) AllReadyH.nil)
  go_simp
  (go_at_call 22; (with_reducible refine (o1 _).mono ?_); rintro e w1 ⟨rfl, hM⟩)
  (try go_wp2_with (fail))
  refine hK.out _ _ ⟨(by first | exact mv_cell hM (by first | (dsimp only; omega) | (simp; omega)) hOld.1 | exact cell_later hM hOld.1 | exact HT.cb | exact HT.cc | (simp (maxDischargeDepth := 6) [go_sem, *]; done)), (by first | exact mv_cell hM (by first | (dsimp only; omega) | (simp; omega)) hOld.2 | exact cell_later hM hOld.2 | exact HT.cb | exact HT.cc | (simp (maxDischargeDepth := 6) [go_sem, *]; done))⟩ (fun hHeld => ?_)
  clear hK K hOld
  try simp only [Act.put, List.setIfInBounds_toArray, List.set_cons_zero, List.set_cons_succ]
  have HB : Below w.heap.size w _ := below_step (W := _) (by (repeat (first | with_reducible assumption | with_reducible exact Below.refl _ _ | ((with_reducible refine Below.setCell ?_ ?_ _); rotate_left; (first | exact Nat.le_refl _ | (dsimp only; omega) | (simp; done) | (simp; omega))) | with_reducible refine below_alloc ?_ _ | with_reducible apply below_drewN | with_reducible apply Below.drew | with_reducible refine below_step ?_ (by assumption)))) hM
  have hOld := hHeld; clear hHeld
  refine wpAnyH_ready (rs := [4]) (by kernel_rfl) (by simp) (AllReadyH.cons rfl (fun K hK => ?_) AllReadyH.nil)
  go_simp
  (go_at_call 21; (with_reducible refine (c1 _).mono ?_); rintro e w1 ⟨rfl, hM⟩)
  (try go_wp2_with (fail))
  refine hK.out _ _ ⟨(by first | exact mv_cell hM (by first | (dsimp only; omega) | (simp; omega)) hOld.1 | exact cell_later hM hOld.1 | exact HT.cb | exact HT.cc | (simp (maxDischargeDepth := 6) [go_sem, *]; done)), (by first | exact mv_cell hM (by first | (dsimp only; omega) | (simp; omega)) hOld.2 | exact cell_later hM hOld.2 | exact HT.cb | exact HT.cc | (simp (maxDischargeDepth := 6) [go_sem, *]; done))⟩ (fun hHeld => ?_)
  clear hK K hOld
  try simp only [Act.put, List.setIfInBounds_toArray, List.set_cons_zero, List.set_cons_succ]
  have HB := below_step HB hM
  refine wpAnyH_take (i := 5) (v := ?_) (by simp only [List.getElem?_toArray, List.getElem?_cons_succ, List.getElem?_cons_zero]; rfl) (by kernel_rfl) (by kernel_rfl) (by kernel_rfl) (fun _ _ _ h => h) (Or.inl ⟨by rfl, ?_⟩) (by assumption) ?_
  rotate_left
  · intro w hSw; (try dsimp only at hSw); go_simp; try with_reducible rfl
  try simp only [Act.put, List.setIfInBounds_toArray, List.set_cons_zero, List.set_cons_succ]
  refine wpAnyH_take (i := 6) (v := ?_) (by simp only [List.getElem?_toArray, List.getElem?_cons_succ, List.getElem?_cons_zero]; rfl) (by kernel_rfl) (by kernel_rfl) (by kernel_rfl) (fun _ _ _ h => h) (Or.inl ⟨by rfl, ?_⟩) (by assumption) ?_
  rotate_left
  · intro w hSw; (try dsimp only at hSw); go_simp; try with_reducible rfl
  try simp only [Act.put, List.setIfInBounds_toArray, List.set_cons_zero, List.set_cons_succ]
  refine wpAnyH_take (i := 7) (v := ?_) (by simp only [List.getElem?_toArray, List.getElem?_cons_succ, List.getElem?_cons_zero]; rfl) (by kernel_rfl) (by kernel_rfl) (by kernel_rfl) (fun _ _ _ h => h) (Or.inl ⟨by rfl, ?_⟩) (by assumption) ?_
  rotate_left
  · intro w hSw; (try dsimp only at hSw); go_simp; try with_reducible rfl
  try simp only [Act.put, List.setIfInBounds_toArray, List.set_cons_zero, List.set_cons_succ]
  refine wpAnyH_take (i := 8) (v := ?_) (by simp only [List.getElem?_toArray, List.getElem?_cons_succ, List.getElem?_cons_zero]; rfl) (by kernel_rfl) (by kernel_rfl) (by kernel_rfl) (fun _ _ _ h => h) (Or.inl ⟨by rfl, ?_⟩) (by assumption) ?_
  rotate_left
  · intro w hSw; (try dsimp only at hSw); go_simp; try with_reducible rfl
  try simp only [Act.put, List.setIfInBounds_toArray, List.set_cons_zero, List.set_cons_succ]
  have hOld := hHeld; clear hHeld
  refine wpAnyH_ready (rs := [9]) (by kernel_rfl) (by simp) (AllReadyH.cons rfl (fun K hK => ?_) AllReadyH.nil)
  go_simp
  (go_at_call 22; (with_reducible refine (o2 _).mono ?_); rintro e w1 ⟨rfl, hM⟩)
  (try go_wp2_with (fail))
  refine hK.out _ _ ⟨(by first | exact mv_cell hM (by first | (dsimp only; omega) | (simp; omega)) hOld.1 | exact cell_later hM hOld.1 | exact HT.cb | exact HT.cc | (simp (maxDischargeDepth := 6) [go_sem, *]; done)), (by first | exact mv_cell hM (by first | (dsimp only; omega) | (simp; omega)) hOld.2 | exact cell_later hM hOld.2 | exact HT.cb | exact HT.cc | (simp (maxDischargeDepth := 6) [go_sem, *]; done))⟩ (fun hHeld => ?_)
  clear hK K hOld
  try simp only [Act.put, List.setIfInBounds_toArray, List.set_cons_zero, List.set_cons_succ]
  have HB := below_step HB hM
  have hOld := hHeld; clear hHeld
  refine wpAnyH_ready (rs := [10]) (by kernel_rfl) (by simp) (AllReadyH.cons rfl (fun K hK => ?_) AllReadyH.nil)
  go_simp
  (go_at_call 21; (with_reducible refine (c2 _).mono ?_); rintro e w1 ⟨rfl, hM⟩)
  (try go_wp2_with (fail))
  refine hK.out _ _ ⟨(by first | exact mv_cell hM (by first | (dsimp only; omega) | (simp; omega)) hOld.1 | exact cell_later hM hOld.1 | exact HT.cb | exact HT.cc | (simp (maxDischargeDepth := 6) [go_sem, *]; done)), (by first | exact mv_cell hM (by first | (dsimp only; omega) | (simp; omega)) hOld.2 | exact cell_later hM hOld.2 | exact HT.cb | exact HT.cc | (simp (maxDischargeDepth := 6) [go_sem, *]; done))⟩ (fun hHeld => ?_)
  clear hK K hOld
  try simp only [Act.put, List.setIfInBounds_toArray, List.set_cons_zero, List.set_cons_succ]
  have HB := below_step HB hM
  refine wpAnyH_take (i := 11) (v := ?_) (by simp only [List.getElem?_toArray, List.getElem?_cons_succ, List.getElem?_cons_zero]; rfl) (by kernel_rfl) (by kernel_rfl) (by kernel_rfl) (fun _ _ _ h => h) (Or.inl ⟨by rfl, ?_⟩) (by assumption) ?_
  rotate_left
  · intro w hSw; (try dsimp only at hSw); go_simp; try with_reducible rfl
  try simp only [Act.put, List.setIfInBounds_toArray, List.set_cons_zero, List.set_cons_succ]
  refine wpAnyH_take (i := 12) (v := ?_) (by simp only [List.getElem?_toArray, List.getElem?_cons_succ, List.getElem?_cons_zero]; rfl) (by kernel_rfl) (by kernel_rfl) (by kernel_rfl) (fun _ _ _ h => h) (Or.inl ⟨by rfl, ?_⟩) (by assumption) ?_
  rotate_left
  · intro w hSw; (try dsimp only at hSw); go_simp; try with_reducible rfl
  try simp only [Act.put, List.setIfInBounds_toArray, List.set_cons_zero, List.set_cons_succ]
  refine wpAnyH_take (i := 13) (v := ?_) (by simp only [List.getElem?_toArray, List.getElem?_cons_succ, List.getElem?_cons_zero]; rfl) (by kernel_rfl) (by kernel_rfl) (by kernel_rfl) (fun _ _ _ h => h) (Or.inl ⟨by rfl, ?_⟩) (by assumption) ?_
  rotate_left
  · intro w hSw; (try dsimp only at hSw); go_simp; try with_reducible rfl
  try simp only [Act.put, List.setIfInBounds_toArray, List.set_cons_zero, List.set_cons_succ]
  have hOld := hHeld; clear hHeld
  refine wpAnyH_ready (rs := [14]) (by kernel_rfl) (by simp) (AllReadyH.cons rfl (fun K hK => ?_) AllReadyH.nil)
  go_simp
  (go_at_call 12; (with_reducible refine (cAwake4 _).mono ?_); rintro e w1 ⟨rfl, hM⟩)
  (try go_wp2_with (fail))
  refine hK.out _ _ ⟨(by first | exact mv_cell hM (by first | (dsimp only; omega) | (simp; omega)) hOld.1 | exact cell_later hM hOld.1 | exact HT.cb | exact HT.cc | (simp (maxDischargeDepth := 6) [go_sem, *]; done)), (by first | exact mv_cell hM (by first | (dsimp only; omega) | (simp; omega)) hOld.2 | exact cell_later hM hOld.2 | exact HT.cb | exact HT.cc | (simp (maxDischargeDepth := 6) [go_sem, *]; done))⟩ (fun hHeld => ?_)
  clear hK K hOld
  try simp only [Act.put, List.setIfInBounds_toArray, List.set_cons_zero, List.set_cons_succ]
  have HB := below_step HB hM
  refine wpAnyH_take (i := 15) (v := ?_) (by simp only [List.getElem?_toArray, List.getElem?_cons_succ, List.getElem?_cons_zero]; rfl) (by kernel_rfl) (by kernel_rfl) (by kernel_rfl) (fun _ _ _ h => h) (Or.inl ⟨by rfl, ?_⟩) (by assumption) ?_
  rotate_left
  · intro w hSw; (try dsimp only at hSw); go_simp; try with_reducible rfl
  try simp only [Act.put, List.setIfInBounds_toArray, List.set_cons_zero, List.set_cons_succ]
  refine wpAnyH_take (i := 16) (v := ?_) (by simp only [List.getElem?_toArray, List.getElem?_cons_succ, List.getElem?_cons_zero]; rfl) (by kernel_rfl) (by kernel_rfl) (by kernel_rfl) (fun _ _ _ h => h) (Or.inl ⟨by rfl, ?_⟩) (by assumption) ?_
  rotate_left
  · intro w hSw; (try dsimp only at hSw); go_simp; try with_reducible rfl
  try simp only [Act.put, List.setIfInBounds_toArray, List.set_cons_zero, List.set_cons_succ]
  refine wpAnyH_done (by kernel_rfl) ?_ _
  (try refine NoPanic.normal ?_)
  (try clear q0); (try clear q1); obtain ⟨q0, q1⟩ := hHeld
  go_wp2
  go_ret
  exact ⟨rfl, by first | exact HB | (repeat (first | with_reducible assumption | with_reducible exact Below.refl _ _ | ((with_reducible refine Below.setCell ?_ ?_ _); rotate_left; (first | exact Nat.le_refl _ | (dsimp only; omega) | (simp; done) | (simp; omega))) | with_reducible refine below_alloc ?_ _ | with_reducible apply below_drewN | with_reducible apply Below.drew | with_reducible refine below_step ?_ (by assumption)))⟩
end Go.Proofs.Ytdbbandpobifhaa
