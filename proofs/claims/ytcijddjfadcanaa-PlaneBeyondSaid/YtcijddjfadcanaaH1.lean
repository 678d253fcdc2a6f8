/- Contracts of package plane. -/
import Derived.Test.YtcijddjfadcanaaH0
set_option linter.unusedSimpArgs false
set_option linter.unusedVariables false
namespace Go.Proofs.Ytcijddjfadcanaa
open Go.RowKit
set_option maxHeartbeats 2000000 in
theorem cNear (a : Addr) (n c : Nat) (X Y : Nat → Int) (w : World) (hn : n ≤ 9223372036854775807) (hx : ∀ j, j < n → w.cell? (a.add (j * 2)) = some (.int .i64 (X j))) (hy : ∀ j, j < n → w.cell? ⟨(a.add (j * 2)).block, (a.add (j * 2)).off + 1, none⟩ = some (.int .i64 (Y j))) :
    Calls Try.prog 19 #[.slice (some a) n c] w fun e w' => e = .returned (.bool (nrs X Y n)) ∧ Below w.heap.size w w' := by
  have HX := Lib.hid hx
  have HY := Lib.hid hy
  clear hx hy
  go_enter Try.func19, Try.ntmps19
  go_wp2
  go_loopw [7] (fun i wr => ∃ k : Nat, i = .int .i64 k ∧ k ≤ n ∧ Hid (nrs X Y k = true) ∧ Below w.heap.size w wr) (fun i _ => n - (RowKit.intOf i).toNat)
  case atStart => exact ⟨0, rfl, by omega, Lib.hid rfl, Below.refl _ _⟩
  case round =>
    obtain ⟨k, rfl, hk, HN, hB⟩ := hrel
    by_cases hlt : k < n
    · have c0 := cell_later hB (HX.out k hlt)
      have c1 := cell_later hB (HY.out k hlt)
      cases hp : pn (X k) (Y k) with
      | true =>
        have HS : Hid (nrs X Y (k + 1) = true) := Lib.hid (by simp only [nrs, Bool.and_eq_true]; exact ⟨HN.out, hp⟩)
        rw [pn_iff] at hp
        generalize X k = x at *
        generalize Y k = y at *
        obtain ⟨p1, p2, p3, p4⟩ := hp
        have t1 : ¬ 281474976710656 < max x y := by omega
        have t2 : ¬ min x y < -281474976710656 := by omega
        go_wp2
        exact ⟨⟨k + 1, by go_num, by omega, HS, by (repeat (first | with_reducible assumption | with_reducible exact Below.refl _ _ | ((with_reducible refine Below.setCell ?_ ?_ _); rotate_left; (first | exact Nat.le_refl _ | (dsimp only; omega) | (simp; done) | (simp; omega))) | with_reducible refine below_alloc ?_ _ | with_reducible apply below_drewN | with_reducible apply Below.drew | with_reducible refine below_step ?_ (by assumption)))⟩, by simp [RowKit.intOf]; omega⟩
      | false =>
        have HS : Hid (nrs X Y n = false) := Lib.hid (nrs_no hp hlt)
        unfold pn at hp
        simp only [decide_eq_false_iff_not] at hp
        generalize X k = x at *
        generalize Y k = y at *
        by_cases t1 : 281474976710656 < max x y
        · clear hp
          go_wp2
          go_ret
          exact ⟨by rw [HS.out]; rfl, by (repeat (first | with_reducible assumption | with_reducible exact Below.refl _ _ | ((with_reducible refine Below.setCell ?_ ?_ _); rotate_left; (first | exact Nat.le_refl _ | (dsimp only; omega) | (simp; done) | (simp; omega))) | with_reducible refine below_alloc ?_ _ | with_reducible apply below_drewN | with_reducible apply Below.drew | with_reducible refine below_step ?_ (by assumption)))⟩
        · have t2 : min x y < -281474976710656 := by omega
          clear hp
          go_wp2
          go_ret
          exact ⟨by rw [HS.out]; rfl, by (repeat (first | with_reducible assumption | with_reducible exact Below.refl _ _ | ((with_reducible refine Below.setCell ?_ ?_ _); rotate_left; (first | exact Nat.le_refl _ | (dsimp only; omega) | (simp; done) | (simp; omega))) | with_reducible refine below_alloc ?_ _ | with_reducible apply below_drewN | with_reducible apply Below.drew | with_reducible refine below_step ?_ (by assumption)))⟩
    · obtain rfl : k = n := by omega
      go_wp2
      go_ret
      exact ⟨by rw [HN.out]; rfl, hB⟩
set_option maxHeartbeats 2000000 in
theorem c7Near (a : Addr) (n c : Nat) (X Y : Nat → Int) (w : World) (hn : n ≤ 9223372036854775807) (hx : ∀ j, j < n → w.cell? (a.add (j * 2)) = some (.int .i64 (X j))) (hy : ∀ j, j < n → w.cell? ⟨(a.add (j * 2)).block, (a.add (j * 2)).off + 1, none⟩ = some (.int .i64 (Y j))) :
    Calls Try.prog 22 #[.slice (some a) n c] w fun e w' => e = .returned (.bool (nrs X Y n)) ∧ Below w.heap.size w w' := by
  have HX := Lib.hid hx
  have HY := Lib.hid hy
  clear hx hy
  go_enter Try.func22, Try.ntmps22
  go_wp2
  go_loopw [3] (fun i wr => ∃ k : Nat, i = .int .i64 k ∧ k ≤ n ∧ Hid (nrs X Y k = true) ∧ Below w.heap.size w wr) (fun i _ => n - (RowKit.intOf i).toNat)
  case atStart => exact ⟨0, rfl, by omega, Lib.hid rfl, Below.refl _ _⟩
  case round =>
    obtain ⟨k, rfl, hk, HN, hB⟩ := hrel
    by_cases hlt : k < n
    · have c0 := cell_later hB (HX.out k hlt)
      have c1 := cell_later hB (HY.out k hlt)
      cases hp : pn (X k) (Y k) with
      | true =>
        have HS : Hid (nrs X Y (k + 1) = true) := Lib.hid (by simp only [nrs, Bool.and_eq_true]; exact ⟨HN.out, hp⟩)
        rw [pn_iff] at hp
        generalize X k = x at *
        generalize Y k = y at *
        obtain ⟨p1, p2, p3, p4⟩ := hp
        go_wp2
        exact ⟨⟨k + 1, by go_num, by omega, HS, by (repeat (first | with_reducible assumption | with_reducible exact Below.refl _ _ | ((with_reducible refine Below.setCell ?_ ?_ _); rotate_left; (first | exact Nat.le_refl _ | (dsimp only; omega) | (simp; done) | (simp; omega))) | with_reducible refine below_alloc ?_ _ | with_reducible apply below_drewN | with_reducible apply Below.drew | with_reducible refine below_step ?_ (by assumption)))⟩, by simp [RowKit.intOf]; omega⟩
      | false =>
        have HS : Hid (nrs X Y n = false) := Lib.hid (nrs_no hp hlt)
        unfold pn at hp
        simp only [decide_eq_false_iff_not] at hp
        generalize X k = x at *
        generalize Y k = y at *
        rcases (show 281474976710656 < x ∨ (x ≤ 281474976710656 ∧ x < -281474976710656) ∨ (x ≤ 281474976710656 ∧ -281474976710656 ≤ x ∧ 281474976710656 < y) ∨ (x ≤ 281474976710656 ∧ -281474976710656 ≤ x ∧ y ≤ 281474976710656 ∧ y < -281474976710656) by omega) with h1 | ⟨h1, h2⟩ | ⟨h1, h2, h3⟩ | ⟨h1, h2, h3, h4⟩
        all_goals clear hp
        all_goals go_wp2
        all_goals go_ret
        all_goals exact ⟨by rw [HS.out]; rfl, by (repeat (first | with_reducible assumption | with_reducible exact Below.refl _ _ | ((with_reducible refine Below.setCell ?_ ?_ _); rotate_left; (first | exact Nat.le_refl _ | (dsimp only; omega) | (simp; done) | (simp; omega))) | with_reducible refine below_alloc ?_ _ | with_reducible apply below_drewN | with_reducible apply Below.drew | with_reducible refine below_step ?_ (by assumption)))⟩
    · obtain rfl : k = n := by omega
      go_wp2
      go_ret
      exact ⟨by rw [HN.out]; rfl, hB⟩
theorem cFrom (ax ay bx bY : Int) (w : World) (ha : pn ax ay = true) (hb : pn bx bY = true) :
    Calls Try.prog 32 #[.agg #[.int .i64 ax, .int .i64 ay], .agg #[.int .i64 bx, .int .i64 bY]] w fun e w' => e = .returned (.agg #[.int .i64 (bx - ax), .int .i64 (bY - ay)]) ∧ Below w.heap.size w w' := by
  rw [pn_iff] at ha hb
  go_enter Try.func32, Try.ntmps32
  go_wp2
  simp [bodyPost, results, Try.results32, go_sem]
  (repeat (first | with_reducible assumption | with_reducible exact Below.refl _ _ | ((with_reducible refine Below.setCell ?_ ?_ _); rotate_left; (first | exact Nat.le_refl _ | (dsimp only; omega) | (simp; done) | (simp; omega))) | with_reducible refine below_alloc ?_ _ | with_reducible apply below_drewN | with_reducible apply Below.drew | with_reducible refine below_step ?_ (by assumption)))
theorem cPLess (m n : Int) (w : World) (m0 : -85070591730234615865843651857942052864 ≤ m) (m1 : m ≤ 85070591730234615865843651857942052863) (n0 : -85070591730234615865843651857942052863 ≤ n) (n1 : n ≤ 85070591730234615865843651857942052864) :
    Calls Try.prog 27 #[.agg #[.int .i64 (hw m), .int .u64 (lw m)], .agg #[.int .i64 (hw n), .int .u64 (lw n)]] w fun e w' => e = .returned (.agg #[.int .i64 (hw (m - n)), .int .u64 (lw (m - n))]) ∧ Below w.heap.size w w' := by
  have k1 := fun W => nWNeg n W (by omega) (by omega)
  rw [cw_yes (-n) (by omega) (by omega), fw_yes (-n) (by omega) (by omega)] at k1
  have k2 := fun W => nWAdd m (-n) W (by omega) (by omega) (by omega) (by omega)
  rw [show m + -n = m - n by omega, cw_yes (m - n) (by omega) (by omega), fw_yes (m - n) (by omega) (by omega)] at k2
  go_enter Try.func27, Try.ntmps27
  go_wp2_with (fail)
  (go_at_call 35; (with_reducible refine (k1 _).mono ?_); rintro e w1 ⟨rfl, hM⟩; have hr := cell_later (a := ⟨w.heap.size, 0, none⟩) (v := .int .i64 (hw m)) hM (by first | assumption | (simp (maxDischargeDepth := 6) [go_sem, *]; done)); have hg := frozen_later (a := ⟨w.heap.size, 0, none⟩) (v := .int .i64 (hw m)) hM (by first | assumption | (simp (maxDischargeDepth := 6) [go_sem, *]; done)) (by first | assumption | (simp (maxDischargeDepth := 6) [go_sem, *]; done)); have hr := cell_later (a := ⟨w.heap.size, 1, none⟩) (v := .int .u64 (lw m)) hM (by first | assumption | (simp (maxDischargeDepth := 6) [go_sem, *]; done)); have hg := frozen_later (a := ⟨w.heap.size, 1, none⟩) (v := .int .u64 (lw m)) hM (by first | assumption | (simp (maxDischargeDepth := 6) [go_sem, *]; done)) (by first | assumption | (simp (maxDischargeDepth := 6) [go_sem, *]; done)); have hr := cell_later (a := ⟨w.heap.size + 1 + 1, 0, none⟩) (v := .int .i64 0) hM (by first | assumption | (simp (maxDischargeDepth := 6) [go_sem, *]; done)); have hg := frozen_later (a := ⟨w.heap.size + 1 + 1, 0, none⟩) (v := .int .i64 0) hM (by first | assumption | (simp (maxDischargeDepth := 6) [go_sem, *]; done)) (by first | assumption | (simp (maxDischargeDepth := 6) [go_sem, *]; done)); have hr := cell_later (a := ⟨w.heap.size + 1 + 1, 1, none⟩) (v := .int .u64 0) hM (by first | assumption | (simp (maxDischargeDepth := 6) [go_sem, *]; done)); have hg := frozen_later (a := ⟨w.heap.size + 1 + 1, 1, none⟩) (v := .int .u64 0) hM (by first | assumption | (simp (maxDischargeDepth := 6) [go_sem, *]; done)) (by first | assumption | (simp (maxDischargeDepth := 6) [go_sem, *]; done)))
  have hB := hM
  have HB : Below w.heap.size w w1 := by (repeat (first | with_reducible assumption | with_reducible exact Below.refl _ _ | ((with_reducible refine Below.setCell ?_ ?_ _); rotate_left; (first | exact Nat.le_refl _ | (dsimp only; omega) | (simp; done) | (simp; omega))) | with_reducible refine below_alloc ?_ _ | with_reducible apply below_drewN | with_reducible apply Below.drew | with_reducible refine below_step ?_ (by assumption)))
  have hz : w.heap.size + 1 + 1 < w1.heap.size := World.block_lt_of_cell? w1 ⟨w.heap.size + 1 + 1, 0, none⟩ (u := .int .i64 0) (by assumption)
  go_wp2_with (fail)
  (go_at_call 50; (with_reducible refine (k2 _).mono ?_); rintro e w1 ⟨rfl, hM⟩; have hr := cell_later (a := ⟨w.heap.size + 1 + 1, 0, none⟩) (v := .int .i64 0) hM (by first | assumption | (simp (maxDischargeDepth := 6) [go_sem, *]; done)); have hg := frozen_later (a := ⟨w.heap.size + 1 + 1, 0, none⟩) (v := .int .i64 0) hM (by first | assumption | (simp (maxDischargeDepth := 6) [go_sem, *]; done)) (by first | assumption | (simp (maxDischargeDepth := 6) [go_sem, *]; done)); have hr := cell_later (a := ⟨w.heap.size + 1 + 1, 1, none⟩) (v := .int .u64 0) hM (by first | assumption | (simp (maxDischargeDepth := 6) [go_sem, *]; done)); have hg := frozen_later (a := ⟨w.heap.size + 1 + 1, 1, none⟩) (v := .int .u64 0) hM (by first | assumption | (simp (maxDischargeDepth := 6) [go_sem, *]; done)) (by first | assumption | (simp (maxDischargeDepth := 6) [go_sem, *]; done)))
  have HB : Below w.heap.size w w1 := by (repeat (first | with_reducible assumption | with_reducible exact Below.refl _ _ | ((with_reducible refine Below.setCell ?_ ?_ _); rotate_left; (first | exact Nat.le_refl _ | (dsimp only; omega) | (simp; done) | (simp; omega))) | with_reducible refine below_alloc ?_ _ | with_reducible apply below_drewN | with_reducible apply Below.drew | with_reducible refine below_step ?_ (by assumption)))
  have hz : w.heap.size + 1 + 1 < w1.heap.size := World.block_lt_of_cell? w1 ⟨w.heap.size + 1 + 1, 0, none⟩ (u := .int .i64 0) (by assumption)
  go_wp2
  (simp (maxDischargeDepth := 8) [bodyPost, results, Try.results27, go_sem, *])
  (repeat (first | with_reducible assumption | with_reducible exact Below.refl _ _ | ((with_reducible refine Below.setCell ?_ ?_ _); rotate_left; (first | exact Nat.le_refl _ | (dsimp only; omega) | (simp; done) | (simp; omega))) | with_reducible refine below_alloc ?_ _ | with_reducible apply below_drewN | with_reducible apply Below.drew | with_reducible refine below_step ?_ (by assumption)))
end Go.Proofs.Ytcijddjfadcanaa
