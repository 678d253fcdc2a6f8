/- The contract of chapter 4's answer: Towards. -/
import Derived.Test.YtdbbandpobifhaaT5
set_option linter.unusedSimpArgs false
set_option linter.unusedVariables false
namespace Go.Proofs.Ytdbbandpobifhaa
open Go.RowKit
set_option maxHeartbeats 4000000 in
/-- Behind the least numbers have been brought up. -/
theorem isT_cases {x y d : Int} (hn : ¬ (x = 0 ∧ y = 0)) (h : IsT x y d) : ∃ a, 0 ≤ a ∧ a ≤ 1073741824 ∧ ((0 ≤ x ∧ 0 ≤ y ∧ IsF x y a ∧ d = a) ∨ (x < 0 ∧ 0 ≤ y ∧ IsF y (-x) a ∧ d = 1073741824 + a) ∨ (x ≤ 0 ∧ y < 0 ∧ IsF (-x) (-y) a ∧ d = 2147483648 + a) ∨ (0 < x ∧ y < 0 ∧ IsF (-y) x a ∧ d = 3221225472 + a)) := by
  rcases h with ⟨h1, h2, _⟩ | ⟨_, a, h⟩
  · exact absurd ⟨h1, h2⟩ hn
  · refine ⟨a, ?_, ?_, h⟩
    · rcases h with ⟨_, _, h, _⟩ | ⟨_, _, h, _⟩ | ⟨_, _, h, _⟩ | ⟨_, _, h, _⟩ <;> exact h.1
    · rcases h with ⟨_, _, h, _⟩ | ⟨_, _, h, _⟩ | ⟨_, _, h, _⟩ | ⟨_, _, h, _⟩ <;> exact h.2.1
set_option maxHeartbeats 8000000 in
theorem cRTow (x y d : Int) (w : World) (x_0 : -9223372036854775808 ≤ x) (x_1 : x ≤ 9223372036854775807) (y_0 : -9223372036854775808 ≤ y) (y_1 : y ≤ 9223372036854775807)
    (h : IsT (max x (-9223372036854775807)) (max y (-9223372036854775807)) d) :
    Calls Try.prog 18 #[.int .i64 x, .int .i64 y] w fun e w' => e = .returned (.int .u32 d) ∧ Below w.heap.size w w' := by
  obtain ⟨X, eX⟩ : ∃ X, max x (-9223372036854775807) = X := ⟨_, rfl⟩
  obtain ⟨Y, eY⟩ : ∃ Y, max y (-9223372036854775807) = Y := ⟨_, rfl⟩
  rw [eX, eY] at h
  have hd := isT_bd h
  have x0 : -9223372036854775807 ≤ X ∧ X ≤ 9223372036854775807 := by omega
  have y0 : -9223372036854775807 ≤ Y ∧ Y ≤ 9223372036854775807 := by omega
  have hx : (x = -9223372036854775808 ∧ X = -9223372036854775807) ∨ (¬ x = -9223372036854775808 ∧ X = x) := by omega
  have hy : (y = -9223372036854775808 ∧ Y = -9223372036854775807) ∨ (¬ y = -9223372036854775808 ∧ Y = y) := by omega
  clear eX eY
  by_cases hn : X = 0 ∧ Y = 0
  · obtain ⟨rfl, rfl⟩ := hn
    have h3 := isT_nil h
    subst h3
    obtain rfl : x = 0 := by omega
    obtain rfl : y = 0 := by omega
    clear h hx hy
    go_enter Try.func18, Try.ntmps18
    go_wp2
    go_ret
    exact ⟨rfl, by (repeat (first | with_reducible assumption | with_reducible exact Below.refl _ _ | ((with_reducible refine Below.setCell ?_ ?_ _); rotate_left; (first | exact Nat.le_refl _ | (dsimp only; omega) | (simp; done) | (simp; omega))) | with_reducible refine below_alloc ?_ _ | with_reducible apply below_drewN | with_reducible apply Below.drew | with_reducible refine below_step ?_ (by assumption)))⟩
  · obtain ⟨a, a0, a1, h⟩ := isT_cases hn h
    rcases h with ⟨h1, h2, ha, hda⟩ | ⟨h1, h2, ha, hda⟩ | ⟨h1, h2, ha, hda⟩ | ⟨h1, h2, ha, hda⟩
    · have k1 := fun W => cRFst X Y a W ha (by omega) (by omega) (by omega) (by omega)
      obtain rfl : X = x := by omega
      obtain rfl : Y = y := by omega
      subst hda
      rcases (show ¬ X = 0 ∨ (X = 0 ∧ ¬ Y = 0) by omega) with h5 | ⟨h5, h6⟩
      · clear hn ha
        try simp only [Int.neg_neg, Int.neg_zero] at k1
        go_enter Try.func18, Try.ntmps18
        go_wp2_with (first | (go_at_call 30; (with_reducible refine (k1 _).mono ?_); rintro e w1 ⟨rfl, hM⟩))
        go_ret
        exact ⟨rfl, by (repeat (first | with_reducible assumption | with_reducible exact Below.refl _ _ | ((with_reducible refine Below.setCell ?_ ?_ _); rotate_left; (first | exact Nat.le_refl _ | (dsimp only; omega) | (simp; done) | (simp; omega))) | with_reducible refine below_alloc ?_ _ | with_reducible apply below_drewN | with_reducible apply Below.drew | with_reducible refine below_step ?_ (by assumption)))⟩
      · clear hn ha
        subst h5
        try simp only [Int.neg_neg, Int.neg_zero] at k1
        go_enter Try.func18, Try.ntmps18
        go_wp2_with (first | (go_at_call 30; (with_reducible refine (k1 _).mono ?_); rintro e w1 ⟨rfl, hM⟩))
        go_ret
        exact ⟨rfl, by (repeat (first | with_reducible assumption | with_reducible exact Below.refl _ _ | ((with_reducible refine Below.setCell ?_ ?_ _); rotate_left; (first | exact Nat.le_refl _ | (dsimp only; omega) | (simp; done) | (simp; omega))) | with_reducible refine below_alloc ?_ _ | with_reducible apply below_drewN | with_reducible apply Below.drew | with_reducible refine below_step ?_ (by assumption)))⟩
    · have k1 := fun W => cRFst Y (-X) a W ha (by omega) (by omega) (by omega) (by omega)
      obtain rfl : Y = y := by omega
      subst hda
      rcases hx with ⟨rfl, rfl⟩ | ⟨h5, rfl⟩
      · clear hn ha hy
        try simp only [Int.neg_neg, Int.neg_zero] at k1
        go_enter Try.func18, Try.ntmps18
        go_wp2_with (first | (go_at_call 30; (with_reducible refine (k1 _).mono ?_); rintro e w1 ⟨rfl, hM⟩))
        go_ret
        exact ⟨rfl, by (repeat (first | with_reducible assumption | with_reducible exact Below.refl _ _ | ((with_reducible refine Below.setCell ?_ ?_ _); rotate_left; (first | exact Nat.le_refl _ | (dsimp only; omega) | (simp; done) | (simp; omega))) | with_reducible refine below_alloc ?_ _ | with_reducible apply below_drewN | with_reducible apply Below.drew | with_reducible refine below_step ?_ (by assumption)))⟩
      · clear hn ha hy
        try simp only [Int.neg_neg, Int.neg_zero] at k1
        go_enter Try.func18, Try.ntmps18
        go_wp2_with (first | (go_at_call 30; (with_reducible refine (k1 _).mono ?_); rintro e w1 ⟨rfl, hM⟩))
        go_ret
        exact ⟨rfl, by (repeat (first | with_reducible assumption | with_reducible exact Below.refl _ _ | ((with_reducible refine Below.setCell ?_ ?_ _); rotate_left; (first | exact Nat.le_refl _ | (dsimp only; omega) | (simp; done) | (simp; omega))) | with_reducible refine below_alloc ?_ _ | with_reducible apply below_drewN | with_reducible apply Below.drew | with_reducible refine below_step ?_ (by assumption)))⟩
    · have k1 := fun W => cRFst (-X) (-Y) a W ha (by omega) (by omega) (by omega) (by omega)
      subst hda
      rcases hx with ⟨rfl, rfl⟩ | ⟨h5, rfl⟩ <;> rcases hy with ⟨rfl, rfl⟩ | ⟨h6, rfl⟩
      · clear hn ha
        try simp only [Int.neg_neg, Int.neg_zero] at k1
        go_enter Try.func18, Try.ntmps18
        go_wp2_with (first | (go_at_call 30; (with_reducible refine (k1 _).mono ?_); rintro e w1 ⟨rfl, hM⟩))
        go_ret
        exact ⟨rfl, by (repeat (first | with_reducible assumption | with_reducible exact Below.refl _ _ | ((with_reducible refine Below.setCell ?_ ?_ _); rotate_left; (first | exact Nat.le_refl _ | (dsimp only; omega) | (simp; done) | (simp; omega))) | with_reducible refine below_alloc ?_ _ | with_reducible apply below_drewN | with_reducible apply Below.drew | with_reducible refine below_step ?_ (by assumption)))⟩
      · clear hn ha
        try simp only [Int.neg_neg, Int.neg_zero] at k1
        go_enter Try.func18, Try.ntmps18
        go_wp2_with (first | (go_at_call 30; (with_reducible refine (k1 _).mono ?_); rintro e w1 ⟨rfl, hM⟩))
        go_ret
        exact ⟨rfl, by (repeat (first | with_reducible assumption | with_reducible exact Below.refl _ _ | ((with_reducible refine Below.setCell ?_ ?_ _); rotate_left; (first | exact Nat.le_refl _ | (dsimp only; omega) | (simp; done) | (simp; omega))) | with_reducible refine below_alloc ?_ _ | with_reducible apply below_drewN | with_reducible apply Below.drew | with_reducible refine below_step ?_ (by assumption)))⟩
      · clear hn ha
        rcases (show X = 0 ∨ X < 0 by omega) with h7 | h7
        · subst h7
          try simp only [Int.neg_neg, Int.neg_zero] at k1
          go_enter Try.func18, Try.ntmps18
          go_wp2_with (first | (go_at_call 30; (with_reducible refine (k1 _).mono ?_); rintro e w1 ⟨rfl, hM⟩))
          go_ret
          exact ⟨rfl, by (repeat (first | with_reducible assumption | with_reducible exact Below.refl _ _ | ((with_reducible refine Below.setCell ?_ ?_ _); rotate_left; (first | exact Nat.le_refl _ | (dsimp only; omega) | (simp; done) | (simp; omega))) | with_reducible refine below_alloc ?_ _ | with_reducible apply below_drewN | with_reducible apply Below.drew | with_reducible refine below_step ?_ (by assumption)))⟩
        · try simp only [Int.neg_neg, Int.neg_zero] at k1
          go_enter Try.func18, Try.ntmps18
          go_wp2_with (first | (go_at_call 30; (with_reducible refine (k1 _).mono ?_); rintro e w1 ⟨rfl, hM⟩))
          go_ret
          exact ⟨rfl, by (repeat (first | with_reducible assumption | with_reducible exact Below.refl _ _ | ((with_reducible refine Below.setCell ?_ ?_ _); rotate_left; (first | exact Nat.le_refl _ | (dsimp only; omega) | (simp; done) | (simp; omega))) | with_reducible refine below_alloc ?_ _ | with_reducible apply below_drewN | with_reducible apply Below.drew | with_reducible refine below_step ?_ (by assumption)))⟩
      · clear hn ha
        rcases (show X = 0 ∨ X < 0 by omega) with h7 | h7
        · subst h7
          try simp only [Int.neg_neg, Int.neg_zero] at k1
          go_enter Try.func18, Try.ntmps18
          go_wp2_with (first | (go_at_call 30; (with_reducible refine (k1 _).mono ?_); rintro e w1 ⟨rfl, hM⟩))
          go_ret
          exact ⟨rfl, by (repeat (first | with_reducible assumption | with_reducible exact Below.refl _ _ | ((with_reducible refine Below.setCell ?_ ?_ _); rotate_left; (first | exact Nat.le_refl _ | (dsimp only; omega) | (simp; done) | (simp; omega))) | with_reducible refine below_alloc ?_ _ | with_reducible apply below_drewN | with_reducible apply Below.drew | with_reducible refine below_step ?_ (by assumption)))⟩
        · try simp only [Int.neg_neg, Int.neg_zero] at k1
          go_enter Try.func18, Try.ntmps18
          go_wp2_with (first | (go_at_call 30; (with_reducible refine (k1 _).mono ?_); rintro e w1 ⟨rfl, hM⟩))
          go_ret
          exact ⟨rfl, by (repeat (first | with_reducible assumption | with_reducible exact Below.refl _ _ | ((with_reducible refine Below.setCell ?_ ?_ _); rotate_left; (first | exact Nat.le_refl _ | (dsimp only; omega) | (simp; done) | (simp; omega))) | with_reducible refine below_alloc ?_ _ | with_reducible apply below_drewN | with_reducible apply Below.drew | with_reducible refine below_step ?_ (by assumption)))⟩
    · have k1 := fun W => cRFst (-Y) X a W ha (by omega) (by omega) (by omega) (by omega)
      obtain rfl : X = x := by omega
      subst hda
      rcases hy with ⟨rfl, rfl⟩ | ⟨h6, rfl⟩
      · clear hn ha hx
        try simp only [Int.neg_neg, Int.neg_zero] at k1
        go_enter Try.func18, Try.ntmps18
        go_wp2_with (first | (go_at_call 30; (with_reducible refine (k1 _).mono ?_); rintro e w1 ⟨rfl, hM⟩))
        go_ret
        exact ⟨rfl, by (repeat (first | with_reducible assumption | with_reducible exact Below.refl _ _ | ((with_reducible refine Below.setCell ?_ ?_ _); rotate_left; (first | exact Nat.le_refl _ | (dsimp only; omega) | (simp; done) | (simp; omega))) | with_reducible refine below_alloc ?_ _ | with_reducible apply below_drewN | with_reducible apply Below.drew | with_reducible refine below_step ?_ (by assumption)))⟩
      · clear hn ha hx
        try simp only [Int.neg_neg, Int.neg_zero] at k1
        go_enter Try.func18, Try.ntmps18
        go_wp2_with (first | (go_at_call 30; (with_reducible refine (k1 _).mono ?_); rintro e w1 ⟨rfl, hM⟩))
        go_ret
        exact ⟨rfl, by (repeat (first | with_reducible assumption | with_reducible exact Below.refl _ _ | ((with_reducible refine Below.setCell ?_ ?_ _); rotate_left; (first | exact Nat.le_refl _ | (dsimp only; omega) | (simp; done) | (simp; omega))) | with_reducible refine below_alloc ?_ _ | with_reducible apply below_drewN | with_reducible apply Below.drew | with_reducible refine below_step ?_ (by assumption)))⟩
end Go.Proofs.Ytdbbandpobifhaa
