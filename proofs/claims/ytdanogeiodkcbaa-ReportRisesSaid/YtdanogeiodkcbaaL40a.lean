/- The walks of ReportClock and ReportRises. -/
import Derived.Test.YtdanogeiodkcbaaE6
set_option linter.unusedSimpArgs false
set_option linter.unusedVariables false
namespace Go.Proofs.Ytdanogeiodkcbaa
open Go.RowKit
/-- Both Clocks answer alike, whatever they are handed. -/
theorem clocks (t r : Int) (t0 : -9223372036854775808 ≤ t) (t1 : t ≤ 9223372036854775807) : ∃ T : ByteArray,
    (∀ W, Calls Try.prog 7 #[.int .i64 t, .int .i64 r] W fun e w' => e = .returned (.string T) ∧ Below W.heap.size W w') ∧
    (∀ W, Calls Try.prog 8 #[.int .i64 t, .int .i64 r] W fun e w' => e = .returned (.string T) ∧ Below W.heap.size W w') := by
  rcases (show (t < 0 ∨ r < 1 ∨ 1024 < r) ∨ (0 ≤ t ∧ 1 ≤ r ∧ r ≤ 1024) by omega) with h | ⟨h1, h2, h3⟩
  · exact ⟨_, fun W => cClockN t r W h, fun W => rClockN t r W h⟩
  · exact ⟨_, fun W => cClockY t r W h1 t1 h2 h3, fun W => rClockY t r W h1 t1 h2 h3⟩
set_option maxHeartbeats 4000000 in
theorem walk_ReportClock (t r k : Int) (w : World) (t_0 : -9223372036854775808 ≤ t) (t_1 : t ≤ 9223372036854775807) (r_0 : -9223372036854775808 ≤ r) (r_1 : r ≤ 9223372036854775807) (k_0 : -9223372036854775808 ≤ k) (k_1 : k ≤ 9223372036854775807) : Calls Try.prog 5 #[.int .i64 t, .int .i64 r, .int .i64 k] w fun e w' => e = .returned (.bool true) ∧ Below w.heap.size w w' := by
  obtain ⟨T, k1, k2⟩ := clocks t r t_0 t_1
  have k3 := fun W => cWord k W k_0 k_1
  have k4 := fun W => rWord k W k_0 k_1
  have k0 := fun W => cAwake40 W
  generalize bs (wrd k) = U at *
  go_enter Try.func5, Try.ntmps5
  go_wp2_with (first | (go_at_call 7; (with_reducible refine (k1 _).mono ?_); rintro e w1 ⟨rfl, hM⟩) | (go_at_call 8; (with_reducible refine (k2 _).mono ?_); rintro e w1 ⟨rfl, hM⟩) | (go_at_call 9; (with_reducible refine (k3 _).mono ?_); rintro e w1 ⟨rfl, hM⟩) | (go_at_call 10; (with_reducible refine (k4 _).mono ?_); rintro e w1 ⟨rfl, hM⟩) | (go_at_call 6; (with_reducible refine (k0 _).mono ?_); rintro e w1 ⟨rfl, hM⟩))
  go_ret
  exact ⟨rfl, by (repeat (first | with_reducible assumption | with_reducible exact Below.refl _ _ | ((with_reducible refine Below.setCell ?_ ?_ _); rotate_left; (first | exact Nat.le_refl _ | (dsimp only; omega) | (simp; done) | (simp; omega))) | with_reducible refine below_alloc ?_ _ | with_reducible apply below_drewN | with_reducible apply Below.drew | with_reducible refine below_step ?_ (by assumption)))⟩
set_option maxHeartbeats 4000000 in
theorem walk_ReportRises (a b r : Int) (w : World) (a_0 : -9223372036854775808 ≤ a) (a_1 : a ≤ 9223372036854775807) (b_0 : -9223372036854775808 ≤ b) (b_1 : b ≤ 9223372036854775807) (r_0 : -9223372036854775808 ≤ r) (r_1 : r ≤ 9223372036854775807) : Calls Try.prog 3 #[.int .i64 a, .int .i64 b, .int .i64 r] w fun e w' => e = .returned (.bool true) ∧ Below w.heap.size w w' := by
  have k0 := fun W => cAwake40 W
  rcases (show a < 0 ∨ (0 ≤ a ∧ b < a) ∨ (0 ≤ a ∧ a ≤ b ∧ r < 1) ∨ (0 ≤ a ∧ a ≤ b ∧ 1 ≤ r ∧ 1024 < r) ∨ (0 ≤ a ∧ a ≤ b ∧ 1 ≤ r ∧ r ≤ 1024) by omega) with h1 | ⟨h1, h2⟩ | ⟨h1, h2, h3⟩ | ⟨h1, h2, h3, h4⟩ | ⟨h1, h2, h3, h4⟩
  · go_enter Try.func3, Try.ntmps3; go_wp2_with ((go_at_call 6; (with_reducible refine (k0 _).mono ?_); rintro e w1 ⟨rfl, hM⟩)); go_ret; exact ⟨rfl, by (repeat (first | with_reducible assumption | with_reducible exact Below.refl _ _ | ((with_reducible refine Below.setCell ?_ ?_ _); rotate_left; (first | exact Nat.le_refl _ | (dsimp only; omega) | (simp; done) | (simp; omega))) | with_reducible refine below_alloc ?_ _ | with_reducible apply below_drewN | with_reducible apply Below.drew | with_reducible refine below_step ?_ (by assumption)))⟩
  · go_enter Try.func3, Try.ntmps3; go_wp2_with ((go_at_call 6; (with_reducible refine (k0 _).mono ?_); rintro e w1 ⟨rfl, hM⟩)); go_ret; exact ⟨rfl, by (repeat (first | with_reducible assumption | with_reducible exact Below.refl _ _ | ((with_reducible refine Below.setCell ?_ ?_ _); rotate_left; (first | exact Nat.le_refl _ | (dsimp only; omega) | (simp; done) | (simp; omega))) | with_reducible refine below_alloc ?_ _ | with_reducible apply below_drewN | with_reducible apply Below.drew | with_reducible refine below_step ?_ (by assumption)))⟩
  · go_enter Try.func3, Try.ntmps3; go_wp2_with ((go_at_call 6; (with_reducible refine (k0 _).mono ?_); rintro e w1 ⟨rfl, hM⟩)); go_ret; exact ⟨rfl, by (repeat (first | with_reducible assumption | with_reducible exact Below.refl _ _ | ((with_reducible refine Below.setCell ?_ ?_ _); rotate_left; (first | exact Nat.le_refl _ | (dsimp only; omega) | (simp; done) | (simp; omega))) | with_reducible refine below_alloc ?_ _ | with_reducible apply below_drewN | with_reducible apply Below.drew | with_reducible refine below_step ?_ (by assumption)))⟩
  · go_enter Try.func3, Try.ntmps3; go_wp2_with ((go_at_call 6; (with_reducible refine (k0 _).mono ?_); rintro e w1 ⟨rfl, hM⟩)); go_ret; exact ⟨rfl, by (repeat (first | with_reducible assumption | with_reducible exact Below.refl _ _ | ((with_reducible refine Below.setCell ?_ ?_ _); rotate_left; (first | exact Nat.le_refl _ | (dsimp only; omega) | (simp; done) | (simp; omega))) | with_reducible refine below_alloc ?_ _ | with_reducible apply below_drewN | with_reducible apply Below.drew | with_reducible refine below_step ?_ (by assumption)))⟩
  · have k1 := fun W => cClockY a r W h1 (by omega) h3 h4
    have k2 := fun W => cClockY b r W (by omega) b_1 h3 h4
    have b1 := ths_bd a r h1 (by omega) h3
    have b2 := ths_bd b r (by omega) b_1 h3
    have hm := ths_mono a b r h2 h3
    obtain ⟨hl, hr⟩ := clk_rises (ths a r).toNat (ths b r).toNat (by omega) (by omega)
    have z1 : 8 ≤ (bs (clk (ths a r).toNat)).size := by rw [bs_size, clk_len]; have := dg_len1 ((ths a r).toNat / 60000); omega
    have z2 : (bs (clk (ths a r).toNat)).size ≤ (bs (clk (ths b r).toNat)).size := by rw [bs_size, bs_size]; exact hl
    have z3 : (bs (clk (ths b r).toNat)).size ≤ 27 := by rw [bs_size, clk_len]; have := dg_len ((ths b r).toNat / 60000); omega
    have z4 : (bs (clk (ths a r).toNat)).size < (bs (clk (ths b r).toNat)).size ∨ (Op.bytesLess (bs (clk (ths a r).toNat)).toList (bs (clk (ths b r).toNat)).toList || (bs (clk (ths a r).toNat)).toList == (bs (clk (ths b r).toNat)).toList) = true := by
      rw [bs_size, bs_size, bs_toList, bs_toList]; exact hr
    generalize bs (clk (ths a r).toNat) = X at *
    generalize bs (clk (ths b r).toNat) = Y at *
    clear b1 b2 hm hl hr
    rcases z4 with z4 | z4
    · go_enter Try.func3, Try.ntmps3
      go_wp2_with (first | (go_at_call 7; (with_reducible refine (k1 _).mono ?_); rintro e w1 ⟨rfl, hM⟩) | (go_at_call 7; (with_reducible refine (k2 _).mono ?_); rintro e w1 ⟨rfl, hM⟩) | (go_at_call 6; (with_reducible refine (k0 _).mono ?_); rintro e w1 ⟨rfl, hM⟩))
      go_ret
      exact ⟨rfl, by (repeat (first | with_reducible assumption | with_reducible exact Below.refl _ _ | ((with_reducible refine Below.setCell ?_ ?_ _); rotate_left; (first | exact Nat.le_refl _ | (dsimp only; omega) | (simp; done) | (simp; omega))) | with_reducible refine below_alloc ?_ _ | with_reducible apply below_drewN | with_reducible apply Below.drew | with_reducible refine below_step ?_ (by assumption)))⟩
    · by_cases z5 : X.size < Y.size
      · clear z4
        go_enter Try.func3, Try.ntmps3
        go_wp2_with (first | (go_at_call 7; (with_reducible refine (k1 _).mono ?_); rintro e w1 ⟨rfl, hM⟩) | (go_at_call 7; (with_reducible refine (k2 _).mono ?_); rintro e w1 ⟨rfl, hM⟩) | (go_at_call 6; (with_reducible refine (k0 _).mono ?_); rintro e w1 ⟨rfl, hM⟩))
        go_ret
        exact ⟨rfl, by (repeat (first | with_reducible assumption | with_reducible exact Below.refl _ _ | ((with_reducible refine Below.setCell ?_ ?_ _); rotate_left; (first | exact Nat.le_refl _ | (dsimp only; omega) | (simp; done) | (simp; omega))) | with_reducible refine below_alloc ?_ _ | with_reducible apply below_drewN | with_reducible apply Below.drew | with_reducible refine below_step ?_ (by assumption)))⟩
      · go_enter Try.func3, Try.ntmps3
        go_wp2_with (first | (go_at_call 7; (with_reducible refine (k1 _).mono ?_); rintro e w1 ⟨rfl, hM⟩) | (go_at_call 7; (with_reducible refine (k2 _).mono ?_); rintro e w1 ⟨rfl, hM⟩) | (go_at_call 6; (with_reducible refine (k0 _).mono ?_); rintro e w1 ⟨rfl, hM⟩))
        go_ret
        exact ⟨rfl, by (repeat (first | with_reducible assumption | with_reducible exact Below.refl _ _ | ((with_reducible refine Below.setCell ?_ ?_ _); rotate_left; (first | exact Nat.le_refl _ | (dsimp only; omega) | (simp; done) | (simp; omega))) | with_reducible refine below_alloc ?_ _ | with_reducible apply below_drewN | with_reducible apply Below.drew | with_reducible refine below_step ?_ (by assumption)))⟩
end Go.Proofs.Ytdanogeiodkcbaa
