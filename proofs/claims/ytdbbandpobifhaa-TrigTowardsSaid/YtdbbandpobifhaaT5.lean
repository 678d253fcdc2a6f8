/- Contracts of chapter 4's answer: the table by its series, sines, directions bit by bit. -/
import Derived.Test.YtdbbandpobifhaaT4
import Derived.Test.YtdbbandpobifhaaB12
set_option linter.unusedSimpArgs false
set_option linter.unusedVariables false
namespace Go.Proofs.Ytdbbandpobifhaa
open Go.RowKit
theorem cBy (a b : Int) (w : World) (a0 : -9223372036854775808 ≤ a) (a1 : a ≤ 9223372036854775807) (b0 : -9223372036854775808 ≤ b) (b1 : b ≤ 9223372036854775807) :
    Calls Try.prog 28 #[.int .i64 a, .int .i64 b] w fun e w' => e = .returned (.int .i64 (mu a b)) ∧ Below w.heap.size w w' := by
  have m := mul_bd a b a0 a1 b0 b1
  have k1 := fun W => cRMul a b W a0 a1 b0 b1
  have k2 := fun W => cRDiv (a * b) 1000000000000000000 W (by omega) (by decide) (by decide)
  unfold mu
  clear m
  generalize a * b = p at *
  generalize dq p 1000000000000000000 = q at *
  generalize dok p 1000000000000000000 = ok at *
  generalize decide (p < 0) = g at *
  generalize (p.natAbs : Int) = n at *
  go_enter Try.func28, Try.ntmps28
  go_wp2_with (first | (go_at_call 27; (with_reducible refine (k1 _).mono ?_); rintro e w1 ⟨rfl, hM⟩) | (go_at_call 26; (with_reducible refine (k2 _).mono ?_); rintro e w1 ⟨rfl, hM⟩))
  go_ret
  exact ⟨rfl, by (repeat (first | with_reducible assumption | with_reducible exact Below.refl _ _ | ((with_reducible refine Below.setCell ?_ ?_ _); rotate_left; (first | exact Nat.le_refl _ | (dsimp only; omega) | (simp; done) | (simp; omega))) | with_reducible refine below_alloc ?_ _ | with_reducible apply below_drewN | with_reducible apply Below.drew | with_reducible refine below_step ?_ (by assumption)))⟩
theorem rsm_up (k j : Nat) : rsm k (j + 1) = if j % 2 = 0 then rsm k j + rtm k j else rsm k j - rtm k j := rfl
theorem rtm_up (k j : Nat) : rtm k (j + 1) = mu (mu (rtm k j) (rx k)) (rx k) / ((2 * (j : Int) + 2) * (2 * (j : Int) + 3)) := rfl
set_option maxHeartbeats 8000000 in
theorem cRTabN (k : Nat) (w : World) (hk : k < 65) : Calls Try.prog 11 #[.int .i64 (k : Int)] w fun e w' => e = .returned (.int .i64 (tb k)) ∧ Below w.heap.size w w' := by
  have k1 := fun W => cRMul 3141592653589793238 (k : Int) W (by decide) (by decide) (by omega) (by omega)
  have mb := mul_bd 3141592653589793238 (k : Int) (by decide) (by decide) (by omega) (by omega)
  have k2 := fun W => cRDiv (3141592653589793238 * (k : Int)) 128 W (by omega) (by decide) (by decide)
  have xb := rx_bd k hk
  rw [show dq (3141592653589793238 * (k : Int)) 128 = rx k from rfl] at k2
  generalize dok (3141592653589793238 * (k : Int)) 128 = ok at *
  generalize decide (3141592653589793238 * (k : Int) < 0) = g at *
  generalize ((3141592653589793238 * (k : Int)).natAbs : Int) = n at *
  obtain ⟨X, hX⟩ : ∃ X, rx k = X := ⟨_, rfl⟩
  rw [hX] at k2 xb
  have HX := Lib.hid hX
  have HK := Lib.hid hk
  clear hX mb
  go_enter Try.func11, Try.ntmps11
  go_wp2_with (first | (go_at_call 27; (with_reducible refine (k1 _).mono ?_); rintro e w1 ⟨rfl, hM⟩) | (go_at_call 26; (with_reducible refine (k2 _).mono ?_); rintro e w1 ⟨rfl, hM⟩))
  go_loopw [5, 6, 7] (fun p q m wr => ∃ (j : Nat) (s t n : Int), j ≤ 12 ∧ p = .int .i64 s ∧ q = .int .i64 t ∧ m = .int .i64 n ∧ Hid (n = 2 * (j : Int) + 1 ∧ s = rsm k j ∧ t = rtm k j) ∧ Below w.heap.size w wr) (fun _ _ m _ => (24 - RowKit.intOf m).toNat)
  case atStart => exact ⟨0, 0, X, 1, by omega, rfl, rfl, rfl, Lib.hid ⟨by decide, rfl, HX.out.symm⟩, by (repeat (first | with_reducible assumption | with_reducible exact Below.refl _ _ | ((with_reducible refine Below.setCell ?_ ?_ _); rotate_left; (first | exact Nat.le_refl _ | (dsimp only; omega) | (simp; done) | (simp; omega))) | with_reducible refine below_alloc ?_ _ | with_reducible apply below_drewN | with_reducible apply Below.drew | with_reducible refine below_step ?_ (by assumption)))⟩
  case round =>
    obtain ⟨j, s, t, n, hj, rfl, rfl, rfl, HN, HB⟩ := hrel
    have hn := HN.out.1
    have b := rtm_bd k HK.out j (by omega)
    rw [HX.out, ← HN.out.2.1, ← HN.out.2.2] at b
    by_cases hlt : j < 12
    · have us := rsm_up k j
      have ut := rtm_up k j
      rw [HX.out, ← HN.out.2.2] at ut
      rw [← HN.out.2.1, ← HN.out.2.2] at us
      have k3 := fun W => cBy t X W (by omega) (by omega) (by omega) (by omega)
      have k4 := fun W => cBy (mu t X) X W (by omega) (by omega) (by omega) (by omega)
      generalize mu t X = p at *
      generalize mu p X = q at *
      obtain ⟨c, hc⟩ : ∃ c, (n + 1) * (n + 2) = c := ⟨_, rfl⟩
      rw [show 2 * (j : Int) + 2 = n + 1 by omega, show 2 * (j : Int) + 3 = n + 2 by omega, hc] at ut
      have cb : 1 ≤ c ∧ c ≤ 10000 := by
        rw [← hc]
        have h1 : 1 * 1 ≤ (n + 1) * (n + 2) := Int.mul_le_mul (by omega) (by omega) (by decide) (by omega)
        have h2 : (n + 1) * (n + 2) ≤ 100 * 100 := Int.mul_le_mul (by omega) (by omega) (by omega) (by decide)
        omega
      have HU := Lib.hid (And.intro us ut)
      have HH := Lib.hid hn
      have nb : 1 ≤ n ∧ n ≤ 23 := by omega
      rcases (show j % 2 = 0 ∨ ¬ j % 2 = 0 by omega) with h2 | h2
      · rw [if_pos h2] at us
        have h4 : n % 4 = 1 := by omega
        have HS := Lib.hid us
        clear us ut hn
        go_wp2_with (first | (go_at_call 28; (with_reducible refine (k3 _).mono ?_); rintro e w1 ⟨rfl, hM⟩) | (go_at_call 28; (with_reducible refine (k4 _).mono ?_); rintro e w1 ⟨rfl, hM⟩))
        exact ⟨⟨j + 1, s + t, q / c, n + 2, by omega, rfl, rfl, rfl, Lib.hid ⟨by have := HH.out; omega, HS.out.symm, HU.out.2.symm⟩, by (repeat (first | with_reducible assumption | with_reducible exact Below.refl _ _ | ((with_reducible refine Below.setCell ?_ ?_ _); rotate_left; (first | exact Nat.le_refl _ | (dsimp only; omega) | (simp; done) | (simp; omega))) | with_reducible refine below_alloc ?_ _ | with_reducible apply below_drewN | with_reducible apply Below.drew | with_reducible refine below_step ?_ (by assumption)))⟩, by simp [RowKit.intOf] <;> omega⟩
      · rw [if_neg h2] at us
        have h4 : n % 4 = 3 := by omega
        have HS := Lib.hid us
        clear us ut hn
        go_wp2_with (first | (go_at_call 28; (with_reducible refine (k3 _).mono ?_); rintro e w1 ⟨rfl, hM⟩) | (go_at_call 28; (with_reducible refine (k4 _).mono ?_); rintro e w1 ⟨rfl, hM⟩))
        exact ⟨⟨j + 1, s - t, q / c, n + 2, by omega, rfl, rfl, rfl, Lib.hid ⟨by have := HH.out; omega, HS.out.symm, HU.out.2.symm⟩, by (repeat (first | with_reducible assumption | with_reducible exact Below.refl _ _ | ((with_reducible refine Below.setCell ?_ ?_ _); rotate_left; (first | exact Nat.le_refl _ | (dsimp only; omega) | (simp; done) | (simp; omega))) | with_reducible refine below_alloc ?_ _ | with_reducible apply below_drewN | with_reducible apply Below.drew | with_reducible refine below_step ?_ (by assumption)))⟩, by simp [RowKit.intOf] <;> omega⟩
    · obtain rfl : j = 12 := by omega
      have nb : 24 ≤ n := by omega
      have ev := rsm_tb k HK.out
      rw [← HN.out.2.1] at ev
      have mb := mul_bd s 4294967296 (by omega) (by omega) (by omega) (by omega)
      have kM := fun W => cRMul s 4294967296 W (by omega) (by omega) (by omega) (by omega)
      have kD := fun W => cRDiv (s * 4294967296) 1000000000000000000 W (by omega) (by decide) (by decide)
      rw [ev] at kD
      generalize dok (s * 4294967296) 1000000000000000000 = okk at *
      generalize decide (s * 4294967296 < 0) = gs at *
      generalize ((s * 4294967296).natAbs : Int) = ns at *
      clear ev mb
      go_wp2_with (first | (go_at_call 27; (with_reducible refine (kM _).mono ?_); rintro e w1 ⟨rfl, hM⟩) | (go_at_call 26; (with_reducible refine (kD _).mono ?_); rintro e w1 ⟨rfl, hM⟩))
      go_ret
      exact ⟨rfl, by (repeat (first | with_reducible assumption | with_reducible exact Below.refl _ _ | ((with_reducible refine Below.setCell ?_ ?_ _); rotate_left; (first | exact Nat.le_refl _ | (dsimp only; omega) | (simp; done) | (simp; omega))) | with_reducible refine below_alloc ?_ _ | with_reducible apply below_drewN | with_reducible apply Below.drew | with_reducible refine below_step ?_ (by assumption)))⟩
theorem cRTable (k : Int) (w : World) (k0 : -9223372036854775808 ≤ k) (k1 : k ≤ 9223372036854775807) : Calls Try.prog 11 #[.int .i64 k] w fun e w' => e = .returned (.int .i64 (tbz k)) ∧ Below w.heap.size w w' := by
  unfold tbz
  by_cases h : 0 ≤ k ∧ k ≤ 64
  · rw [if_pos h]
    obtain ⟨n, rfl⟩ : ∃ n : Nat, k = n := ⟨k.toNat, by omega⟩
    rw [Int.toNat_natCast]
    exact cRTabN n w (by omega)
  · rw [if_neg h]
    rcases (show k < 0 ∨ (0 ≤ k ∧ 64 < k) by omega) with h1 | ⟨h1, h2⟩
    · go_enter Try.func11, Try.ntmps11
      go_wp2
      go_ret
      exact ⟨rfl, Below.refl _ _⟩
    · go_enter Try.func11, Try.ntmps11
      go_wp2
      go_ret
      exact ⟨rfl, Below.refl _ _⟩
theorem gq_tab2 (y : Int) (h0 : 0 ≤ y) (h1 : y ≤ 1073741824) : ∃ s0 s1 d : Int, tbz (y / 16777216) = s0 ∧ (y / 16777216 < 64 → tbz (y / 16777216 + 1) = s1) ∧ 0 ≤ s0 ∧ s0 ≤ 4294967296 ∧ 0 ≤ s1 - s0 ∧ s1 - s0 ≤ 4294967296 ∧ 0 ≤ s1 ∧ s1 ≤ 4294967296 ∧ dq ((s1 - s0) * (y % 16777216)) 16777216 = d ∧ 0 ≤ d ∧ d ≤ 4294967296 ∧ gq y = s0 + d ∧ (¬ y / 16777216 < 64 → d = 0) := by
  rcases (show y < 1073741824 ∨ y = 1073741824 by omega) with h | rfl
  · obtain ⟨i, f, hi, f0, f1, rfl⟩ := parts_of y h0 h
    have e1 : ((i : Int) * 16777216 + f) / 16777216 = i := by omega
    have e2 : ((i : Int) * 16777216 + f) % 16777216 = f := by omega
    have k := pc_yes (tb i) (tb (i + 1) - tb i) f (tb_d i hi).1 (tb_d i hi).2 f0 (by omega)
    refine ⟨tb i, tb (i + 1), qn ((tb (i + 1) - tb i) * f) 16777216, by rw [e1, tbz_at i (by omega)], fun _ => by rw [e1]; exact tbz_at (i + 1) (by omega), (tb_bd i (by omega)).1, (tb_bd i (by omega)).2, (tb_d i hi).1, (tb_d i hi).2, (tb_bd (i + 1) (by omega)).1, (tb_bd (i + 1) (by omega)).2, by rw [e2]; exact k.2.1, k.2.2.1, by have := k.2.2.2.1; have := (tb_d i hi).2; omega, ?_, ?_⟩
    · rw [gq_at i f hi f0 (by omega)]; unfold pc; rw [k.2.1]
    · rw [e1]; omega
  · exact ⟨4294967296, 4294967296, 0, by decide, by decide, by decide, by decide, by decide, by decide, by decide, by decide, by decide, by decide, by decide, gq_end, fun _ => rfl⟩
set_option maxHeartbeats 4000000 in
theorem cRSin (t : Int) (w : World) (t0 : 0 ≤ t) (t1 : t ≤ 4294967295) : Calls Try.prog 14 #[.int .u32 t] w fun e w' => e = .returned (.int .i64 (sinv t)) ∧ Below w.heap.size w w' := by
  obtain ⟨q, r, y, hq, hr, hy⟩ : ∃ q r y : Int, t / 1073741824 = q ∧ t % 1073741824 = r ∧ (if q % 2 = 1 then 1073741824 - r else r) = y := ⟨_, _, _, rfl, rfl, rfl⟩
  have hq4 : q = 0 ∨ q = 1 ∨ q = 2 ∨ q = 3 := by omega
  have hyb : 0 ≤ y ∧ y ≤ 1073741824 := by rw [← hy]; split <;> omega
  have hE : sinv t = if 2 ≤ q then -gq y else gq y := by unfold sinv; rw [hq, hr, hy]
  obtain ⟨s0, s1, d, e0, e1, s00, s01, d0, d1, s10, s11, e2, d2, d3, e3, e4⟩ := gq_tab2 y hyb.1 hyb.2
  rw [e3] at hE
  have kT := fun W => cRTable (y / 16777216) W (by omega) (by omega)
  have kU := fun W => cRTable (y / 16777216 + 1) W (by omega) (by omega)
  rw [e0] at kT
  have mb := mul_bd (s1 - s0) (y % 16777216) (by omega) (by omega) (by omega) (by omega)
  have kM := fun W => cRMul (s1 - s0) (y % 16777216) W (by omega) (by omega) (by omega) (by omega)
  have kD := fun W => cRDiv ((s1 - s0) * (y % 16777216)) 16777216 W (by omega) (by decide) (by decide)
  rw [e2] at kD
  generalize dok ((s1 - s0) * (y % 16777216)) 16777216 = ok at *
  generalize decide ((s1 - s0) * (y % 16777216) < 0) = zg at *
  generalize (((s1 - s0) * (y % 16777216)).natAbs : Int) = zn at *
  have HE := Lib.hid hE
  generalize sinv t = V at *
  clear mb e2 e3 hE e0
  rcases hq4 with rfl | rfl | rfl | rfl
  · obtain rfl : r = y := by rw [← hy]; rfl
    have EV : Hid (V = s0 + d) := Lib.hid (by rw [HE.out]; rfl)
    by_cases hf : r / 16777216 < 64
    · rw [e1 hf] at kU
      clear e1 e4 hy
      go_enter Try.func14, Try.ntmps14
      go_wp2_with (first | (go_at_call 11; (with_reducible refine (kT _).mono ?_); rintro e w1 ⟨rfl, hM⟩) | (go_at_call 11; (with_reducible refine (kU _).mono ?_); rintro e w1 ⟨rfl, hM⟩) | (go_at_call 27; (with_reducible refine (kM _).mono ?_); rintro e w1 ⟨rfl, hM⟩) | (go_at_call 26; (with_reducible refine (kD _).mono ?_); rintro e w1 ⟨rfl, hM⟩))
      go_ret
      exact ⟨by rw [EV.out]; rfl, by (repeat (first | with_reducible assumption | with_reducible exact Below.refl _ _ | ((with_reducible refine Below.setCell ?_ ?_ _); rotate_left; (first | exact Nat.le_refl _ | (dsimp only; omega) | (simp; done) | (simp; omega))) | with_reducible refine below_alloc ?_ _ | with_reducible apply below_drewN | with_reducible apply Below.drew | with_reducible refine below_step ?_ (by assumption)))⟩
    · omega
  · have hy : 1073741824 - r = y := by rw [← hy]; rfl
    have EV : Hid (V = s0 + d) := Lib.hid (by rw [HE.out]; rfl)
    by_cases hf : y / 16777216 < 64
    · rw [e1 hf] at kU
      clear e1 e4
      go_enter Try.func14, Try.ntmps14
      go_wp2_with (first | (go_at_call 11; (with_reducible refine (kT _).mono ?_); rintro e w1 ⟨rfl, hM⟩) | (go_at_call 11; (with_reducible refine (kU _).mono ?_); rintro e w1 ⟨rfl, hM⟩) | (go_at_call 27; (with_reducible refine (kM _).mono ?_); rintro e w1 ⟨rfl, hM⟩) | (go_at_call 26; (with_reducible refine (kD _).mono ?_); rintro e w1 ⟨rfl, hM⟩))
      go_ret
      exact ⟨by rw [EV.out]; rfl, by (repeat (first | with_reducible assumption | with_reducible exact Below.refl _ _ | ((with_reducible refine Below.setCell ?_ ?_ _); rotate_left; (first | exact Nat.le_refl _ | (dsimp only; omega) | (simp; done) | (simp; omega))) | with_reducible refine below_alloc ?_ _ | with_reducible apply below_drewN | with_reducible apply Below.drew | with_reducible refine below_step ?_ (by assumption)))⟩
    · have hd : d = 0 := e4 (by omega)
      subst hd
      clear e1 e4
      go_enter Try.func14, Try.ntmps14
      go_wp2_with (first | (go_at_call 11; (with_reducible refine (kT _).mono ?_); rintro e w1 ⟨rfl, hM⟩) | (go_at_call 11; (with_reducible refine (kU _).mono ?_); rintro e w1 ⟨rfl, hM⟩) | (go_at_call 27; (with_reducible refine (kM _).mono ?_); rintro e w1 ⟨rfl, hM⟩) | (go_at_call 26; (with_reducible refine (kD _).mono ?_); rintro e w1 ⟨rfl, hM⟩))
      go_ret
      exact ⟨by rw [EV.out]; simp, by (repeat (first | with_reducible assumption | with_reducible exact Below.refl _ _ | ((with_reducible refine Below.setCell ?_ ?_ _); rotate_left; (first | exact Nat.le_refl _ | (dsimp only; omega) | (simp; done) | (simp; omega))) | with_reducible refine below_alloc ?_ _ | with_reducible apply below_drewN | with_reducible apply Below.drew | with_reducible refine below_step ?_ (by assumption)))⟩
  · obtain rfl : r = y := by rw [← hy]; rfl
    have EV : Hid (V = -(s0 + d)) := Lib.hid (by rw [HE.out]; rfl)
    by_cases hf : r / 16777216 < 64
    · rw [e1 hf] at kU
      clear e1 e4 hy
      go_enter Try.func14, Try.ntmps14
      go_wp2_with (first | (go_at_call 11; (with_reducible refine (kT _).mono ?_); rintro e w1 ⟨rfl, hM⟩) | (go_at_call 11; (with_reducible refine (kU _).mono ?_); rintro e w1 ⟨rfl, hM⟩) | (go_at_call 27; (with_reducible refine (kM _).mono ?_); rintro e w1 ⟨rfl, hM⟩) | (go_at_call 26; (with_reducible refine (kD _).mono ?_); rintro e w1 ⟨rfl, hM⟩))
      go_ret
      exact ⟨by rw [EV.out]; rfl, by (repeat (first | with_reducible assumption | with_reducible exact Below.refl _ _ | ((with_reducible refine Below.setCell ?_ ?_ _); rotate_left; (first | exact Nat.le_refl _ | (dsimp only; omega) | (simp; done) | (simp; omega))) | with_reducible refine below_alloc ?_ _ | with_reducible apply below_drewN | with_reducible apply Below.drew | with_reducible refine below_step ?_ (by assumption)))⟩
    · omega
  · have hy : 1073741824 - r = y := by rw [← hy]; rfl
    have EV : Hid (V = -(s0 + d)) := Lib.hid (by rw [HE.out]; rfl)
    by_cases hf : y / 16777216 < 64
    · rw [e1 hf] at kU
      clear e1 e4
      go_enter Try.func14, Try.ntmps14
      go_wp2_with (first | (go_at_call 11; (with_reducible refine (kT _).mono ?_); rintro e w1 ⟨rfl, hM⟩) | (go_at_call 11; (with_reducible refine (kU _).mono ?_); rintro e w1 ⟨rfl, hM⟩) | (go_at_call 27; (with_reducible refine (kM _).mono ?_); rintro e w1 ⟨rfl, hM⟩) | (go_at_call 26; (with_reducible refine (kD _).mono ?_); rintro e w1 ⟨rfl, hM⟩))
      go_ret
      exact ⟨by rw [EV.out]; rfl, by (repeat (first | with_reducible assumption | with_reducible exact Below.refl _ _ | ((with_reducible refine Below.setCell ?_ ?_ _); rotate_left; (first | exact Nat.le_refl _ | (dsimp only; omega) | (simp; done) | (simp; omega))) | with_reducible refine below_alloc ?_ _ | with_reducible apply below_drewN | with_reducible apply Below.drew | with_reducible refine below_step ?_ (by assumption)))⟩
    · have hd : d = 0 := e4 (by omega)
      subst hd
      clear e1 e4
      go_enter Try.func14, Try.ntmps14
      go_wp2_with (first | (go_at_call 11; (with_reducible refine (kT _).mono ?_); rintro e w1 ⟨rfl, hM⟩) | (go_at_call 11; (with_reducible refine (kU _).mono ?_); rintro e w1 ⟨rfl, hM⟩) | (go_at_call 27; (with_reducible refine (kM _).mono ?_); rintro e w1 ⟨rfl, hM⟩) | (go_at_call 26; (with_reducible refine (kD _).mono ?_); rintro e w1 ⟨rfl, hM⟩))
      go_ret
      exact ⟨by rw [EV.out]; simp, by (repeat (first | with_reducible assumption | with_reducible exact Below.refl _ _ | ((with_reducible refine Below.setCell ?_ ?_ _); rotate_left; (first | exact Nat.le_refl _ | (dsimp only; omega) | (simp; done) | (simp; omega))) | with_reducible refine below_alloc ?_ _ | with_reducible apply below_drewN | with_reducible apply Below.drew | with_reducible refine below_step ?_ (by assumption)))⟩
theorem cRCos (t : Int) (w : World) (t0 : 0 ≤ t) (t1 : t ≤ 4294967295) : Calls Try.prog 16 #[.int .u32 t] w fun e w' => e = .returned (.int .i64 (cosv t)) ∧ Below w.heap.size w w' := by
  have k := fun W => cRSin ((t + 1073741824) % 4294967296) W (by omega) (by omega)
  unfold cosv
  go_enter Try.func16, Try.ntmps16
  go_wp2_with (first | (go_at_call 14; (with_reducible refine (k _).mono ?_); rintro e w1 ⟨rfl, hM⟩))
  go_ret
  exact ⟨rfl, by (repeat (first | with_reducible assumption | with_reducible exact Below.refl _ _ | ((with_reducible refine Below.setCell ?_ ?_ _); rotate_left; (first | exact Nat.le_refl _ | (dsimp only; omega) | (simp; done) | (simp; omega))) | with_reducible refine below_alloc ?_ _ | with_reducible apply below_drewN | with_reducible apply Below.drew | with_reducible refine below_step ?_ (by assumption)))⟩
set_option maxHeartbeats 2000000 in
theorem cHolds (x y t : Int) (w : World) (t0 : 0 ≤ t) (t1 : t ≤ 4294967295) (x_0 : -9223372036854775808 ≤ x) (x_1 : x ≤ 9223372036854775807) (y_0 : -9223372036854775808 ≤ y) (y_1 : y ≤ 9223372036854775807) : Calls Try.prog 47 #[.int .i64 x, .int .i64 y, .int .u32 t] w fun e w' => e = .returned (.bool (hd x y t)) ∧ Below w.heap.size w w' := by
  have kc := fun W => cRCos t W t0 t1
  have ks := fun W => cRSin t W t0 t1
  have cb := cosv_bd t
  have sb := sinv_bd t (by omega) (by omega)
  have m1 := mul_bd y (cosv t) (by omega) (by omega) (by omega) (by omega)
  have m2 := mul_bd x (sinv t) (by omega) (by omega) (by omega) (by omega)
  have k1 := fun W => cRMul y (cosv t) W (by omega) (by omega) (by omega) (by omega)
  have k2 := fun W => cRMul x (sinv t) W (by omega) (by omega) (by omega) (by omega)
  have k3 := fun W => cRCmp (y * cosv t) (x * sinv t) W (by omega) (by omega)
  have e : hd x y t = decide (0 ≤ cmp3 (y * cosv t) (x * sinv t)) := by
    unfold hd cmp3
    rw [decide_eq_decide]
    split <;> (try split) <;> omega
  rw [e]
  generalize cmp3 (y * cosv t) (x * sinv t) = z at *
  generalize decide (y * cosv t < 0) = g1 at *
  generalize ((y * cosv t).natAbs : Int) = n1 at *
  generalize decide (x * sinv t < 0) = g2 at *
  generalize ((x * sinv t).natAbs : Int) = n2 at *
  generalize cosv t = c at *
  generalize sinv t = s at *
  clear e m1 m2
  go_enter Try.func47, Try.ntmps47
  go_wp2_with (first | (go_at_call 16; (with_reducible refine (kc _).mono ?_); rintro e w1 ⟨rfl, hM⟩) | (go_at_call 14; (with_reducible refine (ks _).mono ?_); rintro e w1 ⟨rfl, hM⟩) | (go_at_call 27; (with_reducible refine (k1 _).mono ?_); rintro e w1 ⟨rfl, hM⟩) | (go_at_call 27; (with_reducible refine (k2 _).mono ?_); rintro e w1 ⟨rfl, hM⟩) | (go_at_call 54; (with_reducible refine (k3 _).mono ?_); rintro e w1 ⟨rfl, hM⟩))
  go_ret
  exact ⟨rfl, by (repeat (first | with_reducible assumption | with_reducible exact Below.refl _ _ | ((with_reducible refine Below.setCell ?_ ?_ _); rotate_left; (first | exact Nat.le_refl _ | (dsimp only; omega) | (simp; done) | (simp; omega))) | with_reducible refine below_alloc ?_ _ | with_reducible apply below_drewN | with_reducible apply Below.drew | with_reducible refine below_step ?_ (by assumption)))⟩
set_option maxHeartbeats 4000000 in
theorem cRFst (x y a : Int) (w : World) (h : IsF x y a) (x0 : 0 ≤ x) (x1 : x ≤ 9223372036854775807) (y0 : 0 ≤ y) (y1 : y ≤ 9223372036854775807) :
    Calls Try.prog 30 #[.int .i64 x, .int .i64 y] w fun e w' => e = .returned (.int .u32 a) ∧ Below w.heap.size w w' := by
  have HF := Lib.hid h
  have ha0 := h.1
  have ha1 := h.2.1
  have kq := fun W => cHolds x y 1073741824 W (by decide) (by decide) (by omega) (by omega) (by omega) (by omega)
  have hq := h.iff x0 y0 1073741824 (by decide) (by decide)
  generalize hd x y 1073741824 = bq at *
  clear h
  cases bq with
  | true =>
    have : a = 1073741824 := by have := hq.1 rfl; omega
    subst this
    clear hq
    go_enter Try.func30, Try.ntmps30
    go_wp2_with (first | (go_at_call 47; (with_reducible refine (kq _).mono ?_); rintro e w1 ⟨rfl, hM⟩))
    go_ret
    exact ⟨rfl, by (repeat (first | with_reducible assumption | with_reducible exact Below.refl _ _ | ((with_reducible refine Below.setCell ?_ ?_ _); rotate_left; (first | exact Nat.le_refl _ | (dsimp only; omega) | (simp; done) | (simp; omega))) | with_reducible refine below_alloc ?_ _ | with_reducible apply below_drewN | with_reducible apply Below.drew | with_reducible refine below_step ?_ (by assumption)))⟩
  | false =>
    have hlt : a < 1073741824 := by
      rcases Int.lt_or_le a 1073741824 with h1 | h1
      · exact h1
      · have := hq.2 h1; cases this
    clear hq
    go_enter Try.func30, Try.ntmps30
    go_wp2_with (first | (go_at_call 47; (with_reducible refine (kq _).mono ?_); rintro e w1 ⟨rfl, hM⟩))
    go_loopw [5, 6] (fun p q wr => ∃ (j : Nat) (t K : Int), p = .int .u32 t ∧ q = .int .i64 ((j : Int) - 1) ∧ j ≤ 30 ∧ 0 ≤ t ∧ t ≤ a ∧ Hid (K = ((2 ^ j : Nat) : Int) ∧ a < t + K ∧ t + K ≤ 1073741824) ∧ Below w.heap.size w wr) (fun _ q _ => (RowKit.intOf q + 1).toNat)
    case atStart => exact ⟨30, 0, 1073741824, rfl, by go_num, by omega, by omega, by omega, Lib.hid ⟨by decide, by omega, by decide⟩, by (repeat (first | with_reducible assumption | with_reducible exact Below.refl _ _ | ((with_reducible refine Below.setCell ?_ ?_ _); rotate_left; (first | exact Nat.le_refl _ | (dsimp only; omega) | (simp; done) | (simp; omega))) | with_reducible refine below_alloc ?_ _ | with_reducible apply below_drewN | with_reducible apply Below.drew | with_reducible refine below_step ?_ (by assumption)))⟩
    case round =>
      obtain ⟨j, t, K, rfl, rfl, hj, t0, ta, HK, HB⟩ := hrel
      cases j with
      | zero =>
        obtain ⟨e1, e2, e3⟩ := HK.out
        rw [show ((2 ^ 0 : Nat) : Int) = 1 by decide] at e1
        obtain rfl : t = a := by omega
        clear HK e2 e3
        go_wp2
        go_ret
        exact ⟨rfl, by first | exact HB | (repeat (first | with_reducible assumption | with_reducible exact Below.refl _ _ | ((with_reducible refine Below.setCell ?_ ?_ _); rotate_left; (first | exact Nat.le_refl _ | (dsimp only; omega) | (simp; done) | (simp; omega))) | with_reducible refine below_alloc ?_ _ | with_reducible apply below_drewN | with_reducible apply Below.drew | with_reducible refine below_step ?_ (by assumption)))⟩
      | succ j =>
        obtain ⟨P, hP⟩ : ∃ P : Int, (2 : Int) ^ j = P := ⟨_, rfl⟩
        have hP' : ((2 ^ j : Nat) : Int) = P := by rw [← hP]; simp
        have hK2 : ((2 ^ (j + 1) : Nat) : Int) = P + P := by rw [← hP', Nat.pow_succ]; omega
        have hP1 : 1 ≤ P := by rw [← hP']; have := Nat.two_pow_pos j; omega
        obtain ⟨e1, e2, e3⟩ := HK.out
        rw [e1, hK2] at e2 e3
        have kh := fun W => cHolds x y (t + P) W (by omega) (by omega) (by omega) (by omega) (by omega) (by omega)
        have hi := HF.out.iff x0 y0 (t + P) (by omega) (by omega)
        generalize hd x y (t + P) = b at *
        have HI := Lib.hid hi
        have HP := Lib.hid hP'
        clear hi e1 hK2 hP'
        cases b with
        | true =>
          have hta := HI.out.1 rfl
          go_wp2_with (first | (go_at_call 47; (with_reducible refine (kh _).mono ?_); rintro e w1 ⟨rfl, hM⟩))
          exact ⟨⟨j, t + P, P, rfl, by go_num, by omega, by omega, by omega, Lib.hid ⟨HP.out.symm, by omega, by omega⟩, by (repeat (first | with_reducible assumption | with_reducible exact Below.refl _ _ | ((with_reducible refine Below.setCell ?_ ?_ _); rotate_left; (first | exact Nat.le_refl _ | (dsimp only; omega) | (simp; done) | (simp; omega))) | with_reducible refine below_alloc ?_ _ | with_reducible apply below_drewN | with_reducible apply Below.drew | with_reducible refine below_step ?_ (by assumption)))⟩, by simp [RowKit.intOf] <;> omega⟩
        | false =>
          have hta : ¬ t + P ≤ a := fun hh => by have := HI.out.2 hh; cases this
          go_wp2_with (first | (go_at_call 47; (with_reducible refine (kh _).mono ?_); rintro e w1 ⟨rfl, hM⟩))
          exact ⟨⟨j, t, P, rfl, by go_num, by omega, by omega, by omega, Lib.hid ⟨HP.out.symm, by omega, by omega⟩, by (repeat (first | with_reducible assumption | with_reducible exact Below.refl _ _ | ((with_reducible refine Below.setCell ?_ ?_ _); rotate_left; (first | exact Nat.le_refl _ | (dsimp only; omega) | (simp; done) | (simp; omega))) | with_reducible refine below_alloc ?_ _ | with_reducible apply below_drewN | with_reducible apply Below.drew | with_reducible refine below_step ?_ (by assumption)))⟩, by simp [RowKit.intOf] <;> omega⟩
end Go.Proofs.Ytdbbandpobifhaa
