/- Contracts of a time's text: the program's and the document's; a kind's word. -/
import Derived.Test.YtdanogeiodkcbaaE3
set_option linter.unusedSimpArgs false
set_option linter.unusedVariables false
namespace Go.Proofs.Ytdanogeiodkcbaa
open Go.RowKit
theorem pd_len (k n : Nat) (hk : k ≤ 9) : (pd k n).length ≤ 29 := by unfold pd; have := dg_len n; simp; omega
set_option maxHeartbeats 4000000 in
theorem cPadded (n k : Nat) (w : World) (hn : n ≤ 9223372036854775807) (hk : k ≤ 9) : Calls Try.prog 14 #[.int .i64 n, .int .i64 k] w fun e w' => e = .returned (.string (bs (pd k n))) ∧ Below w.heap.size w w' := by
  have k1 := fun W => cWholeP n W hn
  have hl := dg_len n
  have hz := bs_size (dg n)
  have k2 : ∀ W, Calls Try.prog 24 #[.string ⟨#[48]⟩, .int .i64 (max ((k : Int) - ((bs (dg n)).size : Int)) 0)] W fun e w' => e = .returned (.string (bs (List.replicate (k - (dg n).length) 48))) ∧ Below W.heap.size W w' := fun W => by
    have h := shRepeat ⟨#[48]⟩ (k - (dg n).length) W (by omega) (by simp [ByteArray.size]; omega)
    rw [show (max ((k : Int) - ((bs (dg n)).size : Int)) 0) = ((k - (dg n).length : Nat) : Int) by rw [hz]; omega]
    have e := Lib.repeatL_replicate 48 1 (k - (dg n).length)
    rw [Nat.mul_one] at e
    rw [show (⟨#[48]⟩ : ByteArray).data.toList = List.replicate 1 48 from rfl, e] at h
    exact h
  have HA := Lib.hid (bs_append (List.replicate (k - (dg n).length) 48) (dg n))
  have hz1 : (bs (List.replicate (k - (dg n).length) 48)).size ≤ 9 := by rw [bs_size]; simp; omega
  have hz2 : (bs (dg n)).size ≤ 20 := by rw [hz]; exact hl
  have HE : Hid (bs (List.replicate (k - (dg n).length) 48) ++ bs (dg n) = bs (pd k n)) := Lib.hid (by rw [HA.out]; rfl)
  clear HA hz hl
  generalize bs (List.replicate (k - (dg n).length) 48) = R at *
  generalize bs (dg n) = T at *
  generalize bs (pd k n) = P at *
  go_enter Try.func14, Try.ntmps14
  go_wp2_with (first | (go_at_call 13; (with_reducible refine (k1 _).mono ?_); rintro e w1 ⟨rfl, hM⟩) | (go_at_call 24; (with_reducible refine (k2 _).mono ?_); rintro e w1 ⟨rfl, hM⟩))
  go_ret
  exact ⟨by rw [← HE.out] <;> rfl, by (repeat (first | with_reducible assumption | with_reducible exact Below.refl _ _ | ((with_reducible refine Below.setCell ?_ ?_ _); rotate_left; (first | exact Nat.le_refl _ | (dsimp only; omega) | (simp; done) | (simp; omega))) | with_reducible refine below_alloc ?_ _ | with_reducible apply below_drewN | with_reducible apply Below.drew | with_reducible refine below_step ?_ (by assumption)))⟩
set_option maxHeartbeats 4000000 in
theorem rTwo (n k : Nat) (w : World) (hn : n ≤ 9223372036854775807) (hk : k ≤ 9) : Calls Try.prog 17 #[.int .i64 n, .int .i64 k] w fun e w' => e = .returned (.string (bs (pd k n))) ∧ Below w.heap.size w w' := by
  have k1 := fun W => rWhole n W hn
  have hl := dg_len n
  go_enter Try.func17, Try.ntmps17
  go_wp2_with ((go_at_call 16; (with_reducible refine (k1 _).mono ?_); rintro e w1 ⟨rfl, hM⟩))
  have HM := hM
  clear hM k1
  go_loopw [5] (fun s wr => ∃ j : Nat, s = .string (bs (List.replicate j 48 ++ dg n)) ∧ (j = 0 ∨ j + (dg n).length ≤ k) ∧ Below w.heap.size w wr) (fun s _ => match s with | .string s => 40 - s.size | _ => 0)
  case atStart => exact ⟨0, rfl, Or.inl rfl, by (repeat (first | with_reducible assumption | with_reducible exact Below.refl _ _ | ((with_reducible refine Below.setCell ?_ ?_ _); rotate_left; (first | exact Nat.le_refl _ | (dsimp only; omega) | (simp; done) | (simp; omega))) | with_reducible refine below_alloc ?_ _ | with_reducible apply below_drewN | with_reducible apply Below.drew | with_reducible refine below_step ?_ (by assumption)))⟩
  case round =>
    obtain ⟨j, rfl, hj, HB⟩ := hrel
    have hsz : (bs (List.replicate j 48 ++ dg n)).size = j + (dg n).length := by rw [bs_size]; simp
    have HA := Lib.hid (bs_append [48] (List.replicate j 48 ++ dg n))
    by_cases hlt : j + (dg n).length < k
    · have h1 : (bs (List.replicate j 48 ++ dg n)).size < k := by omega
      have h2 : (bs (List.replicate j 48 ++ dg n)).size ≤ 30 := by omega
      have HZ := Lib.hid hsz
      clear hsz
      go_wp2
      exact ⟨⟨j + 1, by rw [List.replicate_succ, List.cons_append]; exact congrArg _ HA.out, Or.inr (by omega), HB⟩, by have h3 := HZ.out; have h4 : ((⟨#[48]⟩ : ByteArray) ++ bs (List.replicate j 48 ++ dg n)).size = 1 + (bs (List.replicate j 48 ++ dg n)).size := (by rw [ByteArray.size_append]; rfl); dsimp only; omega⟩
    · have h1 : ¬ (bs (List.replicate j 48 ++ dg n)).size < k := by omega
      have HE : Hid (bs (List.replicate j 48 ++ dg n) = bs (pd k n)) := Lib.hid (by
        congr 1; unfold pd; congr 2; omega)
      clear hsz
      go_wp2
      go_ret
      exact ⟨by rw [← HE.out] <;> rfl, HB⟩
theorem dv_cast (N k : Nat) : ((N / k : Nat) : Int) = (N : Int) / (k : Int) := Int.natCast_ediv N k
theorem md_cast (N k : Nat) : ((N % k : Nat) : Int) = (N : Int) % (k : Int) := Int.natCast_emod N k
theorem cClockN (t r : Int) (w : World) (h : t < 0 ∨ r < 1 ∨ 1024 < r) : Calls Try.prog 7 #[.int .i64 t, .int .i64 r] w fun e w' => e = .returned (.string (bs [])) ∧ Below w.heap.size w w' := by
  have k1 := fun W => cThsN t r W h
  clear h
  go_enter Try.func7, Try.ntmps7
  go_wp2_with ((go_at_call 12; (with_reducible refine (k1 _).mono ?_); rintro e w1 ⟨rfl, hM⟩))
  go_ret
  exact ⟨rfl, by (repeat (first | with_reducible assumption | with_reducible exact Below.refl _ _ | ((with_reducible refine Below.setCell ?_ ?_ _); rotate_left; (first | exact Nat.le_refl _ | (dsimp only; omega) | (simp; done) | (simp; omega))) | with_reducible refine below_alloc ?_ _ | with_reducible apply below_drewN | with_reducible apply Below.drew | with_reducible refine below_step ?_ (by assumption)))⟩
set_option maxHeartbeats 4000000 in
theorem cClockY (t r : Int) (w : World) (t0 : 0 ≤ t) (t1 : t ≤ 9223372036854775807) (r0 : 1 ≤ r) (r1 : r ≤ 1024) : Calls Try.prog 7 #[.int .i64 t, .int .i64 r] w fun e w' => e = .returned (.string (bs (clk (ths t r).toNat))) ∧ Below w.heap.size w w' := by
  have k1 := fun W => cThsY t r W t0 t1 r0 r1
  obtain ⟨b0, b1⟩ := ths_bd t r t0 t1 r0
  obtain ⟨N, hN⟩ : ∃ N : Nat, ths t r = (N : Int) := ⟨(ths t r).toNat, by omega⟩
  rw [hN] at k1 b0 b1 ⊢
  rw [show ((N : Int)).toNat = N from rfl]
  clear hN t0 t1 r0 r1
  have k2 : ∀ W, Calls Try.prog 13 #[.int .i64 ((N : Int) / 60000)] W fun e w' => e = .returned (.string (bs (dg (N / 60000)))) ∧ Below W.heap.size W w' := fun W => by
    have h := cWholeP (N / 60000) W (by omega)
    rw [dv_cast] at h; exact h
  have k3 : ∀ W, Calls Try.prog 14 #[.int .i64 ((N : Int) / 1000 % 60), .int .i64 2] W fun e w' => e = .returned (.string (bs (pd 2 (N / 1000 % 60)))) ∧ Below W.heap.size W w' := fun W => by
    have h := cPadded (N / 1000 % 60) 2 W (by omega) (by decide)
    rw [md_cast, dv_cast] at h; exact h
  have k4 : ∀ W, Calls Try.prog 14 #[.int .i64 ((N : Int) % 1000), .int .i64 3] W fun e w' => e = .returned (.string (bs (pd 3 (N % 1000)))) ∧ Below W.heap.size W w' := fun W => by
    have h := cPadded (N % 1000) 3 W (by omega) (by decide)
    rw [md_cast] at h; exact h
  have z1 : (bs (dg (N / 60000))).size ≤ 20 := by rw [bs_size]; exact dg_len _
  have z2 : (bs (pd 2 (N / 1000 % 60))).size ≤ 29 := by rw [bs_size]; exact pd_len _ _ (by decide)
  have z3 : (bs (pd 3 (N % 1000))).size ≤ 29 := by rw [bs_size]; exact pd_len _ _ (by decide)
  have HE : Hid (bs (dg (N / 60000)) ++ (⟨#[58]⟩ : ByteArray) ++ bs (pd 2 (N / 1000 % 60)) ++ (⟨#[46]⟩ : ByteArray) ++ bs (pd 3 (N % 1000)) = bs (clk N)) := Lib.hid (by
    rw [show (⟨#[58]⟩ : ByteArray) = bs [58] from rfl, show (⟨#[46]⟩ : ByteArray) = bs [46] from rfl]
    simp only [bs_append]; rfl)
  generalize bs (dg (N / 60000)) = T1 at *
  generalize bs (pd 2 (N / 1000 % 60)) = T2 at *
  generalize bs (pd 3 (N % 1000)) = T3 at *
  generalize bs (clk N) = T at *
  go_enter Try.func7, Try.ntmps7
  go_wp2_with (first | (go_at_call 12; (with_reducible refine (k1 _).mono ?_); rintro e w1 ⟨rfl, hM⟩) | (go_at_call 13; (with_reducible refine (k2 _).mono ?_); rintro e w1 ⟨rfl, hM⟩) | (go_at_call 14; (with_reducible refine (k3 _).mono ?_); rintro e w1 ⟨rfl, hM⟩) | (go_at_call 14; (with_reducible refine (k4 _).mono ?_); rintro e w1 ⟨rfl, hM⟩))
  go_ret
  exact ⟨by rw [← HE.out] <;> rfl, by (repeat (first | with_reducible assumption | with_reducible exact Below.refl _ _ | ((with_reducible refine Below.setCell ?_ ?_ _); rotate_left; (first | exact Nat.le_refl _ | (dsimp only; omega) | (simp; done) | (simp; omega))) | with_reducible refine below_alloc ?_ _ | with_reducible apply below_drewN | with_reducible apply Below.drew | with_reducible refine below_step ?_ (by assumption)))⟩
theorem rClockN (t r : Int) (w : World) (h : t < 0 ∨ r < 1 ∨ 1024 < r) : Calls Try.prog 8 #[.int .i64 t, .int .i64 r] w fun e w' => e = .returned (.string (bs [])) ∧ Below w.heap.size w w' := by
  have k1 := fun W => rThsN t r W h
  clear h
  go_enter Try.func8, Try.ntmps8
  go_wp2_with ((go_at_call 15; (with_reducible refine (k1 _).mono ?_); rintro e w1 ⟨rfl, hM⟩))
  go_ret
  exact ⟨rfl, by (repeat (first | with_reducible assumption | with_reducible exact Below.refl _ _ | ((with_reducible refine Below.setCell ?_ ?_ _); rotate_left; (first | exact Nat.le_refl _ | (dsimp only; omega) | (simp; done) | (simp; omega))) | with_reducible refine below_alloc ?_ _ | with_reducible apply below_drewN | with_reducible apply Below.drew | with_reducible refine below_step ?_ (by assumption)))⟩
set_option maxHeartbeats 4000000 in
theorem rClockY (t r : Int) (w : World) (t0 : 0 ≤ t) (t1 : t ≤ 9223372036854775807) (r0 : 1 ≤ r) (r1 : r ≤ 1024) : Calls Try.prog 8 #[.int .i64 t, .int .i64 r] w fun e w' => e = .returned (.string (bs (clk (ths t r).toNat))) ∧ Below w.heap.size w w' := by
  have k1 := fun W => rThsY t r W t0 t1 r0 r1
  obtain ⟨b0, b1⟩ := ths_bd t r t0 t1 r0
  obtain ⟨N, hN⟩ : ∃ N : Nat, ths t r = (N : Int) := ⟨(ths t r).toNat, by omega⟩
  rw [hN] at k1 b0 b1 ⊢
  rw [show ((N : Int)).toNat = N from rfl]
  clear hN t0 t1 r0 r1
  have k2 : ∀ W, Calls Try.prog 16 #[.int .i64 ((N : Int) / 60000)] W fun e w' => e = .returned (.string (bs (dg (N / 60000)))) ∧ Below W.heap.size W w' := fun W => by
    have h := rWhole (N / 60000) W (by omega)
    rw [dv_cast] at h; exact h
  have k3 : ∀ W, Calls Try.prog 17 #[.int .i64 ((N : Int) / 1000 % 60), .int .i64 2] W fun e w' => e = .returned (.string (bs (pd 2 (N / 1000 % 60)))) ∧ Below W.heap.size W w' := fun W => by
    have h := rTwo (N / 1000 % 60) 2 W (by omega) (by decide)
    rw [md_cast, dv_cast] at h; exact h
  have k4 : ∀ W, Calls Try.prog 17 #[.int .i64 ((N : Int) % 1000), .int .i64 3] W fun e w' => e = .returned (.string (bs (pd 3 (N % 1000)))) ∧ Below W.heap.size W w' := fun W => by
    have h := rTwo (N % 1000) 3 W (by omega) (by decide)
    rw [md_cast] at h; exact h
  have z1 : (bs (dg (N / 60000))).size ≤ 20 := by rw [bs_size]; exact dg_len _
  have z2 : (bs (pd 2 (N / 1000 % 60))).size ≤ 29 := by rw [bs_size]; exact pd_len _ _ (by decide)
  have z3 : (bs (pd 3 (N % 1000))).size ≤ 29 := by rw [bs_size]; exact pd_len _ _ (by decide)
  have HE : Hid (bs (dg (N / 60000)) ++ (⟨#[58]⟩ : ByteArray) ++ bs (pd 2 (N / 1000 % 60)) ++ (⟨#[46]⟩ : ByteArray) ++ bs (pd 3 (N % 1000)) = bs (clk N)) := Lib.hid (by
    rw [show (⟨#[58]⟩ : ByteArray) = bs [58] from rfl, show (⟨#[46]⟩ : ByteArray) = bs [46] from rfl]
    simp only [bs_append]; rfl)
  generalize bs (dg (N / 60000)) = T1 at *
  generalize bs (pd 2 (N / 1000 % 60)) = T2 at *
  generalize bs (pd 3 (N % 1000)) = T3 at *
  generalize bs (clk N) = T at *
  go_enter Try.func8, Try.ntmps8
  go_wp2_with (first | (go_at_call 15; (with_reducible refine (k1 _).mono ?_); rintro e w1 ⟨rfl, hM⟩) | (go_at_call 16; (with_reducible refine (k2 _).mono ?_); rintro e w1 ⟨rfl, hM⟩) | (go_at_call 17; (with_reducible refine (k3 _).mono ?_); rintro e w1 ⟨rfl, hM⟩) | (go_at_call 17; (with_reducible refine (k4 _).mono ?_); rintro e w1 ⟨rfl, hM⟩))
  go_ret
  exact ⟨by rw [← HE.out] <;> rfl, by (repeat (first | with_reducible assumption | with_reducible exact Below.refl _ _ | ((with_reducible refine Below.setCell ?_ ?_ _); rotate_left; (first | exact Nat.le_refl _ | (dsimp only; omega) | (simp; done) | (simp; omega))) | with_reducible refine below_alloc ?_ _ | with_reducible apply below_drewN | with_reducible apply Below.drew | with_reducible refine below_step ?_ (by assumption)))⟩
/-- A kind's word. -/
def wrd (k : Int) : List UInt8 :=
  if k = 1 then [112, 97, 115, 115, 101, 100] else if k = 2 then [115, 101, 99, 116, 111, 114] else if k = 3 then [108, 97, 112] else if k = 4 then [119, 114, 111, 110, 103] else if k = 5 then [105, 110, 118, 97, 108, 105, 100] else
  if k = 6 then [102, 105, 110, 105, 115, 104] else []
set_option maxHeartbeats 4000000 in
theorem cWord (k : Int) (w : World) (k0 : -9223372036854775808 ≤ k) (k1 : k ≤ 9223372036854775807) : Calls Try.prog 9 #[.int .i64 k] w fun e w' => e = .returned (.string (bs (wrd k))) ∧ Below w.heap.size w w' := by
  rcases (show k = 1 ∨ k = 2 ∨ k = 3 ∨ k = 4 ∨ k = 5 ∨ k = 6 ∨ k < 1 ∨ 6 < k by omega) with rfl | rfl | rfl | rfl | rfl | rfl | h | h
  all_goals first | clear k0 k1 | skip
  · go_enter Try.func9, Try.ntmps9; go_wp2; go_ret; exact ⟨rfl, by (repeat (first | with_reducible assumption | with_reducible exact Below.refl _ _ | ((with_reducible refine Below.setCell ?_ ?_ _); rotate_left; (first | exact Nat.le_refl _ | (dsimp only; omega) | (simp; done) | (simp; omega))) | with_reducible refine below_alloc ?_ _ | with_reducible apply below_drewN | with_reducible apply Below.drew | with_reducible refine below_step ?_ (by assumption)))⟩
  · go_enter Try.func9, Try.ntmps9; go_wp2; go_ret; exact ⟨rfl, by (repeat (first | with_reducible assumption | with_reducible exact Below.refl _ _ | ((with_reducible refine Below.setCell ?_ ?_ _); rotate_left; (first | exact Nat.le_refl _ | (dsimp only; omega) | (simp; done) | (simp; omega))) | with_reducible refine below_alloc ?_ _ | with_reducible apply below_drewN | with_reducible apply Below.drew | with_reducible refine below_step ?_ (by assumption)))⟩
  · go_enter Try.func9, Try.ntmps9; go_wp2; go_ret; exact ⟨rfl, by (repeat (first | with_reducible assumption | with_reducible exact Below.refl _ _ | ((with_reducible refine Below.setCell ?_ ?_ _); rotate_left; (first | exact Nat.le_refl _ | (dsimp only; omega) | (simp; done) | (simp; omega))) | with_reducible refine below_alloc ?_ _ | with_reducible apply below_drewN | with_reducible apply Below.drew | with_reducible refine below_step ?_ (by assumption)))⟩
  · go_enter Try.func9, Try.ntmps9; go_wp2; go_ret; exact ⟨rfl, by (repeat (first | with_reducible assumption | with_reducible exact Below.refl _ _ | ((with_reducible refine Below.setCell ?_ ?_ _); rotate_left; (first | exact Nat.le_refl _ | (dsimp only; omega) | (simp; done) | (simp; omega))) | with_reducible refine below_alloc ?_ _ | with_reducible apply below_drewN | with_reducible apply Below.drew | with_reducible refine below_step ?_ (by assumption)))⟩
  · go_enter Try.func9, Try.ntmps9; go_wp2; go_ret; exact ⟨rfl, by (repeat (first | with_reducible assumption | with_reducible exact Below.refl _ _ | ((with_reducible refine Below.setCell ?_ ?_ _); rotate_left; (first | exact Nat.le_refl _ | (dsimp only; omega) | (simp; done) | (simp; omega))) | with_reducible refine below_alloc ?_ _ | with_reducible apply below_drewN | with_reducible apply Below.drew | with_reducible refine below_step ?_ (by assumption)))⟩
  · go_enter Try.func9, Try.ntmps9; go_wp2; go_ret; exact ⟨rfl, by (repeat (first | with_reducible assumption | with_reducible exact Below.refl _ _ | ((with_reducible refine Below.setCell ?_ ?_ _); rotate_left; (first | exact Nat.le_refl _ | (dsimp only; omega) | (simp; done) | (simp; omega))) | with_reducible refine below_alloc ?_ _ | with_reducible apply below_drewN | with_reducible apply Below.drew | with_reducible refine below_step ?_ (by assumption)))⟩
  · have HE : Hid (wrd k = []) := Lib.hid (by unfold wrd; simp only [show ¬ k = 1 by omega, show ¬ k = 2 by omega, show ¬ k = 3 by omega, show ¬ k = 4 by omega, show ¬ k = 5 by omega, show ¬ k = 6 by omega, if_false])
    have e1 : (k == 1) = false := by simp; omega
    have e2 : (k == 2) = false := by simp; omega
    have e3 : (k == 3) = false := by simp; omega
    have e4 : (k == 4) = false := by simp; omega
    have e5 : (k == 5) = false := by simp; omega
    have e6 : (k == 6) = false := by simp; omega
    go_enter Try.func9, Try.ntmps9; go_wp2; go_ret; exact ⟨by rw [HE.out] <;> rfl, by (repeat (first | with_reducible assumption | with_reducible exact Below.refl _ _ | ((with_reducible refine Below.setCell ?_ ?_ _); rotate_left; (first | exact Nat.le_refl _ | (dsimp only; omega) | (simp; done) | (simp; omega))) | with_reducible refine below_alloc ?_ _ | with_reducible apply below_drewN | with_reducible apply Below.drew | with_reducible refine below_step ?_ (by assumption)))⟩
  · have HE : Hid (wrd k = []) := Lib.hid (by unfold wrd; simp only [show ¬ k = 1 by omega, show ¬ k = 2 by omega, show ¬ k = 3 by omega, show ¬ k = 4 by omega, show ¬ k = 5 by omega, show ¬ k = 6 by omega, if_false])
    have e1 : (k == 1) = false := by simp; omega
    have e2 : (k == 2) = false := by simp; omega
    have e3 : (k == 3) = false := by simp; omega
    have e4 : (k == 4) = false := by simp; omega
    have e5 : (k == 5) = false := by simp; omega
    have e6 : (k == 6) = false := by simp; omega
    go_enter Try.func9, Try.ntmps9; go_wp2; go_ret; exact ⟨by rw [HE.out] <;> rfl, by (repeat (first | with_reducible assumption | with_reducible exact Below.refl _ _ | ((with_reducible refine Below.setCell ?_ ?_ _); rotate_left; (first | exact Nat.le_refl _ | (dsimp only; omega) | (simp; done) | (simp; omega))) | with_reducible refine below_alloc ?_ _ | with_reducible apply below_drewN | with_reducible apply Below.drew | with_reducible refine below_step ?_ (by assumption)))⟩
set_option maxHeartbeats 4000000 in
theorem rWord (k : Int) (w : World) (k0 : -9223372036854775808 ≤ k) (k1 : k ≤ 9223372036854775807) : Calls Try.prog 10 #[.int .i64 k] w fun e w' => e = .returned (.string (bs (wrd k))) ∧ Below w.heap.size w w' := by
  rcases (show k = 1 ∨ k = 2 ∨ k = 3 ∨ k = 4 ∨ k = 5 ∨ k = 6 ∨ k < 1 ∨ 6 < k by omega) with rfl | rfl | rfl | rfl | rfl | rfl | h | h
  all_goals first | clear k0 k1 | skip
  · go_enter Try.func10, Try.ntmps10; go_wp2; go_ret; exact ⟨rfl, by (repeat (first | with_reducible assumption | with_reducible exact Below.refl _ _ | ((with_reducible refine Below.setCell ?_ ?_ _); rotate_left; (first | exact Nat.le_refl _ | (dsimp only; omega) | (simp; done) | (simp; omega))) | with_reducible refine below_alloc ?_ _ | with_reducible apply below_drewN | with_reducible apply Below.drew | with_reducible refine below_step ?_ (by assumption)))⟩
  · go_enter Try.func10, Try.ntmps10; go_wp2; go_ret; exact ⟨rfl, by (repeat (first | with_reducible assumption | with_reducible exact Below.refl _ _ | ((with_reducible refine Below.setCell ?_ ?_ _); rotate_left; (first | exact Nat.le_refl _ | (dsimp only; omega) | (simp; done) | (simp; omega))) | with_reducible refine below_alloc ?_ _ | with_reducible apply below_drewN | with_reducible apply Below.drew | with_reducible refine below_step ?_ (by assumption)))⟩
  · go_enter Try.func10, Try.ntmps10; go_wp2; go_ret; exact ⟨rfl, by (repeat (first | with_reducible assumption | with_reducible exact Below.refl _ _ | ((with_reducible refine Below.setCell ?_ ?_ _); rotate_left; (first | exact Nat.le_refl _ | (dsimp only; omega) | (simp; done) | (simp; omega))) | with_reducible refine below_alloc ?_ _ | with_reducible apply below_drewN | with_reducible apply Below.drew | with_reducible refine below_step ?_ (by assumption)))⟩
  · go_enter Try.func10, Try.ntmps10; go_wp2; go_ret; exact ⟨rfl, by (repeat (first | with_reducible assumption | with_reducible exact Below.refl _ _ | ((with_reducible refine Below.setCell ?_ ?_ _); rotate_left; (first | exact Nat.le_refl _ | (dsimp only; omega) | (simp; done) | (simp; omega))) | with_reducible refine below_alloc ?_ _ | with_reducible apply below_drewN | with_reducible apply Below.drew | with_reducible refine below_step ?_ (by assumption)))⟩
  · go_enter Try.func10, Try.ntmps10; go_wp2; go_ret; exact ⟨rfl, by (repeat (first | with_reducible assumption | with_reducible exact Below.refl _ _ | ((with_reducible refine Below.setCell ?_ ?_ _); rotate_left; (first | exact Nat.le_refl _ | (dsimp only; omega) | (simp; done) | (simp; omega))) | with_reducible refine below_alloc ?_ _ | with_reducible apply below_drewN | with_reducible apply Below.drew | with_reducible refine below_step ?_ (by assumption)))⟩
  · go_enter Try.func10, Try.ntmps10; go_wp2; go_ret; exact ⟨rfl, by (repeat (first | with_reducible assumption | with_reducible exact Below.refl _ _ | ((with_reducible refine Below.setCell ?_ ?_ _); rotate_left; (first | exact Nat.le_refl _ | (dsimp only; omega) | (simp; done) | (simp; omega))) | with_reducible refine below_alloc ?_ _ | with_reducible apply below_drewN | with_reducible apply Below.drew | with_reducible refine below_step ?_ (by assumption)))⟩
  · have HE : Hid (wrd k = []) := Lib.hid (by unfold wrd; simp only [show ¬ k = 1 by omega, show ¬ k = 2 by omega, show ¬ k = 3 by omega, show ¬ k = 4 by omega, show ¬ k = 5 by omega, show ¬ k = 6 by omega, if_false])
    have e1 : (k == 1) = false := by simp; omega
    have e2 : (k == 2) = false := by simp; omega
    have e3 : (k == 3) = false := by simp; omega
    have e4 : (k == 4) = false := by simp; omega
    have e5 : (k == 5) = false := by simp; omega
    have e6 : (k == 6) = false := by simp; omega
    go_enter Try.func10, Try.ntmps10; go_wp2; go_ret; exact ⟨by rw [HE.out] <;> rfl, by (repeat (first | with_reducible assumption | with_reducible exact Below.refl _ _ | ((with_reducible refine Below.setCell ?_ ?_ _); rotate_left; (first | exact Nat.le_refl _ | (dsimp only; omega) | (simp; done) | (simp; omega))) | with_reducible refine below_alloc ?_ _ | with_reducible apply below_drewN | with_reducible apply Below.drew | with_reducible refine below_step ?_ (by assumption)))⟩
  · have HE : Hid (wrd k = []) := Lib.hid (by unfold wrd; simp only [show ¬ k = 1 by omega, show ¬ k = 2 by omega, show ¬ k = 3 by omega, show ¬ k = 4 by omega, show ¬ k = 5 by omega, show ¬ k = 6 by omega, if_false])
    have e1 : (k == 1) = false := by simp; omega
    have e2 : (k == 2) = false := by simp; omega
    have e3 : (k == 3) = false := by simp; omega
    have e4 : (k == 4) = false := by simp; omega
    have e5 : (k == 5) = false := by simp; omega
    have e6 : (k == 6) = false := by simp; omega
    go_enter Try.func10, Try.ntmps10; go_wp2; go_ret; exact ⟨by rw [HE.out] <;> rfl, by (repeat (first | with_reducible assumption | with_reducible exact Below.refl _ _ | ((with_reducible refine Below.setCell ?_ ?_ _); rotate_left; (first | exact Nat.le_refl _ | (dsimp only; omega) | (simp; done) | (simp; omega))) | with_reducible refine below_alloc ?_ _ | with_reducible apply below_drewN | with_reducible apply Below.drew | with_reducible refine below_step ?_ (by assumption)))⟩
end Go.Proofs.Ytdanogeiodkcbaa
