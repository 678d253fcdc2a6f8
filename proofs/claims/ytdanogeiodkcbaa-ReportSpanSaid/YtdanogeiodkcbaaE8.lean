/- The walk of ReportSpan. -/
import Derived.Test.YtdanogeiodkcbaaE6
import Derived.BigQuiet
import Derived.Deep.QuietTactic
set_option linter.unusedSimpArgs false
set_option linter.unusedVariables false
namespace Go.Proofs.Ytdanogeiodkcbaa
open Go.RowKit
theorem vl_take_le (l : List UInt8) : ∀ k, vl (l.take k) ≤ vl l := by
  have key : ∀ (a b : List UInt8), vl a ≤ vl (a ++ b) := by
    intro a b
    induction b generalizing a with
    | nil => simp
    | cons c b ih =>
      have h := ih (a ++ [c])
      rw [vl_snoc, List.append_assoc] at h
      simp only [List.cons_append, List.nil_append] at h
      omega
  intro k
  have := key (l.take k) (l.drop k)
  rwa [List.take_append_drop] at this
/-- What a time's text holds: its minutes' digits (so many), two signs, seconds, thousandths. -/
structure Txt (T : ByteArray) (N q : Nat) : Prop where
  size : T.size = q + 7
  q1 : 1 ≤ q
  q20 : q ≤ 20
  dig : ∀ k, (h : k < T.size) → k < q → 48 ≤ (T[k]'h).toNat ∧ (T[k]'h).toNat ≤ 57
  col : ∀ (h : q < T.size), (T[q]'h).toNat = 58
  s1 : ∀ (h : q + 1 < T.size), (T[q + 1]'h).toNat = 48 + N / 1000 % 60 / 10
  s2 : ∀ (h : q + 2 < T.size), (T[q + 2]'h).toNat = 48 + N / 1000 % 60 % 10
  dot : ∀ (h : q + 3 < T.size), (T[q + 3]'h).toNat = 46
  t1 : ∀ (h : q + 4 < T.size), (T[q + 4]'h).toNat = 48 + N % 1000 / 100
  t2 : ∀ (h : q + 5 < T.size), (T[q + 5]'h).toNat = 48 + N % 1000 / 10 % 10
  t3 : ∀ (h : q + 6 < T.size), (T[q + 6]'h).toNat = 48 + N % 1000 % 10
  num : ∃ f : Nat → Nat, f 0 = 0 ∧ f q = N / 60000 ∧ (∀ k, f k ≤ N / 60000) ∧ ∀ k, (h : k < T.size) → k < q → f (k + 1) = 10 * f k + ((T[k]'h).toNat - 48)
theorem Txt.at {T : ByteArray} {N q : Nat} (X : Txt T N q) (k : Nat) (h : k < T.size) :
    (48 ≤ (T[k]'h).toNat ∧ (T[k]'h).toNat ≤ 57) ∨ ((T[k]'h).toNat = 58 ∧ k + 7 = T.size) ∨ ((T[k]'h).toNat = 46 ∧ k + 4 = T.size) := by
  have hz := X.size
  rcases (show k < q ∨ k = q ∨ k = q + 1 ∨ k = q + 2 ∨ k = q + 3 ∨ k = q + 4 ∨ k = q + 5 ∨ k = q + 6 by omega) with h1 | rfl | rfl | rfl | rfl | rfl | rfl | rfl
  · exact Or.inl (X.dig k h h1)
  · exact Or.inr (Or.inl ⟨X.col h, by omega⟩)
  · have := X.s1 h; exact Or.inl (by omega)
  · have := X.s2 h; exact Or.inl (by omega)
  · exact Or.inr (Or.inr ⟨X.dot h, by omega⟩)
  · have := X.t1 h; exact Or.inl (by omega)
  · have := X.t2 h; exact Or.inl (by omega)
  · have := X.t3 h; exact Or.inl (by omega)
theorem bs_get (l : List UInt8) (k : Nat) (h : k < (bs l).size) : (bs l)[k] = l[k]'(by rw [bs_size] at h; exact h) := rfl
theorem clk_get (N k : Nat) (h : k < (clk N).length) (h2 : k < (dg (N / 60000)).length) : (clk N)[k] = (dg (N / 60000))[k] := by
  simp only [clk_shape]; rw [List.getElem_append_left h2]
theorem clk_get2 (N j : Nat) (h : (dg (N / 60000)).length + j < (clk N).length) : (clk N)[(dg (N / 60000)).length + j] =
    ([58, UInt8.ofNat (48 + N / 1000 % 60 / 10), UInt8.ofNat (48 + N / 1000 % 60 % 10), 46, UInt8.ofNat (48 + N % 1000 / 100), UInt8.ofNat (48 + N % 1000 / 10 % 10), UInt8.ofNat (48 + N % 1000 % 10)] : List UInt8)[j]'(by rw [clk_len] at h; simp; omega) := by
  have e : clk N = dg (N / 60000) ++ [58, UInt8.ofNat (48 + N / 1000 % 60 / 10), UInt8.ofNat (48 + N / 1000 % 60 % 10), 46, UInt8.ofNat (48 + N % 1000 / 100), UInt8.ofNat (48 + N % 1000 / 10 % 10), UInt8.ofNat (48 + N % 1000 % 10)] := by
    rw [clk_shape, pd_two _ (by omega), pd_three _ (by omega)]; rfl
  simp only [e]
  rw [List.getElem_append_right (by omega)]
  congr 1; omega
theorem txt_of (N : Nat) (hN : N < 10 ^ 18) : Txt (bs (clk N)) N (dg (N / 60000)).length := by
  have hd := dg_digit (N / 60000) (by omega)
  have hv := vl_dg (N / 60000) (by omega)
  have g2 := clk_get2 N
  refine ⟨by rw [bs_size, clk_len], dg_len1 _, dg_len _, ?_, ?_, ?_, ?_, ?_, ?_, ?_, ?_, ?_⟩
  · intro k h hk
    rw [bs_get, clk_get N k _ hk]
    exact hd _ (List.getElem_mem _)
  · intro h; rw [bs_get]; have := g2 0 (by rw [clk_len]; omega); simp only [Nat.add_zero] at this; rw [this]; rfl
  · intro h; rw [bs_get, g2 1 (by rw [clk_len]; omega)]; exact ch_nat _ (by omega)
  · intro h; rw [bs_get, g2 2 (by rw [clk_len]; omega)]; exact ch_nat _ (by omega)
  · intro h; rw [bs_get, g2 3 (by rw [clk_len]; omega)]; rfl
  · intro h; rw [bs_get, g2 4 (by rw [clk_len]; omega)]; exact ch_nat _ (by omega)
  · intro h; rw [bs_get, g2 5 (by rw [clk_len]; omega)]; exact ch_nat _ (by omega)
  · intro h; rw [bs_get, g2 6 (by rw [clk_len]; omega)]; exact ch_nat _ (by omega)
  · refine ⟨fun k => vl ((dg (N / 60000)).take k), rfl, by simp only [List.take_length]; exact hv, fun k => by show vl ((dg (N / 60000)).take k) ≤ _; have := vl_take_le (dg (N / 60000)) k; omega, ?_⟩
    intro k h hk
    rw [bs_get, clk_get N k _ hk]
    show vl ((dg (N / 60000)).take (k + 1)) = _
    rw [List.take_succ_eq_append_getElem hk, vl_snoc]
set_option maxHeartbeats 8000000 in
set_option maxRecDepth 100000 in
theorem walk_ReportSpan (ticks r : Int) (w : World) (ticks_0 : -9223372036854775808 ≤ ticks) (ticks_1 : ticks ≤ 9223372036854775807) (r_0 : -9223372036854775808 ≤ r) (r_1 : r ≤ 9223372036854775807) : Calls Try.prog 4 #[.int .i64 ticks, .int .i64 r] w fun e w' => e = .returned (.bool true) ∧ Below w.heap.size w w' := by
  have k0 := fun W => cAwake40 W
  rcases (show ticks < 0 ∨ (0 ≤ ticks ∧ 1073741824 < ticks) ∨ (0 ≤ ticks ∧ ticks ≤ 1073741824 ∧ r < 1) ∨ (0 ≤ ticks ∧ ticks ≤ 1073741824 ∧ 1 ≤ r ∧ 1024 < r) ∨ (0 ≤ ticks ∧ ticks ≤ 1073741824 ∧ 1 ≤ r ∧ r ≤ 1024) by omega) with h1 | ⟨h1, h2⟩ | ⟨h1, h2, h3⟩ | ⟨h1, h2, h3, h4⟩ | ⟨h1, h2, h3, h4⟩
  · go_enter Try.func4, Try.ntmps4; go_wp2_with ((go_at_call 6; (with_reducible refine (k0 _).mono ?_); rintro e w1 ⟨rfl, hM⟩)); go_ret; exact ⟨rfl, by (repeat (first | with_reducible assumption | with_reducible exact Below.refl _ _ | ((with_reducible refine Below.setCell ?_ ?_ _); rotate_left; (first | exact Nat.le_refl _ | (dsimp only; omega) | (simp; done) | (simp; omega))) | with_reducible refine below_alloc ?_ _ | with_reducible apply below_drewN | with_reducible apply Below.drew | with_reducible refine below_step ?_ (by assumption)))⟩
  · go_enter Try.func4, Try.ntmps4; go_wp2_with ((go_at_call 6; (with_reducible refine (k0 _).mono ?_); rintro e w1 ⟨rfl, hM⟩)); go_ret; exact ⟨rfl, by (repeat (first | with_reducible assumption | with_reducible exact Below.refl _ _ | ((with_reducible refine Below.setCell ?_ ?_ _); rotate_left; (first | exact Nat.le_refl _ | (dsimp only; omega) | (simp; done) | (simp; omega))) | with_reducible refine below_alloc ?_ _ | with_reducible apply below_drewN | with_reducible apply Below.drew | with_reducible refine below_step ?_ (by assumption)))⟩
  · go_enter Try.func4, Try.ntmps4; go_wp2_with ((go_at_call 6; (with_reducible refine (k0 _).mono ?_); rintro e w1 ⟨rfl, hM⟩)); go_ret; exact ⟨rfl, by (repeat (first | with_reducible assumption | with_reducible exact Below.refl _ _ | ((with_reducible refine Below.setCell ?_ ?_ _); rotate_left; (first | exact Nat.le_refl _ | (dsimp only; omega) | (simp; done) | (simp; omega))) | with_reducible refine below_alloc ?_ _ | with_reducible apply below_drewN | with_reducible apply Below.drew | with_reducible refine below_step ?_ (by assumption)))⟩
  · go_enter Try.func4, Try.ntmps4; go_wp2_with ((go_at_call 6; (with_reducible refine (k0 _).mono ?_); rintro e w1 ⟨rfl, hM⟩)); go_ret; exact ⟨rfl, by (repeat (first | with_reducible assumption | with_reducible exact Below.refl _ _ | ((with_reducible refine Below.setCell ?_ ?_ _); rotate_left; (first | exact Nat.le_refl _ | (dsimp only; omega) | (simp; done) | (simp; omega))) | with_reducible refine below_alloc ?_ _ | with_reducible apply below_drewN | with_reducible apply Below.drew | with_reducible refine below_step ?_ (by assumption)))⟩
  · have k1 := fun W => cClockY (ticks * 4294967296) r W (by omega) (by omega) h3 h4
    have e : ths (ticks * 4294967296) r = ticks * 1000 / r := by
      unfold ths
      rw [show ticks * 4294967296 * 1000 = ticks * 1000 * 4294967296 by omega]
      exact Int.mul_ediv_mul_of_pos_left _ _ (by decide)
    obtain ⟨N, hN⟩ : ∃ N : Nat, ticks * 1000 / r = (N : Int) := ⟨(ticks * 1000 / r).toNat, by have := Int.ediv_nonneg (show 0 ≤ ticks * 1000 by omega) (show 0 ≤ r by omega); omega⟩
    have hNb : (N : Int) ≤ 1073741824000 := by
      have := Int.ediv_le_self r (show 0 ≤ ticks * 1000 by omega)
      omega
    rw [e, hN] at k1
    rw [show ((N : Int)).toNat = N from rfl] at k1
    have X := txt_of N (by omega)
    generalize (dg (N / 60000)).length = q at *
    generalize bs (clk N) = T at *
    have HQ := Lib.hid hN
    clear hN e
    obtain ⟨f, f0, fq, fb, fs⟩ := X.num
    have HF := Lib.hid (And.intro f0 (And.intro fq fs))
    have HX := Lib.hid X
    have hz := X.size
    have q1 := X.q1
    have q20 := X.q20
    have hz1 : 8 ≤ T.size := by omega
    have hz2 : T.size ≤ 27 := by omega
    have HZ := Lib.hid hz
    clear X hz f0 fq fs
    go_enter Try.func4, Try.ntmps4
    go_wp2_with (fail)
    (go_at_call 7; (with_reducible refine (k1 _).mono ?_); rintro e w1 ⟨rfl, hM⟩)
    have HM := hM
    clear hM k1
    go_wp2_with (fail)
    go_loopw [6] (fun i wr => ∃ k : Nat, i = .int .i64 k ∧ k ≤ q + 7 ∧ Below w.heap.size w wr) (fun i _ => 40 - (RowKit.intOf i).toNat)
    case atStart => exact ⟨0, rfl, by omega, by (repeat (first | with_reducible assumption | with_reducible exact Below.refl _ _ | ((with_reducible refine Below.setCell ?_ ?_ _); rotate_left; (first | exact Nat.le_refl _ | (dsimp only; omega) | (simp; done) | (simp; omega))) | with_reducible refine below_alloc ?_ _ | with_reducible apply below_drewN | with_reducible apply Below.drew | with_reducible refine below_step ?_ (by assumption)))⟩
    case round =>
      obtain ⟨k, rfl, hk, HB⟩ := hrel
      by_cases hlt : k < T.size
      · rcases HX.out.at k hlt with ⟨c1, c2⟩ | ⟨c1, c2⟩ | ⟨c1, c2⟩
        · have d1 : (48 : Int) ≤ ((T[k].toNat : Nat) : Int) := by omega
          have d2 : ((T[k].toNat : Nat) : Int) ≤ 57 := by omega
          clear c1 c2
          go_wp2
          exact ⟨⟨k + 1, by go_num, by have := HZ.out; omega, HB⟩, by simp [RowKit.intOf]; omega⟩
        · have d1 : ((T[k].toNat : Nat) : Int) = 58 := by omega
          have d2 : ((k : Int) != (T.size : Int) - 7) = false := by simp; omega
          clear c1 c2
          go_wp2
          exact ⟨⟨k + 1, by go_num, by have := HZ.out; omega, HB⟩, by simp [RowKit.intOf]; omega⟩
        · have d1 : ((T[k].toNat : Nat) : Int) = 46 := by omega
          have d2 : ((k : Int) != (T.size : Int) - 4) = false := by simp; omega
          clear c1 c2
          go_wp2
          exact ⟨⟨k + 1, by go_num, by have := HZ.out; omega, HB⟩, by simp [RowKit.intOf]; omega⟩
      · have hk7 : k = T.size := by have := HZ.out; omega
        clear hk
        go_wp2_with (fail)
        go_loopw [8, 9] (fun m i wq => ∃ k : Nat, i = .int .i64 k ∧ m = .int .i64 (f k) ∧ k ≤ q ∧ Below w.heap.size w wq) (fun _ i _ => 40 - (RowKit.intOf i).toNat)
        case atStart => exact ⟨0, rfl, by rw [HF.out.1]; rfl, by omega, HB⟩
        case round =>
          obtain ⟨j, rfl, rfl, hj, HB2⟩ := hrel
          have fb1 := fb j
          have fb2 : ((f j : Nat) : Int) ≤ 17895697 := by omega
          clear fb1
          by_cases hjq : j < q
          · have hjs : j < T.size := by have := HZ.out; omega
            have hj7 : (j : Int) < (T.size : Int) - 7 := by have := HZ.out; omega
            obtain ⟨c1, c2⟩ := HX.out.dig j hjs hjq
            have d1 : (48 : Int) ≤ ((T[j].toNat : Nat) : Int) := by omega
            have d2 : ((T[j].toNat : Nat) : Int) ≤ 57 := by omega
            have HS : Hid (((f (j + 1) : Nat) : Int) = 10 * ((f j : Nat) : Int) + (((T[j].toNat : Nat) : Int) - 48)) := Lib.hid (by have := HF.out.2.2 j hjs hjq; omega)
            clear c1 c2
            go_wp2
            exact ⟨⟨j + 1, by go_num, by rw [HS.out], by omega, HB2⟩, by simp [RowKit.intOf]; omega⟩
          · obtain rfl : j = q := by omega
            have hj7 : ¬ (j : Int) < (T.size : Int) - 7 := by have := HZ.out; omega
            have z8 : (8 : Int) ≤ (T.size : Int) := by omega
            have z27 : (T.size : Int) ≤ 27 := by omega
            have w6 : IntKind.i64.wrap ((T.size : Int) - 6) = (T.size : Int) - 6 := by have := IntWalk.i64_in ((T.size : Int) - 6) ⟨by omega, by omega⟩; exact this
            have n6 : ((T.size : Int) - 6).toNat = j + 1 := by have := HZ.out; omega
            have g6 : (6 : Int) ≤ (T.size : Int) := by omega
            have l6 : j + 1 < T.size := by have := HZ.out; omega
            have w5 : IntKind.i64.wrap ((T.size : Int) - 5) = (T.size : Int) - 5 := by have := IntWalk.i64_in ((T.size : Int) - 5) ⟨by omega, by omega⟩; exact this
            have n5 : ((T.size : Int) - 5).toNat = j + 2 := by have := HZ.out; omega
            have g5 : (5 : Int) ≤ (T.size : Int) := by omega
            have l5 : j + 2 < T.size := by have := HZ.out; omega
            have w3 : IntKind.i64.wrap ((T.size : Int) - 3) = (T.size : Int) - 3 := by have := IntWalk.i64_in ((T.size : Int) - 3) ⟨by omega, by omega⟩; exact this
            have n3 : ((T.size : Int) - 3).toNat = j + 4 := by have := HZ.out; omega
            have g3 : (3 : Int) ≤ (T.size : Int) := by omega
            have l3 : j + 4 < T.size := by have := HZ.out; omega
            have w2 : IntKind.i64.wrap ((T.size : Int) - 2) = (T.size : Int) - 2 := by have := IntWalk.i64_in ((T.size : Int) - 2) ⟨by omega, by omega⟩; exact this
            have n2 : ((T.size : Int) - 2).toNat = j + 5 := by have := HZ.out; omega
            have g2 : (2 : Int) ≤ (T.size : Int) := by omega
            have l2 : j + 5 < T.size := by have := HZ.out; omega
            have w1 : IntKind.i64.wrap ((T.size : Int) - 1) = (T.size : Int) - 1 := by have := IntWalk.i64_in ((T.size : Int) - 1) ⟨by omega, by omega⟩; exact this
            have n1 : ((T.size : Int) - 1).toNat = j + 6 := by have := HZ.out; omega
            have g1 : (1 : Int) ≤ (T.size : Int) := by omega
            have l1 : j + 6 < T.size := by have := HZ.out; omega
            obtain ⟨a1, ha1⟩ : ∃ a, N / 1000 % 60 / 10 = a := ⟨_, rfl⟩
            obtain ⟨a2, ha2⟩ : ∃ a, N / 1000 % 60 % 10 = a := ⟨_, rfl⟩
            obtain ⟨b1, hb1⟩ : ∃ a, N % 1000 / 100 = a := ⟨_, rfl⟩
            obtain ⟨b2, hb2⟩ : ∃ a, N % 1000 / 10 % 10 = a := ⟨_, rfl⟩
            obtain ⟨b3, hb3⟩ : ∃ a, N % 1000 % 10 = a := ⟨_, rfl⟩
            have e1 : ((T[j + 1].toNat : Nat) : Int) = 48 + (a1 : Int) := by have := HX.out.s1 l6; omega
            have e2 : ((T[j + 2].toNat : Nat) : Int) = 48 + (a2 : Int) := by have := HX.out.s2 l5; omega
            have e3 : ((T[j + 4].toNat : Nat) : Int) = 48 + (b1 : Int) := by have := HX.out.t1 l3; omega
            have e4 : ((T[j + 5].toNat : Nat) : Int) = 48 + (b2 : Int) := by have := HX.out.t2 l2; omega
            have e5 : ((T[j + 6].toNat : Nat) : Int) = 48 + (b3 : Int) := by have := HX.out.t3 l1; omega
            have u : ∀ a : Nat, a ≤ 9 → IntKind.u8.wrap (48 + (a : Int) - 48) = (a : Int) := by
              intro a ha; rw [show 48 + (a : Int) - 48 = (a : Int) by omega, IntKind.wrap_u8]; omega
            have u1 := u a1 (by omega)
            have u2 := u a2 (by omega)
            have u3 := u b1 (by omega)
            have u4 := u b2 (by omega)
            have u5 := u b3 (by omega)
            clear u
            have HA := Lib.hid (And.intro (And.intro ha1 ha2) (And.intro hb1 (And.intro hb2 hb3)))
            have c1 : a1 ≤ 9 := by omega
            have c2 : a2 ≤ 9 := by omega
            have c3 : b1 ≤ 9 := by omega
            have c4 : b2 ≤ 9 := by omega
            have c5 : b3 ≤ 9 := by omega
            clear ha1 ha2 hb1 hb2 hb3
            go_upto_region 17 with (fail)
            go_quiet (fail)
            go_upto_region 18 with (fail)
            go_quiet (fail)
            clear w6 n6 g6 l6 w5 n5 g5 l5 w3 n3 g3 l3 w2 n2 g2 l2 w1 n1 g1 l1 e1 e2 e3 e4 e5 u1 u2 u3 u4 u5
            have EQ : ticks * 1000 / r = (((f j : Nat) : Int) * 60 + (10 * (a1 : Int) + (a2 : Int))) * 1000 + (100 * (b1 : Int) + 10 * (b2 : Int) + (b3 : Int)) := by
              have h1 := HQ.out; have h2 := HF.out.2.1; have h3 := HA.out; omega
            have lt60 : 10 * (a1 : Int) + (a2 : Int) < 60 := by have h3 := HA.out; omega
            have f0 : (0 : Int) ≤ ((f j : Nat) : Int) := by omega
            go_wp2_with ((go_at_call 6; (with_reducible refine (k0 _).mono ?_); rintro e w1 ⟨rfl, hM⟩))
            go_ret
            exact ⟨rfl, by (repeat (first | with_reducible assumption | with_reducible exact Below.refl _ _ | ((with_reducible refine Below.setCell ?_ ?_ _); rotate_left; (first | exact Nat.le_refl _ | (dsimp only; omega) | (simp; done) | (simp; omega))) | with_reducible refine below_alloc ?_ _ | with_reducible apply below_drewN | with_reducible apply Below.drew | with_reducible refine below_step ?_ (by assumption)))⟩
end Go.Proofs.Ytdanogeiodkcbaa
