/- The contracts of the document's quotients (chapter 2): over, Div, Ratio. -/
import Derived.Test.YtjpkkpflamkjkaaR2
set_option linter.unusedSimpArgs false
set_option linter.unusedVariables false
namespace Go.Proofs.Ytjpkkpflamkjkaa
open Go.RowKit
theorem half_step (X : Int) (n : Nat) : X / 2 ^ n = 2 * (X / 2 ^ (n + 1)) + X / 2 ^ n % 2 := by
  have h : X / 2 ^ (n + 1) = X / 2 ^ n / 2 := by rw [Int.pow_succ, Int.ediv_ediv_of_nonneg (Int.le_of_lt (Int.pow_pos (by decide)))]
  rw [h]; omega
theorem div_up (P b y q r : Int) (hq : q = P / y) (hr : r = P % y) (hy : 0 < y) (h0 : 0 ≤ b) (h1 : b ≤ 1) (h : y ≤ 2 * r + b) : 2 * q + 1 = (2 * P + b) / y ∧ 2 * r + b - y = (2 * P + b) % y := by
  have e := Int.mul_ediv_add_emod P y
  have rl := Int.emod_lt_of_pos P hy
  have k := (Int.ediv_emod_unique (a := 2 * P + b) (b := y) (q := 2 * q + 1) (r := 2 * r + b - y) hy).mpr ⟨by rw [← e, ← hq, ← hr]; rw [Int.mul_add, Int.mul_add, Int.mul_left_comm]; omega, by omega, by omega⟩
  exact ⟨k.1.symm, k.2.symm⟩
theorem div_dn (P b y q r : Int) (hq : q = P / y) (hr : r = P % y) (hy : 0 < y) (h0 : 0 ≤ b) (h1 : b ≤ 1) (h : 2 * r + b < y) : 2 * q = (2 * P + b) / y ∧ 2 * r + b = (2 * P + b) % y := by
  have e := Int.mul_ediv_add_emod P y
  have r0 := Int.emod_nonneg P (Int.ne_of_gt hy)
  have k := (Int.ediv_emod_unique (a := 2 * P + b) (b := y) (q := 2 * q) (r := 2 * r + b) hy).mpr ⟨by rw [← e, ← hq, ← hr]; rw [Int.mul_add, Int.mul_left_comm]; omega, by omega, by omega⟩
  exact ⟨k.1.symm, k.2.symm⟩
theorem ov_big (X y P q : Int) (n : Nat) (hP : P = X / 2 ^ (n + 1)) (hq : q = P / y) (hy : 0 < y) (h : 9223372036854775808 ≤ q) : 18446744073709551616 ≤ X / y := by
  rw [hP] at hq
  rw [hq] at h
  have h2 := (Int.le_ediv_iff_mul_le hy).mp h
  have h3 := (Int.le_ediv_iff_mul_le (Int.pow_pos (n := 2) (m := n + 1) (show (0 : Int) < 2 by decide))).mp h2
  have h4 : (1 : Int) ≤ 2 ^ n := Int.pow_pos (show (0 : Int) < 2 by decide)
  refine (Int.le_ediv_iff_mul_le hy).mpr (Int.le_trans ?_ h3)
  rw [Int.pow_succ]
  obtain ⟨Z, hZ⟩ : ∃ Z, Z = 9223372036854775808 * y := ⟨_, rfl⟩
  rw [← hZ]
  have h5 := Int.mul_le_mul_of_nonneg_left h4 (show 0 ≤ Z by omega)
  rw [show Z * (2 ^ n * 2) = 2 * (Z * 2 ^ n) by rw [← Int.mul_assoc, Int.mul_comm]]
  omega
theorem rOver (x y : Int) (w : World) (x0 : 0 ≤ x) (x1 : x ≤ 9223372036854775808) (y0 : 1 ≤ y) (y1 : y ≤ 9223372036854775808) :
    Calls Try.prog 77 #[.int .u64 x, .int .u64 y] w fun e w' => e = .returned (.tuple #[.int .u64 (if qn (x * 4294967296) y ≤ 18446744073709551615 then qn (x * 4294967296) y else 0), .bool (decide (qn (x * 4294967296) y ≤ 18446744073709551615))]) ∧ w = w' := by
  obtain ⟨X, hX⟩ : ∃ X, X = x * 4294967296 := ⟨_, rfl⟩
  obtain ⟨R, hR⟩ : ∃ R, R = (if qn (x * 4294967296) y ≤ 18446744073709551615 then qn (x * 4294967296) y else 0) := ⟨_, rfl⟩
  obtain ⟨O, hO⟩ : ∃ O, O = decide (qn (x * 4294967296) y ≤ 18446744073709551615) := ⟨_, rfl⟩
  rw [← hR, ← hO]
  have HR := Lib.hid hR; have HO := Lib.hid hO; have HX := Lib.hid hX
  clear hR hO hX
  go_enter Try.func77, Try.ntmps77
  go_wp2_with (fail)
  go_loopw [6, 7, 8] (fun a b c wx => ∃ q r i : Int, a = .int .u64 q ∧ b = .int .u64 r ∧ c = .int .i64 i ∧ wx = w ∧ -1 ≤ i ∧ i ≤ 95 ∧ 0 ≤ q ∧ q ≤ 18446744073709551615 ∧ 0 ≤ r ∧ r < y ∧ Hid (q = X / 2 ^ (i + 1).toNat / y ∧ r = X / 2 ^ (i + 1).toNat % y)) (fun _ _ c _ => (RowKit.intOf c + 1).toNat)
  case atStart =>
    have hX := HX.out
    have hz : X / 2 ^ 96 = 0 := Int.ediv_eq_zero_of_lt (by omega) (by omega)
    exact ⟨0, 0, 95, rfl, rfl, rfl, rfl, by omega, by omega, by omega, by omega, by omega, by omega, Lib.hid (by simp only [show ((95 : Int) + 1).toNat = 96 from rfl, hz]; exact ⟨by simp, by simp⟩)⟩
  case round =>
    obtain ⟨q, r, i, rfl, rfl, rfl, hw, i0, i1, q0, q1, r0, r1, HQ⟩ := hrel
    subst hw
    by_cases hi : i = -1
    · subst hi
      obtain ⟨s, hs⟩ : ∃ s, s = y - r := ⟨_, rfl⟩
      have es : IntKind.u64.wrap (y - r) = s := by rw [IntKind.wrap_u64]; omega
      have HS := Lib.hid hs
      clear hs
      obtain ⟨t, ht⟩ : ∃ t, t = (q + 1) % 18446744073709551616 := ⟨_, rfl⟩
      have et : IntKind.u64.wrap (q + 1) = t := by rw [IntKind.wrap_u64]; omega
      have HT := Lib.hid ht
      clear ht
      go_wp2
      all_goals simp [bodyPost, results, Try.results77, go_sem]
      all_goals (obtain ⟨hq, hr⟩ := HQ.out; have hs := HS.out; have ht := HT.out; have hR := HR.out; have hO := HO.out; have hX := HX.out)
      all_goals rw [show X / 2 ^ ((-1 : Int) + 1).toNat = X by simp] at hq hr
      all_goals rw [← hX] at hR hO
      all_goals (obtain ⟨Z, hZ⟩ : ∃ Z, Z = qn X y := ⟨_, rfl⟩)
      all_goals rw [← hZ] at hR hO
      all_goals (have z1 : (y < 2 * r ∨ (2 * r = y ∧ q % 2 = 1)) → Z = q + 1 := fun h => by rw [hZ, qn, ← hq, ← hr, if_pos h])
      all_goals (have z2 : ¬(y < 2 * r ∨ (2 * r = y ∧ q % 2 = 1)) → Z = q := fun h => by rw [hZ, qn, ← hq, ← hr, if_neg h])
      all_goals clear HR HO HX HQ HS HT es et hZ hq hr
      all_goals (try simp only [beq_iff_eq, beq_eq_false_iff_ne, ne_eq] at *)
      all_goals (by_cases hM : Z ≤ 18446744073709551615)
      all_goals first | (rw [if_pos hM] at hR; rw [decide_eq_true hM] at hO) | (rw [if_neg hM] at hR; rw [decide_eq_false hM] at hO)
      all_goals first | (exfalso; clear hO; omega) | exact ⟨by clear hO; omega, by rw [hO]⟩ | exact ⟨by clear hO; omega, hO⟩ | skip
    · obtain ⟨n, hn⟩ : ∃ n : Nat, i = n := ⟨i.toNat, by omega⟩
      have e1 : (i + 1).toNat = n + 1 := by omega
      obtain ⟨hq, hr⟩ := HQ.out
      rw [e1] at hq hr
      have hX := HX.out
      by_cases hb : 9223372036854775808 ≤ q
      · have big := ov_big X y _ q n rfl hq (by omega) hb
        have hRO : R = 0 ∧ O = false := by
          have hM : ¬ qn X y ≤ 18446744073709551615 := by unfold qn; split <;> omega
          have hR := HR.out; have hO := HO.out
          rw [← hX] at hR hO
          rw [if_neg hM] at hR; rw [decide_eq_false hM] at hO
          exact ⟨hR, hO⟩
        obtain ⟨rfl, rfl⟩ := hRO
        clear hq hr hX big e1 HQ
        go_wp2
        all_goals simp [bodyPost, results, Try.results77, go_sem]
      · obtain ⟨b, hbb⟩ : ∃ b, b = X / 2 ^ n % 2 := ⟨_, rfl⟩
        have hst := half_step X n
        obtain ⟨t1, ht1⟩ : ∃ t, t = 2 * r := ⟨_, rfl⟩
        obtain ⟨t2, ht2⟩ : ∃ t, t = t1 + b := ⟨_, rfl⟩
        obtain ⟨t3, ht3⟩ : ∃ t, t = t2 - y := ⟨_, rfl⟩
        obtain ⟨q2, hq2⟩ : ∃ t, t = 2 * q := ⟨_, rfl⟩
        obtain ⟨q3, hq3⟩ : ∃ t, t = q2 + 1 := ⟨_, rfl⟩
        have b01 : 0 ≤ b ∧ b ≤ 1 := by omega
        have w1 : IntKind.u64.wrap (2 * r) = t1 := by rw [IntKind.wrap_u64]; omega
        have w2 : IntKind.u64.wrap (t1 + b) = t2 := by rw [IntKind.wrap_u64]; omega
        have w4 : IntKind.u64.wrap (2 * q) = q2 := by rw [IntKind.wrap_u64]; omega
        have w5 : IntKind.u64.wrap (q2 + 1) = q3 := by rw [IntKind.wrap_u64]; omega
        have nx : (i - 1 + 1).toNat = n := by omega
        have HN : Hid ((y ≤ t2 → q3 = X / 2 ^ n / y ∧ t3 = X / 2 ^ n % y) ∧ (t2 < y → q2 = X / 2 ^ n / y ∧ t2 = X / 2 ^ n % y)) := Lib.hid (by
          have hst' : X / 2 ^ n = 2 * (X / 2 ^ (n + 1)) + b := by omega
          rw [hst']
          refine ⟨fun h => ?_, fun h => ?_⟩
          · have k := div_up _ b y q r hq hr (by omega) (by omega) (by omega) (by omega)
            exact ⟨by rw [← k.1]; omega, by rw [← k.2]; omega⟩
          · have k := div_dn _ b y q r hq hr (by omega) (by omega) (by omega) (by omega)
            exact ⟨by rw [← k.1]; omega, by rw [← k.2]; omega⟩)
        have HB : Hid (t1 = 2 * r ∧ t2 = t1 + b ∧ t3 = t2 - y ∧ q2 = 2 * q ∧ q3 = q2 + 1 ∧ 0 ≤ b ∧ b ≤ 1) := Lib.hid (by refine ⟨?_, ?_⟩ <;> omega)
        have hbx : (32 ≤ i → (x / 2 ^ (i - 32).toNat).tmod 2 = b) ∧ (i < 32 → b = 0) := by
          refine ⟨fun h => ?_, fun h => ?_⟩
          · obtain ⟨k, hk⟩ : ∃ k : Nat, n = k + 32 := ⟨n - 32, by omega⟩
            rw [show (i - 32).toNat = k by omega, Int.tmod_eq_emod_of_nonneg (Int.ediv_nonneg x0 (Int.le_of_lt (Int.pow_pos (by decide)))), hbb, hk, Int.pow_add, hX,
              show (2 : Int) ^ 32 = 4294967296 by rfl, Int.mul_ediv_mul_of_pos_left _ _ (by decide)]
          · obtain ⟨k, hk⟩ : ∃ k : Nat, 32 = n + (k + 1) := ⟨31 - n, by omega⟩
            rw [hbb, hX, show (4294967296 : Int) = 2 ^ n * (2 ^ k * 2) by rw [← Int.pow_succ, ← Int.pow_add, ← hk]; rfl, Int.mul_left_comm, Int.mul_ediv_cancel_left _ (Int.ne_of_gt (Int.pow_pos (by decide))), ← Int.mul_assoc]
            omega
        clear hbb hst hq hr hX e1 HQ
        obtain ⟨hbx1, hbx2⟩ := hbx
        have HNn := Lib.hid hn
        have HX2 := Lib.hid nx
        clear hn nx
        by_cases hy : y ≤ t2
        · have w3 : IntKind.u64.wrap (t2 - y) = t3 := by rw [IntKind.wrap_u64]; omega
          clear ht1 ht2 ht3 hq2 hq3 b01
          by_cases h32 : 32 ≤ i
          · have hb1 := hbx1 h32
            clear hbx1 hbx2
            obtain ⟨j, hj⟩ : ∃ j, i - 32 = j := ⟨_, rfl⟩
            rw [hj] at hb1
            have j0 : 0 ≤ j := by omega
            have j1 : j ≤ 63 := by omega
            have wj : IntKind.i64.wrap (i - 32) = j := by rw [IntKind.wrap_i64]; omega
            go_wp2
            all_goals (have hn := HNn.out; have nx := HX2.out; have H := HN.out; obtain ⟨B1, B2, B3, B4, B5, B6, B7⟩ := HB.out)
            all_goals exact ⟨⟨q3, t3, i - 1, rfl, rfl, rfl, (by first | rfl | trivial), by omega, by omega, by omega, by omega, by omega, by omega, Lib.hid (by rw [nx]; exact H.1 hy)⟩, by simp [RowKit.intOf]; omega⟩
          · have hb0 := hbx2 (by omega)
            clear hbx1 hbx2
            subst hb0
            have w6 : IntKind.u64.wrap t1 = t1 := by have := HB.out; rw [IntKind.wrap_u64]; omega
            have w7 : t1 = t2 := by have := HB.out; omega
            subst w7
            go_wp2
            all_goals (have hn := HNn.out; have nx := HX2.out; have H := HN.out; obtain ⟨B1, B2, B3, B4, B5, B6, B7⟩ := HB.out)
            all_goals exact ⟨⟨q3, t3, i - 1, rfl, rfl, rfl, (by first | rfl | trivial), by omega, by omega, by omega, by omega, by omega, by omega, Lib.hid (by rw [nx]; exact H.1 hy)⟩, by simp [RowKit.intOf]; omega⟩
        · clear ht1 ht2 ht3 hq2 hq3 b01
          by_cases h32 : 32 ≤ i
          · have hb1 := hbx1 h32
            clear hbx1 hbx2
            obtain ⟨j, hj⟩ : ∃ j, i - 32 = j := ⟨_, rfl⟩
            rw [hj] at hb1
            have j0 : 0 ≤ j := by omega
            have j1 : j ≤ 63 := by omega
            have wj : IntKind.i64.wrap (i - 32) = j := by rw [IntKind.wrap_i64]; omega
            go_wp2
            all_goals (have hn := HNn.out; have nx := HX2.out; have H := HN.out; obtain ⟨B1, B2, B3, B4, B5, B6, B7⟩ := HB.out)
            all_goals exact ⟨⟨q2, _, i - 1, rfl, rfl, rfl, (by first | rfl | trivial), by omega, by omega, by omega, by omega, by omega, by omega, Lib.hid (by rw [nx]; exact H.2 (by omega))⟩, by simp [RowKit.intOf]; omega⟩
          · have hb0 := hbx2 (by omega)
            clear hbx1 hbx2
            subst hb0
            have w6 : IntKind.u64.wrap t1 = t1 := by have := HB.out; rw [IntKind.wrap_u64]; omega
            have w7 : t1 = t2 := by have := HB.out; omega
            subst w7
            go_wp2
            all_goals (have hn := HNn.out; have nx := HX2.out; have H := HN.out; obtain ⟨B1, B2, B3, B4, B5, B6, B7⟩ := HB.out)
            all_goals exact ⟨⟨q2, _, i - 1, rfl, rfl, rfl, (by first | rfl | trivial), by omega, by omega, by omega, by omega, by omega, by omega, Lib.hid (by rw [nx]; exact H.2 (by omega))⟩, by simp [RowKit.intOf]; omega⟩
end Go.Proofs.Ytjpkkpflamkjkaa
