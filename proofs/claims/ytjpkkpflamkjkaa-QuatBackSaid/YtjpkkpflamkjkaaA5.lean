/- The contract of wide.Div: the rounded quotient, and whether there is one. -/
import Derived.Test.YtjpkkpflamkjkaaA4
set_option linter.unusedSimpArgs false
set_option linter.unusedVariables false
namespace Go.Proofs.Ytjpkkpflamkjkaa
open Go.RowKit
theorem dok_of (A b N D q : Int) (n m : Bool) (hN : (A.natAbs : Int) = N) (hn : decide (A < 0) = n) (hD : (b.natAbs : Int) = D) (hm : decide (b < 0) = m) (hb : b ≠ 0) (hq : qn N D = q) :
    dok A b = fx (if (n != m) = true then -q else q) ∧ dq A b = if fx (if (n != m) = true then -q else q) = true then (if (n != m) = true then -q else q) else 0 := by
  have e : dok A b = fx (if (n != m) = true then -q else q) := by unfold dok rdiv; rw [hN, hD, hn, hm, hq]; simp [hb]
  refine ⟨e, ?_⟩
  unfold dq
  rw [e]
  unfold rdiv
  rw [hN, hD, hn, hm, hq]
theorem qn_up (N D : Int) (h : D < 2 * (N % D) ∨ (2 * (N % D) = D ∧ N / D % 2 = 1)) : qn N D = N / D + 1 := by unfold qn; rw [if_pos h]
theorem qn_no (N D : Int) (h : ¬ (D < 2 * (N % D) ∨ (2 * (N % D) = D ∧ N / D % 2 = 1))) : qn N D = N / D := by unfold qn; rw [if_neg h]
theorem and1_u64 (q : Int) (h0 : 0 ≤ q) (h1 : q ≤ 18446744073709551615) : bits .and .u64 q 1 = q % 2 := by
  obtain ⟨n, rfl⟩ := Int.eq_ofNat_of_zero_le h0
  have h := bits_and_u64_nat n 1 (by omega) (by omega)
  have e : n &&& 1 = n % 2 := Nat.and_two_pow_sub_one_eq_mod n 1
  rw [e] at h
  exact h
theorem dok_far (A b N D : Int) (hN : (A.natAbs : Int) = N) (hD : (b.natAbs : Int) = D) (hb : b ≠ 0) (h : D ≤ hw N) : dok A b = false ∧ dq A b = 0 := by
  have hD0 : 0 < D := by omega
  have e : 18446744073709551616 ≤ N / D := by
    refine Int.le_ediv_of_mul_le hD0 ?_
    unfold hw at h; omega
  have e2 : 18446744073709551616 ≤ qn N D := by unfold qn; split <;> omega
  have k : dok A b = false := by
    obtain ⟨k1, -⟩ := dok_of A b N D _ _ _ hN rfl hD rfl hb rfl
    rw [k1]; unfold fx; split <;> simp <;> omega
  exact ⟨k, by unfold dq; rw [k]; rfl⟩
set_option maxHeartbeats 2000000 in
theorem cWDiv (ah al b : Int) (w : World) (h0 : -9223372036854775808 ≤ ah) (h1 : ah ≤ 9223372036854775807) (h2 : 0 ≤ al) (h3 : al ≤ 18446744073709551615) (h4 : -9223372036854775808 ≤ b) (h5 : b ≤ 9223372036854775807) :
    Calls Try.prog 73 #[.agg #[.int .i64 ah, .int .u64 al], .int .i64 b] w fun e w' => e = .returned (.tuple #[.int .i64 (dq (wv ah al) b), .bool (dok (wv ah al) b)]) ∧ Below w.heap.size w w' := by
  have hA0 := wv_lo ah al h0 h2
  have hA1 := wv_hi ah al h1 h3
  obtain ⟨N, hN⟩ : ∃ N : Int, ((wv ah al).natAbs : Int) = N := ⟨_, rfl⟩
  obtain ⟨n, hn⟩ : ∃ n, decide (wv ah al < 0) = n := ⟨_, rfl⟩
  have n0 : 0 ≤ N := by omega
  have n1 : N ≤ 170141183460469231731687303715884105728 := by omega
  rcases (show b < 0 ∨ b = 0 ∨ 0 < b from by omega) with hb | hb | hb
  · have eD : IntKind.u64.wrap (-IntKind.u64.wrap b) = -b := by simp only [IntKind.wrap_u64]; omega
    have hD : (b.natAbs : Int) = -b := by omega
    by_cases hd : -b ≤ hw N
    · obtain ⟨k1, k2⟩ := dok_far _ b N (-b) hN hD (by omega) hd
      have K1 := Lib.hid k1; have K2 := Lib.hid k2; clear k1 k2
      have HN := Lib.hid hN; clear hN
      go_enter Try.func73, Try.ntmps73
      go_wp2_with (go_at_call 85; refine (cSized _ _ _ h0 h1 h2 h3).mono ?_; rintro e w1 ⟨rfl, hB⟩; rw [HN.out, hn]; have hB1 := Below.trans (Below.alloc (Below.refl w.heap.size w) (Nat.le_refl _) _) (hB.mono (by simp)); have hz := hB1.size)
      go_ret2
      exact ⟨by rw [K1.out, K2.out]; rfl, by (repeat (first | exact Below.refl _ _ | assumption | apply Below.drew | apply below_drewN | refine below_alloc ?_ _ | refine below_step ?_ (by assumption) | refine Below.alloc ?_ (by first | exact Nat.le_refl _ | omega | (simp; omega) | simp) _ | refine Below.setCell ?_ (by first | exact Nat.le_refl _ | omega | (simp; omega) | simp) _))⟩
    · obtain ⟨Q, hQ⟩ : ∃ Q, N / -b = Q := ⟨_, rfl⟩
      obtain ⟨R, hR⟩ : ∃ R, N % -b = R := ⟨_, rfl⟩
      have q0 : 0 ≤ Q := by rw [← hQ]; exact Int.ediv_nonneg n0 (by omega)
      have q1 : Q ≤ 18446744073709551615 := by have : N / -b < 18446744073709551616 := Int.ediv_lt_of_lt_mul (by omega) (by unfold hw at hd; omega); omega
      have r0 : 0 ≤ R := by rw [← hR]; exact Int.emod_nonneg _ (by omega)
      have r1 : R < -b := by rw [← hR]; exact Int.emod_lt_of_pos _ (by omega)
      have hq1 := and1_u64 Q q0 q1
      rcases (show -b < 2 * R ∨ (2 * R = -b ∧ Q % 2 = 1) ∨ (2 * R = -b ∧ Q % 2 = 0) ∨ 2 * R < -b from by omega) with u | ⟨u, v⟩ | ⟨u, v⟩ | u
      · have t4 : 0 < R := by omega
        have t1 : -b - R < R := by omega
        have hq := qn_up N (-b) (by rw [hR, hQ]; omega)
        rw [hQ] at hq
        have HK := Lib.hid (dok_of _ b N (-b) _ n _ hN hn hD rfl (by omega) hq)
        have HN := Lib.hid hN; have HQ := Lib.hid hQ; have HR := Lib.hid hR; clear hN hQ hR hq hD
        try clear v
        clear u
        go_enter Try.func73, Try.ntmps73
        go_wp2_with (first | (go_at_call 85; refine (cSized _ _ _ h0 h1 h2 h3).mono ?_; rintro e w1 ⟨rfl, hB⟩; rw [HN.out, hn]; have hB1 := Below.trans (Below.alloc (Below.refl w.heap.size w) (Nat.le_refl _) _) (hB.mono (by simp)); have hz := hB1.size) | (go_at_call 86; refine (cDiv64 _ _ _ _ (by unfold hw; omega) (by omega) (lw_lo _) (lw_hi _) (by omega)).mono ?_; rintro e w2 ⟨rfl, hB⟩; rw [wv_hl, HQ.out, HR.out]; have hB2 : Below w.heap.size w w2 := (Below.alloc hB1 (by omega) _).trans (hB.mono (by simp; omega))))
        all_goals (simp [bodyPost, results, Try.results73, go_sem])
        all_goals (refine ⟨?_, ?_⟩)
        all_goals first | (repeat (first | exact Below.refl _ _ | assumption | apply Below.drew | apply below_drewN | refine below_alloc ?_ _ | refine below_step ?_ (by assumption) | refine Below.alloc ?_ (by first | exact Nat.le_refl _ | omega | (simp; omega) | simp) _ | refine Below.setCell ?_ (by first | exact Nat.le_refl _ | omega | (simp; omega) | simp) _)) | skip
        all_goals (obtain ⟨k1, k2⟩ := HK.out; rw [k1, k2, show decide (b < 0) = true from by simp; omega]; clear k1 k2 hB2 hB hB1 HK HQ HN HR hz)
        all_goals (go_light)
        all_goals (simp only [fx, wrap64, IntKind.wrap_u64] at *)
        all_goals (cases n <;> simp at * <;> omega)
      · have t4 : 0 < R := by omega
        have t1 : ¬ (-b - R < R) := by omega
        have t2 : (R == -b - R) = true := by simp; omega
        have t3 : (Q % 2 == 1) = true := by simp; omega
        have hq := qn_up N (-b) (by rw [hR, hQ]; omega)
        rw [hQ] at hq
        have HK := Lib.hid (dok_of _ b N (-b) _ n _ hN hn hD rfl (by omega) hq)
        have HN := Lib.hid hN; have HQ := Lib.hid hQ; have HR := Lib.hid hR; clear hN hQ hR hq hD
        try clear v
        clear u
        go_enter Try.func73, Try.ntmps73
        go_wp2_with (first | (go_at_call 85; refine (cSized _ _ _ h0 h1 h2 h3).mono ?_; rintro e w1 ⟨rfl, hB⟩; rw [HN.out, hn]; have hB1 := Below.trans (Below.alloc (Below.refl w.heap.size w) (Nat.le_refl _) _) (hB.mono (by simp)); have hz := hB1.size) | (go_at_call 86; refine (cDiv64 _ _ _ _ (by unfold hw; omega) (by omega) (lw_lo _) (lw_hi _) (by omega)).mono ?_; rintro e w2 ⟨rfl, hB⟩; rw [wv_hl, HQ.out, HR.out]; have hB2 : Below w.heap.size w w2 := (Below.alloc hB1 (by omega) _).trans (hB.mono (by simp; omega))))
        all_goals (simp [bodyPost, results, Try.results73, go_sem])
        all_goals (refine ⟨?_, ?_⟩)
        all_goals first | (repeat (first | exact Below.refl _ _ | assumption | apply Below.drew | apply below_drewN | refine below_alloc ?_ _ | refine below_step ?_ (by assumption) | refine Below.alloc ?_ (by first | exact Nat.le_refl _ | omega | (simp; omega) | simp) _ | refine Below.setCell ?_ (by first | exact Nat.le_refl _ | omega | (simp; omega) | simp) _)) | skip
        all_goals (obtain ⟨k1, k2⟩ := HK.out; rw [k1, k2, show decide (b < 0) = true from by simp; omega]; clear k1 k2 hB2 hB hB1 HK HQ HN HR hz)
        all_goals (go_light)
        all_goals (simp only [fx, wrap64, IntKind.wrap_u64] at *)
        all_goals (cases n <;> simp at * <;> omega)
      · have t1 : ¬ (-b - R < R) := by omega
        have t2 : (R == -b - R) = true := by simp; omega
        have t3 : (Q % 2 == 1) = false := by simp; omega
        have hq := qn_no N (-b) (by rw [hR, hQ]; omega)
        rw [hQ] at hq
        have HK := Lib.hid (dok_of _ b N (-b) _ n _ hN hn hD rfl (by omega) hq)
        have HN := Lib.hid hN; have HQ := Lib.hid hQ; have HR := Lib.hid hR; clear hN hQ hR hq hD
        try clear v
        clear u
        go_enter Try.func73, Try.ntmps73
        go_wp2_with (first | (go_at_call 85; refine (cSized _ _ _ h0 h1 h2 h3).mono ?_; rintro e w1 ⟨rfl, hB⟩; rw [HN.out, hn]; have hB1 := Below.trans (Below.alloc (Below.refl w.heap.size w) (Nat.le_refl _) _) (hB.mono (by simp)); have hz := hB1.size) | (go_at_call 86; refine (cDiv64 _ _ _ _ (by unfold hw; omega) (by omega) (lw_lo _) (lw_hi _) (by omega)).mono ?_; rintro e w2 ⟨rfl, hB⟩; rw [wv_hl, HQ.out, HR.out]; have hB2 : Below w.heap.size w w2 := (Below.alloc hB1 (by omega) _).trans (hB.mono (by simp; omega))))
        all_goals (simp [bodyPost, results, Try.results73, go_sem])
        all_goals (refine ⟨?_, ?_⟩)
        all_goals first | (repeat (first | exact Below.refl _ _ | assumption | apply Below.drew | apply below_drewN | refine below_alloc ?_ _ | refine below_step ?_ (by assumption) | refine Below.alloc ?_ (by first | exact Nat.le_refl _ | omega | (simp; omega) | simp) _ | refine Below.setCell ?_ (by first | exact Nat.le_refl _ | omega | (simp; omega) | simp) _)) | skip
        all_goals (obtain ⟨k1, k2⟩ := HK.out; rw [k1, k2, show decide (b < 0) = true from by simp; omega]; clear k1 k2 hB2 hB hB1 HK HQ HN HR hz)
        all_goals (go_light)
        all_goals (simp only [fx, wrap64, IntKind.wrap_u64] at *)
        all_goals (cases n <;> simp at * <;> omega)
      · have t1 : ¬ (-b - R < R) := by omega
        have t2 : (R == -b - R) = false := by simp; omega
        have hq := qn_no N (-b) (by rw [hR, hQ]; omega)
        rw [hQ] at hq
        have HK := Lib.hid (dok_of _ b N (-b) _ n _ hN hn hD rfl (by omega) hq)
        have HN := Lib.hid hN; have HQ := Lib.hid hQ; have HR := Lib.hid hR; clear hN hQ hR hq hD
        try clear v
        clear u
        go_enter Try.func73, Try.ntmps73
        go_wp2_with (first | (go_at_call 85; refine (cSized _ _ _ h0 h1 h2 h3).mono ?_; rintro e w1 ⟨rfl, hB⟩; rw [HN.out, hn]; have hB1 := Below.trans (Below.alloc (Below.refl w.heap.size w) (Nat.le_refl _) _) (hB.mono (by simp)); have hz := hB1.size) | (go_at_call 86; refine (cDiv64 _ _ _ _ (by unfold hw; omega) (by omega) (lw_lo _) (lw_hi _) (by omega)).mono ?_; rintro e w2 ⟨rfl, hB⟩; rw [wv_hl, HQ.out, HR.out]; have hB2 : Below w.heap.size w w2 := (Below.alloc hB1 (by omega) _).trans (hB.mono (by simp; omega))))
        all_goals (simp [bodyPost, results, Try.results73, go_sem])
        all_goals (refine ⟨?_, ?_⟩)
        all_goals first | (repeat (first | exact Below.refl _ _ | assumption | apply Below.drew | apply below_drewN | refine below_alloc ?_ _ | refine below_step ?_ (by assumption) | refine Below.alloc ?_ (by first | exact Nat.le_refl _ | omega | (simp; omega) | simp) _ | refine Below.setCell ?_ (by first | exact Nat.le_refl _ | omega | (simp; omega) | simp) _)) | skip
        all_goals (obtain ⟨k1, k2⟩ := HK.out; rw [k1, k2, show decide (b < 0) = true from by simp; omega]; clear k1 k2 hB2 hB hB1 HK HQ HN HR hz)
        all_goals (go_light)
        all_goals (simp only [fx, wrap64, IntKind.wrap_u64] at *)
        all_goals (cases n <;> simp at * <;> omega)
  · subst hb
    have hw0 : 0 ≤ hw N := by unfold hw; omega
    go_enter Try.func73, Try.ntmps73
    go_wp2_with (go_at_call 85; refine (cSized _ _ _ h0 h1 h2 h3).mono ?_; rintro e w1 ⟨rfl, hB⟩; rw [hN, hn]; have hB1 := Below.trans (Below.alloc (Below.refl w.heap.size w) (Nat.le_refl _) _) (hB.mono (by simp)); have hz := hB1.size)
    go_ret2
    exact ⟨rfl, by (repeat (first | exact Below.refl _ _ | assumption | apply Below.drew | apply below_drewN | refine below_alloc ?_ _ | refine below_step ?_ (by assumption) | refine Below.alloc ?_ (by first | exact Nat.le_refl _ | omega | (simp; omega) | simp) _ | refine Below.setCell ?_ (by first | exact Nat.le_refl _ | omega | (simp; omega) | simp) _))⟩
  · have hD : (b.natAbs : Int) = b := by omega
    by_cases hd : b ≤ hw N
    · obtain ⟨k1, k2⟩ := dok_far _ b N (b) hN hD (by omega) hd
      have K1 := Lib.hid k1; have K2 := Lib.hid k2; clear k1 k2
      have HN := Lib.hid hN; clear hN
      go_enter Try.func73, Try.ntmps73
      go_wp2_with (go_at_call 85; refine (cSized _ _ _ h0 h1 h2 h3).mono ?_; rintro e w1 ⟨rfl, hB⟩; rw [HN.out, hn]; have hB1 := Below.trans (Below.alloc (Below.refl w.heap.size w) (Nat.le_refl _) _) (hB.mono (by simp)); have hz := hB1.size)
      go_ret2
      exact ⟨by rw [K1.out, K2.out]; rfl, by (repeat (first | exact Below.refl _ _ | assumption | apply Below.drew | apply below_drewN | refine below_alloc ?_ _ | refine below_step ?_ (by assumption) | refine Below.alloc ?_ (by first | exact Nat.le_refl _ | omega | (simp; omega) | simp) _ | refine Below.setCell ?_ (by first | exact Nat.le_refl _ | omega | (simp; omega) | simp) _))⟩
    · obtain ⟨Q, hQ⟩ : ∃ Q, N / b = Q := ⟨_, rfl⟩
      obtain ⟨R, hR⟩ : ∃ R, N % b = R := ⟨_, rfl⟩
      have q0 : 0 ≤ Q := by rw [← hQ]; exact Int.ediv_nonneg n0 (by omega)
      have q1 : Q ≤ 18446744073709551615 := by have : N / b < 18446744073709551616 := Int.ediv_lt_of_lt_mul (by omega) (by unfold hw at hd; omega); omega
      have r0 : 0 ≤ R := by rw [← hR]; exact Int.emod_nonneg _ (by omega)
      have r1 : R < b := by rw [← hR]; exact Int.emod_lt_of_pos _ (by omega)
      have hq1 := and1_u64 Q q0 q1
      rcases (show b < 2 * R ∨ (2 * R = b ∧ Q % 2 = 1) ∨ (2 * R = b ∧ Q % 2 = 0) ∨ 2 * R < b from by omega) with u | ⟨u, v⟩ | ⟨u, v⟩ | u
      · have t4 : 0 < R := by omega
        have t1 : b - R < R := by omega
        have hq := qn_up N (b) (by rw [hR, hQ]; omega)
        rw [hQ] at hq
        have HK := Lib.hid (dok_of _ b N (b) _ n _ hN hn hD rfl (by omega) hq)
        have HN := Lib.hid hN; have HQ := Lib.hid hQ; have HR := Lib.hid hR; clear hN hQ hR hq hD
        try clear v
        clear u
        go_enter Try.func73, Try.ntmps73
        go_wp2_with (first | (go_at_call 85; refine (cSized _ _ _ h0 h1 h2 h3).mono ?_; rintro e w1 ⟨rfl, hB⟩; rw [HN.out, hn]; have hB1 := Below.trans (Below.alloc (Below.refl w.heap.size w) (Nat.le_refl _) _) (hB.mono (by simp)); have hz := hB1.size) | (go_at_call 86; refine (cDiv64 _ _ _ _ (by unfold hw; omega) (by omega) (lw_lo _) (lw_hi _) (by omega)).mono ?_; rintro e w2 ⟨rfl, hB⟩; rw [wv_hl, HQ.out, HR.out]; have hB2 : Below w.heap.size w w2 := (Below.alloc hB1 (by omega) _).trans (hB.mono (by simp; omega))))
        all_goals (simp [bodyPost, results, Try.results73, go_sem])
        all_goals (refine ⟨?_, ?_⟩)
        all_goals first | (repeat (first | exact Below.refl _ _ | assumption | apply Below.drew | apply below_drewN | refine below_alloc ?_ _ | refine below_step ?_ (by assumption) | refine Below.alloc ?_ (by first | exact Nat.le_refl _ | omega | (simp; omega) | simp) _ | refine Below.setCell ?_ (by first | exact Nat.le_refl _ | omega | (simp; omega) | simp) _)) | skip
        all_goals (obtain ⟨k1, k2⟩ := HK.out; rw [k1, k2, show decide (b < 0) = false from by simp; omega]; clear k1 k2 hB2 hB hB1 HK HQ HN HR hz)
        all_goals (go_light)
        all_goals (simp only [fx, wrap64, IntKind.wrap_u64] at *)
        all_goals (cases n <;> simp at * <;> omega)
      · have t4 : 0 < R := by omega
        have t1 : ¬ (b - R < R) := by omega
        have t2 : (R == b - R) = true := by simp; omega
        have t3 : (Q % 2 == 1) = true := by simp; omega
        have hq := qn_up N (b) (by rw [hR, hQ]; omega)
        rw [hQ] at hq
        have HK := Lib.hid (dok_of _ b N (b) _ n _ hN hn hD rfl (by omega) hq)
        have HN := Lib.hid hN; have HQ := Lib.hid hQ; have HR := Lib.hid hR; clear hN hQ hR hq hD
        try clear v
        clear u
        go_enter Try.func73, Try.ntmps73
        go_wp2_with (first | (go_at_call 85; refine (cSized _ _ _ h0 h1 h2 h3).mono ?_; rintro e w1 ⟨rfl, hB⟩; rw [HN.out, hn]; have hB1 := Below.trans (Below.alloc (Below.refl w.heap.size w) (Nat.le_refl _) _) (hB.mono (by simp)); have hz := hB1.size) | (go_at_call 86; refine (cDiv64 _ _ _ _ (by unfold hw; omega) (by omega) (lw_lo _) (lw_hi _) (by omega)).mono ?_; rintro e w2 ⟨rfl, hB⟩; rw [wv_hl, HQ.out, HR.out]; have hB2 : Below w.heap.size w w2 := (Below.alloc hB1 (by omega) _).trans (hB.mono (by simp; omega))))
        all_goals (simp [bodyPost, results, Try.results73, go_sem])
        all_goals (refine ⟨?_, ?_⟩)
        all_goals first | (repeat (first | exact Below.refl _ _ | assumption | apply Below.drew | apply below_drewN | refine below_alloc ?_ _ | refine below_step ?_ (by assumption) | refine Below.alloc ?_ (by first | exact Nat.le_refl _ | omega | (simp; omega) | simp) _ | refine Below.setCell ?_ (by first | exact Nat.le_refl _ | omega | (simp; omega) | simp) _)) | skip
        all_goals (obtain ⟨k1, k2⟩ := HK.out; rw [k1, k2, show decide (b < 0) = false from by simp; omega]; clear k1 k2 hB2 hB hB1 HK HQ HN HR hz)
        all_goals (go_light)
        all_goals (simp only [fx, wrap64, IntKind.wrap_u64] at *)
        all_goals (cases n <;> simp at * <;> omega)
      · have t1 : ¬ (b - R < R) := by omega
        have t2 : (R == b - R) = true := by simp; omega
        have t3 : (Q % 2 == 1) = false := by simp; omega
        have hq := qn_no N (b) (by rw [hR, hQ]; omega)
        rw [hQ] at hq
        have HK := Lib.hid (dok_of _ b N (b) _ n _ hN hn hD rfl (by omega) hq)
        have HN := Lib.hid hN; have HQ := Lib.hid hQ; have HR := Lib.hid hR; clear hN hQ hR hq hD
        try clear v
        clear u
        go_enter Try.func73, Try.ntmps73
        go_wp2_with (first | (go_at_call 85; refine (cSized _ _ _ h0 h1 h2 h3).mono ?_; rintro e w1 ⟨rfl, hB⟩; rw [HN.out, hn]; have hB1 := Below.trans (Below.alloc (Below.refl w.heap.size w) (Nat.le_refl _) _) (hB.mono (by simp)); have hz := hB1.size) | (go_at_call 86; refine (cDiv64 _ _ _ _ (by unfold hw; omega) (by omega) (lw_lo _) (lw_hi _) (by omega)).mono ?_; rintro e w2 ⟨rfl, hB⟩; rw [wv_hl, HQ.out, HR.out]; have hB2 : Below w.heap.size w w2 := (Below.alloc hB1 (by omega) _).trans (hB.mono (by simp; omega))))
        all_goals (simp [bodyPost, results, Try.results73, go_sem])
        all_goals (refine ⟨?_, ?_⟩)
        all_goals first | (repeat (first | exact Below.refl _ _ | assumption | apply Below.drew | apply below_drewN | refine below_alloc ?_ _ | refine below_step ?_ (by assumption) | refine Below.alloc ?_ (by first | exact Nat.le_refl _ | omega | (simp; omega) | simp) _ | refine Below.setCell ?_ (by first | exact Nat.le_refl _ | omega | (simp; omega) | simp) _)) | skip
        all_goals (obtain ⟨k1, k2⟩ := HK.out; rw [k1, k2, show decide (b < 0) = false from by simp; omega]; clear k1 k2 hB2 hB hB1 HK HQ HN HR hz)
        all_goals (go_light)
        all_goals (simp only [fx, wrap64, IntKind.wrap_u64] at *)
        all_goals (cases n <;> simp at * <;> omega)
      · have t1 : ¬ (b - R < R) := by omega
        have t2 : (R == b - R) = false := by simp; omega
        have hq := qn_no N (b) (by rw [hR, hQ]; omega)
        rw [hQ] at hq
        have HK := Lib.hid (dok_of _ b N (b) _ n _ hN hn hD rfl (by omega) hq)
        have HN := Lib.hid hN; have HQ := Lib.hid hQ; have HR := Lib.hid hR; clear hN hQ hR hq hD
        try clear v
        clear u
        go_enter Try.func73, Try.ntmps73
        go_wp2_with (first | (go_at_call 85; refine (cSized _ _ _ h0 h1 h2 h3).mono ?_; rintro e w1 ⟨rfl, hB⟩; rw [HN.out, hn]; have hB1 := Below.trans (Below.alloc (Below.refl w.heap.size w) (Nat.le_refl _) _) (hB.mono (by simp)); have hz := hB1.size) | (go_at_call 86; refine (cDiv64 _ _ _ _ (by unfold hw; omega) (by omega) (lw_lo _) (lw_hi _) (by omega)).mono ?_; rintro e w2 ⟨rfl, hB⟩; rw [wv_hl, HQ.out, HR.out]; have hB2 : Below w.heap.size w w2 := (Below.alloc hB1 (by omega) _).trans (hB.mono (by simp; omega))))
        all_goals (simp [bodyPost, results, Try.results73, go_sem])
        all_goals (refine ⟨?_, ?_⟩)
        all_goals first | (repeat (first | exact Below.refl _ _ | assumption | apply Below.drew | apply below_drewN | refine below_alloc ?_ _ | refine below_step ?_ (by assumption) | refine Below.alloc ?_ (by first | exact Nat.le_refl _ | omega | (simp; omega) | simp) _ | refine Below.setCell ?_ (by first | exact Nat.le_refl _ | omega | (simp; omega) | simp) _)) | skip
        all_goals (obtain ⟨k1, k2⟩ := HK.out; rw [k1, k2, show decide (b < 0) = false from by simp; omega]; clear k1 k2 hB2 hB hB1 HK HQ HN HR hz)
        all_goals (go_light)
        all_goals (simp only [fx, wrap64, IntKind.wrap_u64] at *)
        all_goals (cases n <;> simp at * <;> omega)
end Go.Proofs.Ytjpkkpflamkjkaa
