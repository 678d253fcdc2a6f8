/- Plain law: a direction is as long as 1, but for 8 parts. No Go in sight. -/
import Derived.Test.YtgdoaibgcjdklaaF2
import Derived.Test.YtgdoaibgcjdklaaP0
set_option linter.unusedSimpArgs false
set_option linter.unusedVariables false
namespace Go.Proofs.Ytgdoaibgcjdklaa
theorem rdiv_err (a n : Int) (hn : 0 < n) : -n ≤ 2 * (rdiv a n * n - a) ∧ 2 * (rdiv a n * n - a) ≤ n := by
  unfold rdiv
  have hD : (n.natAbs : Int) = n := by omega
  rw [hD, decide_eq_false (show ¬ n < 0 by omega)]
  have key : ∀ m : Int, 0 ≤ m → -n ≤ 2 * (qn m n * n - m) ∧ 2 * (qn m n * n - m) ≤ n := by
    intro m _
    have e := Int.mul_ediv_add_emod m n
    have r0 := Int.emod_nonneg m (Int.ne_of_gt hn)
    have r1 := Int.emod_lt_of_pos m hn
    rw [Int.mul_comm] at e
    unfold qn
    split
    · rw [Int.add_mul, Int.one_mul]
      generalize m / n * n = p at *
      generalize m % n = r at *
      omega
    · generalize m / n * n = p at *
      generalize m % n = r at *
      omega
  rcases Int.lt_or_le a 0 with h | h
  · rw [decide_eq_true h, if_pos (by decide)]
    have k := key (a.natAbs : Int) (by omega)
    rw [Int.neg_mul]
    generalize qn (a.natAbs : Int) n * n = p at *
    omega
  · rw [decide_eq_false (show ¬ a < 0 by omega), if_neg (by decide)]
    have k := key (a.natAbs : Int) (by omega)
    generalize qn (a.natAbs : Int) n * n = p at *
    omega
/-- One part: x n is v 2^32, but for half of n. -/
theorem one_part (v n : Int) (hn : 4294967296 ≤ n) (hv0 : -n ≤ v) (hv1 : v ≤ n) :
    fqok v n = true ∧ ∃ e, fq v n * n = v * 4294967296 + e ∧ -n ≤ 2 * e ∧ 2 * e ≤ n ∧ -4294967297 ≤ fq v n ∧ fq v n ≤ 4294967297 := by
  have h := rdiv_err (v * 4294967296) n (by omega)
  have hb : -4294967297 ≤ rdiv (v * 4294967296) n ∧ rdiv (v * 4294967296) n ≤ 4294967297 := by
    generalize rdiv (v * 4294967296) n = q at *
    refine ⟨?_, ?_⟩
    · rcases Int.lt_or_le q (-4294967297) with h1 | h1
      · have := Int.mul_le_mul_of_nonneg_right (show q ≤ -4294967298 by omega) (show 0 ≤ n by omega)
        omega
      · exact h1
    · rcases Int.lt_or_le 4294967297 q with h1 | h1
      · have := Int.mul_le_mul_of_nonneg_right (show 4294967298 ≤ q by omega) (show 0 ≤ n by omega)
        omega
      · exact h1
  have e1 : fq v n = rdiv (v * 4294967296) n := by
    unfold fq
    rw [if_neg (by omega), sat_id _ (by omega) (by omega)]
  refine ⟨?_, ?_⟩
  · unfold fqok
    rw [decide_eq_false (show ¬ n = 0 by omega), fx_yes _ (by omega) (by omega)]; rfl
  · rw [e1]
    exact ⟨rdiv (v * 4294967296) n * n - v * 4294967296, by omega, by omega, by omega, hb.1, hb.2⟩
theorem sq_part (x v n e : Int) (h : x * n = v * 4294967296 + e) : x * x * (n * n) = 18446744073709551616 * (v * v) + 8589934592 * (v * e) + e * e := by
  have : x * x * (n * n) = (x * n) * (x * n) := by grind
  rw [this, h]; grind
theorem abs_le_of_sq (v n : Int) (h0 : 0 ≤ n) (h : v * v ≤ n * n + 2 * n) : -n ≤ v ∧ v ≤ n := by
  refine ⟨?_, ?_⟩
  · rcases Int.lt_or_le v (-n) with h1 | h1
    · have := Int.mul_le_mul (show n + 1 ≤ -v by omega) (show n + 1 ≤ -v by omega) (by omega) (by omega)
      rw [Int.neg_mul_neg, Int.add_mul, Int.mul_add] at this
      omega
    · exact h1
  · rcases Int.lt_or_le n v with h1 | h1
    · have := Int.mul_le_mul (show n + 1 ≤ v by omega) (show n + 1 ≤ v by omega) (by omega) (by omega)
      rw [Int.add_mul, Int.mul_add] at this
      omega
    · exact h1
theorem sq_nn (e : Int) : 0 ≤ e * e := by
  rcases Int.le_total 0 e with h | h
  · exact Int.mul_nonneg h h
  · exact Int.mul_nonneg_of_nonpos_of_nonpos h h
/-- Three parts: how long the direction is. -/
theorem one_len (v0 v1 v2 x0 x1 x2 e0 e1 e2 n : Int) (hn : 4294967296 ≤ n) (a0 : -n ≤ v0) (a1 : v0 ≤ n) (a2 : -n ≤ v1) (a3 : v1 ≤ n) (a4 : -n ≤ v2) (a5 : v2 ≤ n)
    (h0 : x0 * n = v0 * 4294967296 + e0) (h1 : x1 * n = v1 * 4294967296 + e1) (h2 : x2 * n = v2 * 4294967296 + e2)
    (b0 : -n ≤ 2 * e0) (b1 : 2 * e0 ≤ n) (b2 : -n ≤ 2 * e1) (b3 : 2 * e1 ≤ n) (b4 : -n ≤ 2 * e2) (b5 : 2 * e2 ≤ n)
    (s0 : n * n ≤ v0 * v0 + v1 * v1 + v2 * v2) (s1 : v0 * v0 + v1 * v1 + v2 * v2 ≤ n * n + 2 * n) :
    4294967288 * 4294967288 ≤ x0 * x0 + x1 * x1 + x2 * x2 ∧ x0 * x0 + x1 * x1 + x2 * x2 < 4294967305 * 4294967305 := by
  have k0 := sq_part x0 v0 n e0 h0
  have k1 := sq_part x1 v1 n e1 h1
  have k2 := sq_part x2 v2 n e2 h2
  have c0 := mulb v0 (2 * e0) n n a0 a1 b0 b1
  have c1 := mulb v1 (2 * e1) n n a2 a3 b2 b3
  have c2 := mulb v2 (2 * e2) n n a4 a5 b4 b5
  have d0 := mulb (2 * e0) (2 * e0) n n b0 b1 b0 b1
  have d1 := mulb (2 * e1) (2 * e1) n n b2 b3 b2 b3
  have d2 := mulb (2 * e2) (2 * e2) n n b4 b5 b4 b5
  have f0 := sq_nn e0
  have f1 := sq_nn e1
  have f2 := sq_nn e2
  rw [show v0 * (2 * e0) = 2 * (v0 * e0) by grind] at c0
  rw [show v1 * (2 * e1) = 2 * (v1 * e1) by grind] at c1
  rw [show v2 * (2 * e2) = 2 * (v2 * e2) by grind] at c2
  rw [show 2 * e0 * (2 * e0) = 4 * (e0 * e0) by grind] at d0
  rw [show 2 * e1 * (2 * e1) = 4 * (e1 * e1) by grind] at d1
  rw [show 2 * e2 * (2 * e2) = 4 * (e2 * e2) by grind] at d2
  have m1 : 4294967296 * n ≤ n * n := Int.mul_le_mul_of_nonneg_right hn (by omega)
  have np : 0 < n * n := Int.mul_pos (by omega) (by omega)
  have t : (x0 * x0 + x1 * x1 + x2 * x2) * (n * n) = x0 * x0 * (n * n) + x1 * x1 * (n * n) + x2 * x2 * (n * n) := by grind
  rw [k0, k1, k2] at t
  generalize v0 * e0 = p0 at *
  generalize v1 * e1 = p1 at *
  generalize v2 * e2 = p2 at *
  generalize e0 * e0 = q0 at *
  generalize e1 * e1 = q1 at *
  generalize e2 * e2 = q2 at *
  generalize v0 * v0 = w0 at *
  generalize v1 * v1 = w1 at *
  generalize v2 * v2 = w2 at *
  generalize n * n = N at *
  generalize x0 * x0 + x1 * x1 + x2 * x2 = T at *
  refine ⟨?_, ?_⟩
  · rcases Int.lt_or_le T (4294967288 * 4294967288) with h | h
    · have := Int.mul_le_mul_of_nonneg_right (show T ≤ 4294967288 * 4294967288 - 1 by omega) (show 0 ≤ N by omega)
      omega
    · exact h
  · rcases Int.lt_or_le T (4294967305 * 4294967305) with h | h
    · exact h
    · have := Int.mul_le_mul_of_nonneg_right h (show 0 ≤ N by omega)
      omega
end Go.Proofs.Ytgdoaibgcjdklaa
