/- The walk of QuatBack: for every attitude and every vector the law returns true: turning there and back by a unit attitude leaves a vector where it was, but for 2^-12 (what lies outside the bounds of the law meets the example alone). (Y0, Y1, Y2, Y3, Y4, Y5, Y6, Y7, W5, X8, L6h in one text.) -/
import Derived.Test.YtjpkkpflamkjkaaA0
import Derived.Test.YtjpkkpflamkjkaaX1
import Derived.Test.YtjpkkpflamkjkaaV2
import Derived.Test.YtjpkkpflamkjkaaX5
import Derived.Test.YtjpkkpflamkjkaaV6
import Derived.Test.YtjpkkpflamkjkaaW3
import Derived.Test.YtjpkkpflamkjkaaX4
import Derived.Test.YtjpkkpflamkjkaaV5
import Derived.Test.YtjpkkpflamkjkaaV1
import Derived.Test.YtjpkkpflamkjkaaX7
import Derived.Test.YtjpkkpflamkjkaaW2
set_option linter.unusedSimpArgs false
set_option linter.unusedVariables false
namespace Go.Proofs.Ytjpkkpflamkjkaa
open Go.RowKit
section
theorem turn_sq (D w x y z a b c : Int) :
    ((D - 2 * (y * y + z * z)) * a + 2 * (x * y - w * z) * b + 2 * (x * z + w * y) * c) * ((D - 2 * (y * y + z * z)) * a + 2 * (x * y - w * z) * b + 2 * (x * z + w * y) * c)
    + (2 * (x * y + w * z) * a + (D - 2 * (x * x + z * z)) * b + 2 * (y * z - w * x) * c) * (2 * (x * y + w * z) * a + (D - 2 * (x * x + z * z)) * b + 2 * (y * z - w * x) * c)
    + (2 * (x * z - w * y) * a + 2 * (y * z + w * x) * b + (D - 2 * (x * x + y * y)) * c) * (2 * (x * z - w * y) * a + 2 * (y * z + w * x) * b + (D - 2 * (x * x + y * y)) * c)
    = D * D * (a * a + b * b + c * c) + 4 * (w * w + x * x + y * y + z * z - D) * ((y * c - z * b) * (y * c - z * b) + (z * a - x * c) * (z * a - x * c) + (x * b - y * a) * (x * b - y * a)) := by
  grind
theorem turn_back0 (D w x y z a b c : Int) :
    (D - 2 * (y * y + z * z)) * ((D - 2 * (y * y + z * z)) * a + 2 * (x * y - w * z) * b + 2 * (x * z + w * y) * c)
    + 2 * (x * y + w * z) * (2 * (x * y + w * z) * a + (D - 2 * (x * x + z * z)) * b + 2 * (y * z - w * x) * c)
    + 2 * (x * z - w * y) * (2 * (x * z - w * y) * a + 2 * (y * z + w * x) * b + (D - 2 * (x * x + y * y)) * c)
    = D * D * a - 4 * (w * w + x * x + y * y + z * z - D) * (x * (x * a + y * b + z * c) - (x * x + y * y + z * z) * a) := by
  grind
theorem turn_back1 (D w x y z a b c : Int) :
    2 * (x * y - w * z) * ((D - 2 * (y * y + z * z)) * a + 2 * (x * y - w * z) * b + 2 * (x * z + w * y) * c)
    + (D - 2 * (x * x + z * z)) * (2 * (x * y + w * z) * a + (D - 2 * (x * x + z * z)) * b + 2 * (y * z - w * x) * c)
    + 2 * (y * z + w * x) * (2 * (x * z - w * y) * a + 2 * (y * z + w * x) * b + (D - 2 * (x * x + y * y)) * c)
    = D * D * b - 4 * (w * w + x * x + y * y + z * z - D) * (y * (x * a + y * b + z * c) - (x * x + y * y + z * z) * b) := by
  grind
theorem turn_back2 (D w x y z a b c : Int) :
    2 * (x * z + w * y) * ((D - 2 * (y * y + z * z)) * a + 2 * (x * y - w * z) * b + 2 * (x * z + w * y) * c)
    + 2 * (y * z - w * x) * (2 * (x * y + w * z) * a + (D - 2 * (x * x + z * z)) * b + 2 * (y * z - w * x) * c)
    + (D - 2 * (x * x + y * y)) * (2 * (x * z - w * y) * a + 2 * (y * z + w * x) * b + (D - 2 * (x * x + y * y)) * c)
    = D * D * c - 4 * (w * w + x * x + y * y + z * z - D) * (z * (x * a + y * b + z * c) - (x * x + y * y + z * z) * c) := by
  grind
end
section
theorem mul_bd2 (a b A B : Int) (a0 : -A ≤ a) (a1 : a ≤ A) (b0 : -B ≤ b) (b1 : b ≤ B) : -(A * B) ≤ a * b ∧ a * b ≤ A * B := by
  have hA : 0 ≤ A := by omega
  have hB : 0 ≤ B := by omega
  have e1 : 0 ≤ (A - a) * (B + b) := Int.mul_nonneg (by omega) (by omega)
  have e2 : 0 ≤ (A + a) * (B - b) := Int.mul_nonneg (by omega) (by omega)
  have e3 : 0 ≤ (A - a) * (B - b) := Int.mul_nonneg (by omega) (by omega)
  have e4 : 0 ≤ (A + a) * (B + b) := Int.mul_nonneg (by omega) (by omega)
  have f1 : (A - a) * (B + b) = A * B + A * b - a * B - a * b := by grind
  have f2 : (A + a) * (B - b) = A * B - A * b + a * B - a * b := by grind
  have f3 : (A - a) * (B - b) = A * B - A * b - a * B + a * b := by grind
  have f4 : (A + a) * (B + b) = A * B + A * b + a * B + a * b := by grind
  omega
theorem sq_nn6 (a : Int) : 0 ≤ a * a := by
  rcases Int.le_total 0 a with h | h
  · exact Int.mul_nonneg h h
  · have := Int.mul_nonneg (a := -a) (b := -a) (by omega) (by omega); rwa [Int.neg_mul_neg] at this
theorem abs_of_sq (a n : Int) (hn : 0 ≤ n) (h : a * a < (n + 1) * (n + 1)) : -n ≤ a ∧ a ≤ n := by
  constructor
  · rcases Int.lt_or_le a (-n) with h1 | h1
    · have := Int.mul_le_mul (a := n + 1) (b := n + 1) (c := -a) (d := -a) (by omega) (by omega) (by omega) (by omega)
      rw [Int.neg_mul_neg] at this; omega
    · exact h1
  · rcases Int.lt_or_le n a with h1 | h1
    · have := Int.mul_le_mul (a := n + 1) (b := n + 1) (c := a) (d := a) (by omega) (by omega) (by omega) (by omega)
      omega
    · exact h1
/-- How long an attitude is, whose parts are from 1 to 2^8 long together. -/
theorem un_n (L W A S n : Int) (hL : 0 ≤ L) (hW : 0 ≤ W) (h1 : L * L ≤ A) (h2 : A < (L + 1) * (L + 1)) (hS : S = A + W * W) (hn : 0 ≤ n) (h3 : n * n ≤ S) (h4 : S < (n + 1) * (n + 1))
    (h5 : 4294967296 ≤ L + W) (h6 : L + W ≤ 1099511627776) : 3037000499 ≤ n ∧ n ≤ 1099511627776 := by
  constructor
  · rcases Int.lt_or_le n 3037000499 with h | h
    · exfalso
      have e1 : (n + 1) * (n + 1) ≤ 3037000499 * 3037000499 := Int.mul_le_mul (by omega) (by omega) (by omega) (by omega)
      have e2 := sq_nn6 (L - W)
      have e3 : 4294967296 * 4294967296 ≤ (L + W) * (L + W) := Int.mul_le_mul h5 h5 (by omega) (by omega)
      have e4 : (L + W) * (L + W) + (L - W) * (L - W) = 2 * (L * L) + 2 * (W * W) := by grind
      omega
    · exact h
  · rcases Int.lt_or_le 1099511627776 n with h | h
    · exfalso
      have e1 : (L + W + 1) * (L + W + 1) ≤ n * n := Int.mul_le_mul (by omega) (by omega) (by omega) (by omega)
      have e2 : (L + W + 1) * (L + W + 1) = (L + 1) * (L + 1) + 2 * ((L + 1) * W) + W * W := by grind
      have e3 : 0 ≤ (L + 1) * W := Int.mul_nonneg (by omega) hW
      omega
    · exact h
/-- The square of an attitude made one is 1, but for 2^-29. -/
theorem un_s (q0 q1 q2 q3 u0 u1 u2 u3 n : Int) (hn : 3037000499 ≤ n) (h3 : n * n ≤ q0 * q0 + q1 * q1 + q2 * q2 + q3 * q3) (h4 : q0 * q0 + q1 * q1 + q2 * q2 + q3 * q3 < (n + 1) * (n + 1))
    (f0 : -n ≤ 2 * (u0 * n - q0 * 4294967296) ∧ 2 * (u0 * n - q0 * 4294967296) ≤ n) (f1 : -n ≤ 2 * (u1 * n - q1 * 4294967296) ∧ 2 * (u1 * n - q1 * 4294967296) ≤ n)
    (f2 : -n ≤ 2 * (u2 * n - q2 * 4294967296) ∧ 2 * (u2 * n - q2 * 4294967296) ≤ n) (f3 : -n ≤ 2 * (u3 * n - q3 * 4294967296) ∧ 2 * (u3 * n - q3 * 4294967296) ≤ n) :
    -34359738368 ≤ u0 * u0 + u1 * u1 + u2 * u2 + u3 * u3 - 18446744073709551616 ∧ u0 * u0 + u1 * u1 + u2 * u2 + u3 * u3 - 18446744073709551616 ≤ 34359738368 := by
  have s0 := sq_nn6 q0
  have s1 := sq_nn6 q1
  have s2 := sq_nn6 q2
  have s3 := sq_nn6 q3
  have a0 := abs_of_sq q0 n (by omega) (by omega)
  have a1 := abs_of_sq q1 n (by omega) (by omega)
  have a2 := abs_of_sq q2 n (by omega) (by omega)
  have a3 := abs_of_sq q3 n (by omega) (by omega)
  have key : ∀ q u : Int, (-n ≤ 2 * (u * n - q * 4294967296) ∧ 2 * (u * n - q * 4294967296) ≤ n) → (-n ≤ q ∧ q ≤ n) →
      ∃ x : Int, n * n * (u * u) = 18446744073709551616 * (q * q) + x ∧ -4294967296 * (n * n) ≤ x ∧ 4 * x ≤ 17179869184 * (n * n) + n * n := by
    intro q u ⟨g1, g2⟩ ⟨g3, g4⟩
    obtain ⟨e, he⟩ : ∃ e, u * n - q * 4294967296 = e := ⟨_, rfl⟩
    rw [he] at g1 g2
    have m1 := mul_bd2 q (2 * e) n n g3 g4 g1 g2
    have m2 := mul_bd2 (2 * e) (2 * e) n n g1 g2 g1 g2
    have m3 := sq_nn6 (2 * e)
    have r1 : q * (2 * e) = 2 * (q * e) := by grind
    have r2 : (2 * e) * (2 * e) = 4 * (e * e) := by grind
    refine ⟨8589934592 * (q * e) + e * e, ?_, ?_, ?_⟩
    · have : u * n = q * 4294967296 + e := by omega
      have h : n * n * (u * u) = (u * n) * (u * n) := by grind
      rw [h, this]; grind
    · omega
    · omega
  obtain ⟨x0, y0, z0, t0⟩ := key q0 u0 f0 a0
  obtain ⟨x1, y1, z1, t1⟩ := key q1 u1 f1 a1
  obtain ⟨x2, y2, z2, t2⟩ := key q2 u2 f2 a2
  obtain ⟨x3, y3, z3, t3⟩ := key q3 u3 f3 a3
  have hS : n * n * (u0 * u0 + u1 * u1 + u2 * u2 + u3 * u3 - 18446744073709551616) = 18446744073709551616 * (q0 * q0 + q1 * q1 + q2 * q2 + q3 * q3 - n * n) + (x0 + x1 + x2 + x3) := by
    have : n * n * (u0 * u0 + u1 * u1 + u2 * u2 + u3 * u3 - 18446744073709551616) = n * n * (u0 * u0) + n * n * (u1 * u1) + n * n * (u2 * u2) + n * n * (u3 * u3) - 18446744073709551616 * (n * n) := by grind
    omega
  have hp : (n + 1) * (n + 1) = n * n + 2 * n + 1 := by grind
  have hN : 3037000499 * n ≤ n * n := Int.mul_le_mul_of_nonneg_right hn (by omega)
  generalize u0 * u0 + u1 * u1 + u2 * u2 + u3 * u3 - 18446744073709551616 = E at *
  clear key y0 y1 y2 y3 f0 f1 f2 f3 a0 a1 a2 a3
  constructor
  · rcases Int.lt_or_le E (-34359738368) with h | h
    · exfalso
      have := Int.mul_le_mul_of_nonneg_left (c := n * n) (show E ≤ -34359738368 by omega) (by omega)
      omega
    · exact h
  · rcases Int.lt_or_le 34359738368 E with h | h
    · exfalso
      have := Int.mul_le_mul_of_nonneg_left (c := n * n) (show 34359738368 ≤ E by omega) (by omega)
      omega
    · exact h
end
section
theorem rsh_near6 (p : Int) : -2147483648 ≤ 4294967296 * rsh p - p ∧ 4294967296 * rsh p - p ≤ 2147483648 := by unfold rsh; split <;> omega
theorem sat_id6 (n : Int) (h0 : -9223372036854775808 ≤ n) (h1 : n ≤ 9223372036854775807) : sat n = n := by unfold sat; rw [if_neg (by omega), if_neg (by omega)]
theorem fx_id6 (n : Int) (h0 : -9223372036854775808 ≤ n) (h1 : n ≤ 9223372036854775807) : fx n = true := by unfold fx; exact decide_eq_true ⟨h0, h1⟩
/-- A product, as a reckoner keeps it. -/
theorem ml_e (a b : Int) (a0 : -8589934592 ≤ a) (a1 : a ≤ 8589934592) (b0 : -8589934592 ≤ b) (b1 : b ≤ 8589934592) :
    (∃ e, 4294967296 * ml a b = a * b + e ∧ -2147483648 ≤ e ∧ e ≤ 2147483648) ∧ mlok a b = true ∧ -17179869185 ≤ ml a b ∧ ml a b ≤ 17179869185 := by
  have m := mul_bd2 a b 8589934592 8589934592 a0 a1 b0 b1
  have r := rsh_near6 (a * b)
  unfold ml mlok
  generalize a * b = p at *
  generalize rsh p = q at *
  rw [sat_id6 q (by omega) (by omega), fx_id6 q (by omega) (by omega)]
  exact ⟨⟨4294967296 * q - p, by omega, by omega, by omega⟩, rfl, by omega, by omega⟩
theorem mp_e (a b c d : Int) (a0 : -8589934592 ≤ a) (a1 : a ≤ 8589934592) (b0 : -8589934592 ≤ b) (b1 : b ≤ 8589934592) (c0 : -8589934592 ≤ c) (c1 : c ≤ 8589934592) (d0 : -8589934592 ≤ d) (d1 : d ≤ 8589934592) :
    (∃ e, 4294967296 * mp a b c d = 2 * (a * b + c * d) + e ∧ -8589934592 ≤ e ∧ e ≤ 8589934592) ∧ mpk a b c d = true ∧ -68719476740 ≤ mp a b c d ∧ mp a b c d ≤ 68719476740 := by
  obtain ⟨⟨e, h1, h2, h3⟩, h4, h5, h6⟩ := ml_e a b a0 a1 b0 b1
  obtain ⟨⟨f, g1, g2, g3⟩, g4, g5, g6⟩ := ml_e c d c0 c1 d0 d1
  unfold mp mpk tw
  rw [h4, g4]
  generalize ml a b = p at *
  generalize ml c d = q at *
  rw [sat_id6 (p + q) (by omega) (by omega), fx_id6 (p + q) (by omega) (by omega), sat_id6 (p + q + (p + q)) (by omega) (by omega), fx_id6 (p + q + (p + q)) (by omega) (by omega)]
  exact ⟨⟨2 * e + 2 * f, by omega, by omega, by omega⟩, rfl, by omega, by omega⟩
theorem mn_e (a b c d : Int) (a0 : -8589934592 ≤ a) (a1 : a ≤ 8589934592) (b0 : -8589934592 ≤ b) (b1 : b ≤ 8589934592) (c0 : -8589934592 ≤ c) (c1 : c ≤ 8589934592) (d0 : -8589934592 ≤ d) (d1 : d ≤ 8589934592) :
    (∃ e, 4294967296 * mn a b c d = 2 * (a * b - c * d) + e ∧ -8589934592 ≤ e ∧ e ≤ 8589934592) ∧ mnk a b c d = true ∧ -68719476740 ≤ mn a b c d ∧ mn a b c d ≤ 68719476740 := by
  obtain ⟨⟨e, h1, h2, h3⟩, h4, h5, h6⟩ := ml_e a b a0 a1 b0 b1
  obtain ⟨⟨f, g1, g2, g3⟩, g4, g5, g6⟩ := ml_e c d c0 c1 d0 d1
  unfold mn mnk tw
  rw [h4, g4]
  generalize ml a b = p at *
  generalize ml c d = q at *
  rw [sat_id6 (p - q) (by omega) (by omega), fx_id6 (p - q) (by omega) (by omega), sat_id6 (p - q + (p - q)) (by omega) (by omega), fx_id6 (p - q + (p - q)) (by omega) (by omega)]
  exact ⟨⟨2 * e - 2 * f, by omega, by omega, by omega⟩, rfl, by omega, by omega⟩
theorem mo_e (a b : Int) (a0 : -8589934592 ≤ a) (a1 : a ≤ 8589934592) (b0 : -8589934592 ≤ b) (b1 : b ≤ 8589934592) :
    (∃ e, 4294967296 * mo a b = 18446744073709551616 - 2 * (a * a + b * b) + e ∧ -8589934592 ≤ e ∧ e ≤ 8589934592) ∧ mok a b = true ∧ -73014444036 ≤ mo a b ∧ mo a b ≤ 73014444036 := by
  obtain ⟨⟨e, h1, h2, h3⟩, h4, h5, h6⟩ := mp_e a a b b a0 a1 a0 a1 b0 b1 b0 b1
  unfold mo mok
  rw [h4]
  generalize mp a a b b = p at *
  rw [sat_id6 (4294967296 - p) (by omega) (by omega), fx_id6 (4294967296 - p) (by omega) (by omega)]
  exact ⟨⟨-e, by omega, by omega, by omega⟩, rfl, by omega, by omega⟩
/-- A row on a vector. -/
theorem dt_e (r0 r1 r2 v0 v1 v2 : Int) (a0 : -73014444036 ≤ r0 ∧ r0 ≤ 73014444036) (a1 : -73014444036 ≤ r1 ∧ r1 ≤ 73014444036) (a2 : -73014444036 ≤ r2 ∧ r2 ≤ 73014444036)
    (b0 : -70368744177664 ≤ v0 ∧ v0 ≤ 70368744177664) (b1 : -70368744177664 ≤ v1 ∧ v1 ≤ 70368744177664) (b2 : -70368744177664 ≤ v2 ∧ v2 ≤ 70368744177664) :
    (∃ e, 4294967296 * dt r0 r1 r2 v0 v1 v2 = r0 * v0 + r1 * v1 + r2 * v2 + e ∧ -6442450944 ≤ e ∧ e ≤ 6442450944) ∧ dtok r0 r1 r2 v0 v1 v2 = true := by
  have m0 := mul_bd2 r0 v0 73014444036 70368744177664 a0.1 a0.2 b0.1 b0.2
  have m1 := mul_bd2 r1 v1 73014444036 70368744177664 a1.1 a1.2 b1.1 b1.2
  have m2 := mul_bd2 r2 v2 73014444036 70368744177664 a2.1 a2.2 b2.1 b2.2
  have n0 := rsh_near6 (r0 * v0)
  have n1 := rsh_near6 (r1 * v1)
  have n2 := rsh_near6 (r2 * v2)
  unfold dt dtok
  generalize r0 * v0 = p0 at *
  generalize r1 * v1 = p1 at *
  generalize r2 * v2 = p2 at *
  generalize rsh p0 = q0 at *
  generalize rsh p1 = q1 at *
  generalize rsh p2 = q2 at *
  rw [fx_id6 q0 (by omega) (by omega), fx_id6 q1 (by omega) (by omega), fx_id6 q2 (by omega) (by omega), sat_id6 q0 (by omega) (by omega), sat_id6 q1 (by omega) (by omega), sat_id6 q2 (by omega) (by omega),
    fx_id6 (q0 + q1) (by omega) (by omega), sat_id6 (q0 + q1) (by omega) (by omega), fx_id6 (q0 + q1 + q2) (by omega) (by omega), sat_id6 (q0 + q1 + q2) (by omega) (by omega)]
  exact ⟨⟨4294967296 * (q0 + q1 + q2) - (p0 + p1 + p2), by omega, by omega, by omega⟩, rfl⟩
end
section
theorem row_e (R0 R1 R2 r0 r1 r2 v0 v1 v2 t e0 e1 e2 f N : Int) (h0 : 4294967296 * r0 = R0 + e0) (h1 : 4294967296 * r1 = R1 + e1) (h2 : 4294967296 * r2 = R2 + e2)
    (a0 : -8589934592 ≤ e0 ∧ e0 ≤ 8589934592) (a1 : -8589934592 ≤ e1 ∧ e1 ≤ 8589934592) (a2 : -8589934592 ≤ e2 ∧ e2 ≤ 8589934592)
    (b0 : -N ≤ v0 ∧ v0 ≤ N) (b1 : -N ≤ v1 ∧ v1 ≤ N) (b2 : -N ≤ v2 ∧ v2 ≤ N) (ht : 4294967296 * t = r0 * v0 + r1 * v1 + r2 * v2 + f) (hf : -6442450944 ≤ f ∧ f ≤ 6442450944) :
    ∃ d, 18446744073709551616 * t = R0 * v0 + R1 * v1 + R2 * v2 + d ∧ -(25769803776 * N + 27670116110564327424) ≤ d ∧ d ≤ 25769803776 * N + 27670116110564327424 := by
  have m0 := mul_bd2 e0 v0 8589934592 N a0.1 a0.2 b0.1 b0.2
  have m1 := mul_bd2 e1 v1 8589934592 N a1.1 a1.2 b1.1 b1.2
  have m2 := mul_bd2 e2 v2 8589934592 N a2.1 a2.2 b2.1 b2.2
  refine ⟨e0 * v0 + e1 * v1 + e2 * v2 + 4294967296 * f, ?_, by omega, by omega⟩
  have g : 18446744073709551616 * t = (4294967296 * r0) * v0 + (4294967296 * r1) * v1 + (4294967296 * r2) * v2 + 4294967296 * f := by grind
  rw [g, h0, h1, h2]; grind
theorem kp_q (V Q l T0 T1 T2 d0 d1 d2 t0 t1 t2 E C : Int) (hE0 : -34359738368 ≤ E) (hE1 : E ≤ 34359738368) (hC0 : 0 ≤ C) (hC : C ≤ (E + 18446744073709551616) * V) (hV0 : 0 ≤ V)
    (hT : T0 * T0 + T1 * T1 + T2 * T2 = 340282366920938463463374607431768211456 * V + 4 * E * C) (h0 : 18446744073709551616 * t0 = T0 + d0) (h1 : 18446744073709551616 * t1 = T1 + d1) (h2 : 18446744073709551616 * t2 = T2 + d2)
    (a0 : -113373689077018904231936 ≤ d0 ∧ d0 ≤ 113373689077018904231936) (a1 : -113373689077018904231936 ≤ d1 ∧ d1 ≤ 113373689077018904231936) (a2 : -113373689077018904231936 ≤ d2 ∧ d2 ≤ 113373689077018904231936) (hl : 0 ≤ l) (hV : V < (l + 1) * (l + 1)) (hQ : Q = t0 * t0 + t1 * t1 + t2 * t2) :
    (67108864 * (Q - V) ≤ V + 67108864 * (73752 * (l + 1) + 113319948) ∧ -(V + 67108864 * (73752 * (l + 1) + 113319948)) ≤ 67108864 * (Q - V)) ∧
      (-(36893488147419103232 * (l + 1)) ≤ T0 ∧ T0 ≤ 36893488147419103232 * (l + 1)) ∧ (-(36893488147419103232 * (l + 1)) ≤ T1 ∧ T1 ≤ 36893488147419103232 * (l + 1)) ∧ (-(36893488147419103232 * (l + 1)) ≤ T2 ∧ T2 ≤ 36893488147419103232 * (l + 1)) := by
  -- what the square of the attitude does
  have c1 : C ≤ 18446744108069289984 * V := Int.le_trans hC (Int.mul_le_mul_of_nonneg_right (by omega) hV0)
  have c2 := mul_bd2 E C 34359738368 C hE0 hE1 (by omega) (by omega)
  have c3 : 4 * E * C = 4 * (E * C) := by grind
  generalize 4 * E * C = X at *
  have s0 := sq_nn6 T0
  have s1 := sq_nn6 T1
  have s2 := sq_nn6 T2
  have hl2 : (36893488147419103232 * (l + 1) + 1) * (36893488147419103232 * (l + 1) + 1) = 1361129467683753853853498429727072845824 * ((l + 1) * (l + 1)) + 73786976294838206464 * (l + 1) + 1 := by grind
  have b0 := abs_of_sq T0 (36893488147419103232 * (l + 1)) (by omega) (by omega)
  have b1 := abs_of_sq T1 (36893488147419103232 * (l + 1)) (by omega) (by omega)
  have b2 := abs_of_sq T2 (36893488147419103232 * (l + 1)) (by omega) (by omega)
  refine ⟨?_, b0, b1, b2⟩
  have p0 := mul_bd2 T0 d0 (36893488147419103232 * (l + 1)) 113373689077018904231936 b0.1 b0.2 a0.1 a0.2
  have p1 := mul_bd2 T1 d1 (36893488147419103232 * (l + 1)) 113373689077018904231936 b1.1 b1.2 a1.1 a1.2
  have p2 := mul_bd2 T2 d2 (36893488147419103232 * (l + 1)) 113373689077018904231936 b2.1 b2.2 a2.1 a2.2
  have q0 := mul_bd2 d0 d0 113373689077018904231936 113373689077018904231936 a0.1 a0.2 a0.1 a0.2
  have q1 := mul_bd2 d1 d1 113373689077018904231936 113373689077018904231936 a1.1 a1.2 a1.1 a1.2
  have q2 := mul_bd2 d2 d2 113373689077018904231936 113373689077018904231936 a2.1 a2.2 a2.1 a2.2
  have n0 := sq_nn6 d0
  have n1 := sq_nn6 d1
  have n2 := sq_nn6 d2
  have e : 340282366920938463463374607431768211456 * Q = (T0 * T0 + T1 * T1 + T2 * T2) + 2 * (T0 * d0) + 2 * (T1 * d1) + 2 * (T2 * d2) + d0 * d0 + d1 * d1 + d2 * d2 := by
    have g0 : 340282366920938463463374607431768211456 * (t0 * t0) = (T0 + d0) * (T0 + d0) := by rw [← h0]; grind
    have g1 : 340282366920938463463374607431768211456 * (t1 * t1) = (T1 + d1) * (T1 + d1) := by rw [← h1]; grind
    have g2 : 340282366920938463463374607431768211456 * (t2 * t2) = (T2 + d2) * (T2 + d2) := by rw [← h2]; grind
    have g : 340282366920938463463374607431768211456 * Q = 340282366920938463463374607431768211456 * (t0 * t0) + 340282366920938463463374607431768211456 * (t1 * t1) + 340282366920938463463374607431768211456 * (t2 * t2) := by rw [hQ]; grind
    rw [g, g0, g1, g2]; grind
  rw [hT] at e
  generalize T0 * d0 = x0 at *
  generalize T1 * d1 = x1 at *
  generalize T2 * d2 = x2 at *
  generalize d0 * d0 = y0 at *
  generalize d1 * d1 = y1 at *
  generalize d2 * d2 = y2 at *
  generalize E * C = EC at *
  constructor <;> omega
theorem kp_fin (V Q l m : Int) (hl : 0 ≤ l) (hm : 0 ≤ m) (hV0 : l * l ≤ V) (hV : V < (l + 1) * (l + 1)) (hQ0 : m * m ≤ Q) (hQ : Q < (m + 1) * (m + 1)) (hN : V ≤ 58028439341502200385896448)
    (h1 : 67108864 * (Q - V) ≤ V + 67108864 * (73752 * (l + 1) + 113319948)) (h2 : -(V + 67108864 * (73752 * (l + 1) + 113319948)) ≤ 67108864 * (Q - V)) :
    -262144 < m - l ∧ m - l < 262144 := by
  have hl1 : l < 8796093022208 := by
    rcases Int.lt_or_le l 8796093022208 with h | h
    · exact h
    · have := Int.mul_le_mul (a := 8796093022208) (b := 8796093022208) (c := l) (d := l) h h (by omega) hl; omega
  have w1 : (l + 1) * (l + 1) ≤ 8796093022208 * (l + 1) := Int.mul_le_mul_of_nonneg_right (by omega) (by omega)
  constructor
  · rcases Int.lt_or_le (-262144) (m - l) with h | h
    · exact h
    · exfalso
      have u1 : (m + 1) * (m + 1) ≤ (l - 262143) * (l - 262143) := Int.mul_le_mul (by omega) (by omega) (by omega) (by omega)
      have u2 : (l - 262143) * (l - 262143) = l * l - 524286 * l + 68718952449 := by grind
      have u3 : (l + 1) * (l + 1) = l * l + 2 * l + 1 := by grind
      omega
  · rcases Int.lt_or_le (m - l) 262144 with h | h
    · exact h
    · exfalso
      have u1 : (l + 262144) * (l + 262144) ≤ m * m := Int.mul_le_mul (by omega) (by omega) (by omega) (by omega)
      have u2 : (l + 262144) * (l + 262144) = l * l + 524288 * l + 68719476736 := by grind
      have u3 : (l + 1) * (l + 1) = l * l + 2 * l + 1 := by grind
      omega
end
section
theorem rdiv_err6 (a n : Int) (hn : 0 < n) : -n ≤ 2 * (rdiv a n * n - a) ∧ 2 * (rdiv a n * n - a) ≤ n := by
  unfold rdiv
  have hD : (n.natAbs : Int) = n := by omega
  rw [hD, decide_eq_false (show ¬ n < 0 by omega)]
  have key : ∀ m : Int, 0 ≤ m → -n ≤ 2 * (qn m n * n - m) ∧ 2 * (qn m n * n - m) ≤ n := by
    intro m _
    have e := Int.mul_ediv_add_emod m n
    have r0 := Int.emod_nonneg m (Int.ne_of_gt hn)
    have r1 := Int.emod_lt_of_pos m hn
    rw [Int.mul_comm] at e
    unfold qn
    split
    · rw [Int.add_mul, Int.one_mul]
      generalize m / n * n = p at *
      generalize m % n = r at *
      omega
    · generalize m / n * n = p at *
      generalize m % n = r at *
      omega
  rcases Int.lt_or_le a 0 with h | h
  · rw [decide_eq_true h, if_pos (by decide)]
    have k := key (a.natAbs : Int) (by omega)
    rw [Int.neg_mul]
    generalize qn (a.natAbs : Int) n * n = p at *
    omega
  · rw [decide_eq_false (show ¬ a < 0 by omega), if_neg (by decide)]
    have k := key (a.natAbs : Int) (by omega)
    generalize qn (a.natAbs : Int) n * n = p at *
    omega
theorem rt_at_least6 (c T : Int) (h0 : 0 ≤ c) (h : c * c ≤ T) : c ≤ rt T := by
  have hT : 0 ≤ T := by have := Int.mul_nonneg h0 h0; omega
  have h1 := rt_gt T hT
  have h2 := rt_nonneg T
  rcases Int.lt_or_le (rt T) c with h3 | h3
  · have := Int.mul_le_mul (a := rt T + 1) (b := rt T + 1) (c := c) (d := c) (by omega) (by omega) (by omega) h0; omega
  · exact h3
theorem ln_fits6 (S : Int) (h0 : 0 ≤ S) (h1 : S ≤ 85070591730234615847396907784232501248) : lnok S = true ∧ ln S = rt S := by
  have h2 : rt S ≤ 9223372036854775807 := by
    have e1 := rt_le S h0
    rcases Int.lt_or_le 9223372036854775807 (rt S) with h3 | h3
    · have := Int.mul_le_mul (a := 9223372036854775808) (b := 9223372036854775808) (c := rt S) (d := rt S) (by omega) (by omega) (by omega) (by omega); omega
    · exact h3
  have h3 : lnok S = true := by unfold lnok fw; simp; omega
  exact ⟨h3, by unfold ln; rw [h3]; rfl⟩
/-- One part, made one. -/
theorem un_part (x n : Int) (hn : 3037000499 ≤ n) (a0 : -n ≤ x) (a1 : x ≤ n) :
    (-n ≤ 2 * (fq x n * n - x * 4294967296) ∧ 2 * (fq x n * n - x * 4294967296) ≤ n) ∧ -4294967297 ≤ fq x n ∧ fq x n ≤ 4294967297 := by
  have r := rdiv_err6 (x * 4294967296) n (by omega)
  unfold fq
  rw [if_neg (by omega)]
  generalize rdiv (x * 4294967296) n = u at *
  have b0 : -4294967297 ≤ u := by
    rcases Int.lt_or_le u (-4294967297) with h | h
    · have := Int.mul_le_mul_of_nonneg_right (c := n) (show u ≤ -4294967298 by omega) (by omega); omega
    · exact h
  have b1 : u ≤ 4294967297 := by
    rcases Int.lt_or_le 4294967297 u with h | h
    · have := Int.mul_le_mul_of_nonneg_right (c := n) (show 4294967298 ≤ u by omega) (by omega); omega
    · exact h
  rw [sat_id6 u (by omega) (by omega)]
  exact ⟨r, b0, b1⟩
theorem un_all (x0 x1 x2 x3 W : Int) (hW : 0 ≤ W) (hWW : W * W = x0 * x0) (hA : lnok (x1 * x1 + x2 * x2 + x3 * x3) = true)
    (h5 : 4294967296 ≤ ln (x1 * x1 + x2 * x2 + x3 * x3) + W) (h6 : ln (x1 * x1 + x2 * x2 + x3 * x3) + W ≤ 1099511627776) :
    ∃ u0 u1 u2 u3 : Int, uw x0 (ln (x0 * x0 + x1 * x1 + x2 * x2 + x3 * x3)) = u0 ∧ uq x1 (ln (x0 * x0 + x1 * x1 + x2 * x2 + x3 * x3)) = u1 ∧ uq x2 (ln (x0 * x0 + x1 * x1 + x2 * x2 + x3 * x3)) = u2 ∧ uq x3 (ln (x0 * x0 + x1 * x1 + x2 * x2 + x3 * x3)) = u3 ∧
      (-4294967297 ≤ u0 ∧ u0 ≤ 4294967297) ∧ (-4294967297 ≤ u1 ∧ u1 ≤ 4294967297) ∧ (-4294967297 ≤ u2 ∧ u2 ≤ 4294967297) ∧ (-4294967297 ≤ u3 ∧ u3 ≤ 4294967297) ∧
      -34359738368 ≤ u0 * u0 + u1 * u1 + u2 * u2 + u3 * u3 - 18446744073709551616 ∧ u0 * u0 + u1 * u1 + u2 * u2 + u3 * u3 - 18446744073709551616 ≤ 34359738368 := by
  have s0 := sq_nn6 x0
  have s1 := sq_nn6 x1
  have s2 := sq_nn6 x2
  have s3 := sq_nn6 x3
  have hL : ln (x1 * x1 + x2 * x2 + x3 * x3) = rt (x1 * x1 + x2 * x2 + x3 * x3) := by unfold ln; rw [hA]; rfl
  rw [hL] at h5 h6
  have l0 := rt_nonneg (x1 * x1 + x2 * x2 + x3 * x3)
  have l1 := rt_le (x1 * x1 + x2 * x2 + x3 * x3) (by omega)
  have l2 := rt_gt (x1 * x1 + x2 * x2 + x3 * x3) (by omega)
  have n0 := rt_nonneg (x0 * x0 + x1 * x1 + x2 * x2 + x3 * x3)
  have n1 := rt_le (x0 * x0 + x1 * x1 + x2 * x2 + x3 * x3) (by omega)
  have n2 := rt_gt (x0 * x0 + x1 * x1 + x2 * x2 + x3 * x3) (by omega)
  obtain ⟨N0, N1⟩ := un_n _ W _ (x0 * x0 + x1 * x1 + x2 * x2 + x3 * x3) _ l0 hW l1 (by omega) (by omega) n0 n1 (by omega) h5 h6
  have hS : x0 * x0 + x1 * x1 + x2 * x2 + x3 * x3 < 1099511627777 * 1099511627777 := by
    have := Int.mul_le_mul (a := rt (x0 * x0 + x1 * x1 + x2 * x2 + x3 * x3) + 1) (b := rt (x0 * x0 + x1 * x1 + x2 * x2 + x3 * x3) + 1) (c := 1099511627777) (d := 1099511627777) (by omega) (by omega) (by omega) (by omega)
    omega
  obtain ⟨f1, f2⟩ := ln_fits6 (x0 * x0 + x1 * x1 + x2 * x2 + x3 * x3) (by omega) (by omega)
  rw [f2]
  generalize rt (x0 * x0 + x1 * x1 + x2 * x2 + x3 * x3) = n at *
  have hn : n ≠ 0 := by omega
  obtain ⟨a0, a1⟩ := abs_of_sq x0 n n0 (by omega)
  obtain ⟨b0, b1⟩ := abs_of_sq x1 n n0 (by omega)
  obtain ⟨c0, c1⟩ := abs_of_sq x2 n n0 (by omega)
  obtain ⟨d0, d1⟩ := abs_of_sq x3 n n0 (by omega)
  obtain ⟨p0, q0⟩ := un_part x0 n N0 a0 a1
  obtain ⟨p1, q1⟩ := un_part x1 n N0 b0 b1
  obtain ⟨p2, q2⟩ := un_part x2 n N0 c0 c1
  obtain ⟨p3, q3⟩ := un_part x3 n N0 d0 d1
  obtain ⟨r0, r1⟩ := un_s x0 x1 x2 x3 _ _ _ _ n N0 n1 (by omega) p0 p1 p2 p3
  exact ⟨fq x0 n, fq x1 n, fq x2 n, fq x3 n, uw_no _ _ hn, uq_no _ _ hn, uq_no _ _ hn, uq_no _ _ hn, q0, q1, q2, q3, r0, r1⟩
end
section
set_option maxHeartbeats 2000000 in
theorem kp_all (w x y z a b c : Int) (hw : -4294967297 ≤ w ∧ w ≤ 4294967297) (hx : -4294967297 ≤ x ∧ x ≤ 4294967297) (hy : -4294967297 ≤ y ∧ y ≤ 4294967297) (hz : -4294967297 ≤ z ∧ z ≤ 4294967297) (hE0 : -34359738368 ≤ w * w + x * x + y * y + z * z - 18446744073709551616) (hE1 : w * w + x * x + y * y + z * z - 18446744073709551616 ≤ 34359738368) (ha : -4398046511104 ≤ a ∧ a ≤ 4398046511104) (hb : -4398046511104 ≤ b ∧ b ≤ 4398046511104) (hc : -4398046511104 ≤ c ∧ c ≤ 4398046511104) :
    ∃ r0 r1 r2 r3 r4 r5 r6 r7 r8 t0 t1 t2 : Int, (mo y z = r0 ∧ mn x y w z = r1 ∧ mp x z w y = r2 ∧ mp x y w z = r3 ∧ mo x z = r4 ∧ mn y z w x = r5 ∧ mn x z w y = r6 ∧ mp y z w x = r7 ∧ mo x y = r8) ∧ (mok y z = true ∧ mnk x y w z = true ∧ mpk x z w y = true ∧ mpk x y w z = true ∧ mok x z = true ∧ mnk y z w x = true ∧ mnk x z w y = true ∧ mpk y z w x = true ∧ mok x y = true) ∧ ((-73014444036 ≤ r0 ∧ r0 ≤ 73014444036) ∧ (-73014444036 ≤ r1 ∧ r1 ≤ 73014444036) ∧ (-73014444036 ≤ r2 ∧ r2 ≤ 73014444036) ∧ (-73014444036 ≤ r3 ∧ r3 ≤ 73014444036) ∧ (-73014444036 ≤ r4 ∧ r4 ≤ 73014444036) ∧ (-73014444036 ≤ r5 ∧ r5 ≤ 73014444036) ∧ (-73014444036 ≤ r6 ∧ r6 ≤ 73014444036) ∧ (-73014444036 ≤ r7 ∧ r7 ≤ 73014444036) ∧ (-73014444036 ≤ r8 ∧ r8 ≤ 73014444036)) ∧
      (dt r0 r1 r2 a b c = t0 ∧ dt r3 r4 r5 a b c = t1 ∧ dt r6 r7 r8 a b c = t2) ∧ (dtok r0 r1 r2 a b c = true ∧ dtok r3 r4 r5 a b c = true ∧ dtok r6 r7 r8 a b c = true) ∧
      (lnok (a * a + b * b + c * c) = true ∧ lnok (t0 * t0 + t1 * t1 + t2 * t2) = true) ∧
      -262144 < ln (t0 * t0 + t1 * t1 + t2 * t2) - ln (a * a + b * b + c * c) ∧ ln (t0 * t0 + t1 * t1 + t2 * t2) - ln (a * a + b * b + c * c) < 262144 := by
  obtain ⟨⟨e0, g0, k0, m0⟩, f0, l0, u0⟩ := mo_e y z (by omega) (by omega) (by omega) (by omega)
  obtain ⟨⟨e1, g1, k1, m1⟩, f1, l1, u1⟩ := mn_e x y w z (by omega) (by omega) (by omega) (by omega) (by omega) (by omega) (by omega) (by omega)
  obtain ⟨⟨e2, g2, k2, m2⟩, f2, l2, u2⟩ := mp_e x z w y (by omega) (by omega) (by omega) (by omega) (by omega) (by omega) (by omega) (by omega)
  obtain ⟨⟨e3, g3, k3, m3⟩, f3, l3, u3⟩ := mp_e x y w z (by omega) (by omega) (by omega) (by omega) (by omega) (by omega) (by omega) (by omega)
  obtain ⟨⟨e4, g4, k4, m4⟩, f4, l4, u4⟩ := mo_e x z (by omega) (by omega) (by omega) (by omega)
  obtain ⟨⟨e5, g5, k5, m5⟩, f5, l5, u5⟩ := mn_e y z w x (by omega) (by omega) (by omega) (by omega) (by omega) (by omega) (by omega) (by omega)
  obtain ⟨⟨e6, g6, k6, m6⟩, f6, l6, u6⟩ := mn_e x z w y (by omega) (by omega) (by omega) (by omega) (by omega) (by omega) (by omega) (by omega)
  obtain ⟨⟨e7, g7, k7, m7⟩, f7, l7, u7⟩ := mp_e y z w x (by omega) (by omega) (by omega) (by omega) (by omega) (by omega) (by omega) (by omega)
  obtain ⟨⟨e8, g8, k8, m8⟩, f8, l8, u8⟩ := mo_e x y (by omega) (by omega) (by omega) (by omega)
  generalize mo y z = r0 at *
  generalize mn x y w z = r1 at *
  generalize mp x z w y = r2 at *
  generalize mp x y w z = r3 at *
  generalize mo x z = r4 at *
  generalize mn y z w x = r5 at *
  generalize mn x z w y = r6 at *
  generalize mp y z w x = r7 at *
  generalize mo x y = r8 at *
  obtain ⟨⟨o0, p0, q0, s0⟩, d0⟩ := dt_e r0 r1 r2 a b c ⟨by omega, by omega⟩ ⟨by omega, by omega⟩ ⟨by omega, by omega⟩ ⟨by omega, by omega⟩ ⟨by omega, by omega⟩ ⟨by omega, by omega⟩
  obtain ⟨⟨o1, p1, q1, s1⟩, d1⟩ := dt_e r3 r4 r5 a b c ⟨by omega, by omega⟩ ⟨by omega, by omega⟩ ⟨by omega, by omega⟩ ⟨by omega, by omega⟩ ⟨by omega, by omega⟩ ⟨by omega, by omega⟩
  obtain ⟨⟨o2, p2, q2, s2⟩, d2⟩ := dt_e r6 r7 r8 a b c ⟨by omega, by omega⟩ ⟨by omega, by omega⟩ ⟨by omega, by omega⟩ ⟨by omega, by omega⟩ ⟨by omega, by omega⟩ ⟨by omega, by omega⟩
  generalize ht0 : dt r0 r1 r2 a b c = t0 at *
  obtain ⟨c0, x0, y0, z0⟩ := row_e (18446744073709551616 - 2 * (y * y + z * z)) (2 * (x * y - w * z)) (2 * (x * z + w * y)) r0 r1 r2 a b c t0 e0 e1 e2 o0 4398046511104 g0 g1 g2 ⟨k0, m0⟩ ⟨k1, m1⟩ ⟨k2, m2⟩ ha hb hc p0 ⟨q0, s0⟩
  generalize ht1 : dt r3 r4 r5 a b c = t1 at *
  obtain ⟨c1, x1, y1, z1⟩ := row_e (2 * (x * y + w * z)) (18446744073709551616 - 2 * (x * x + z * z)) (2 * (y * z - w * x)) r3 r4 r5 a b c t1 e3 e4 e5 o1 4398046511104 g3 g4 g5 ⟨k3, m3⟩ ⟨k4, m4⟩ ⟨k5, m5⟩ ha hb hc p1 ⟨q1, s1⟩
  generalize ht2 : dt r6 r7 r8 a b c = t2 at *
  obtain ⟨c2, x2, y2, z2⟩ := row_e (2 * (x * z - w * y)) (2 * (y * z + w * x)) (18446744073709551616 - 2 * (x * x + y * y)) r6 r7 r8 a b c t2 e6 e7 e8 o2 4398046511104 g6 g7 g8 ⟨k6, m6⟩ ⟨k7, m7⟩ ⟨k8, m8⟩ ha hb hc p2 ⟨q2, s2⟩
  have sa := sq_nn6 a
  have sb := sq_nn6 b
  have sc := sq_nn6 c
  have ba := mul_bd2 a a 4398046511104 4398046511104 ha.1 ha.2 ha.1 ha.2
  have bb := mul_bd2 b b 4398046511104 4398046511104 hb.1 hb.2 hb.1 hb.2
  have bc := mul_bd2 c c 4398046511104 4398046511104 hc.1 hc.2 hc.1 hc.2
  have id := turn_sq 18446744073709551616 w x y z a b c
  have hC0 : 0 ≤ (y * c - z * b) * (y * c - z * b) + (z * a - x * c) * (z * a - x * c) + (x * b - y * a) * (x * b - y * a) := by
    have := sq_nn6 (y * c - z * b); have := sq_nn6 (z * a - x * c); have := sq_nn6 (x * b - y * a); omega
  have hC : (y * c - z * b) * (y * c - z * b) + (z * a - x * c) * (z * a - x * c) + (x * b - y * a) * (x * b - y * a) ≤ (w * w + x * x + y * y + z * z - 18446744073709551616 + 18446744073709551616) * (a * a + b * b + c * c) := by
    have e1 := sq_nn6 (x * a + y * b + z * c)
    have e2 : 0 ≤ (w * w) * (a * a + b * b + c * c) := Int.mul_nonneg (sq_nn6 w) (by omega)
    have e3 : (w * w + x * x + y * y + z * z - 18446744073709551616 + 18446744073709551616) * (a * a + b * b + c * c) = (w * w) * (a * a + b * b + c * c) + ((y * c - z * b) * (y * c - z * b) + (z * a - x * c) * (z * a - x * c) + (x * b - y * a) * (x * b - y * a)) + (x * a + y * b + z * c) * (x * a + y * b + z * c) := by grind
    omega
  have n0 := rt_nonneg (a * a + b * b + c * c)
  have n1 := rt_le (a * a + b * b + c * c) (by omega)
  have n2 := rt_gt (a * a + b * b + c * c) (by omega)
  have hT := id.trans (show _ = 18446744073709551616 * 18446744073709551616 * (a * a + b * b + c * c) + 4 * (w * w + x * x + y * y + z * z - 18446744073709551616) * ((y * c - z * b) * (y * c - z * b) + (z * a - x * c) * (z * a - x * c) + (x * b - y * a) * (x * b - y * a)) from rfl)
  obtain ⟨⟨h1, h2⟩, _⟩ := kp_q (a * a + b * b + c * c) (t0 * t0 + t1 * t1 + t2 * t2) (rt (a * a + b * b + c * c)) _ _ _ c0 c1 c2 t0 t1 t2 _ _ hE0 hE1 hC0 hC (by omega) hT x0 x1 x2 ⟨by omega, by omega⟩ ⟨by omega, by omega⟩ ⟨by omega, by omega⟩ n0 n2 rfl
  have st0 := sq_nn6 t0
  have st1 := sq_nn6 t1
  have st2 := sq_nn6 t2
  clear id hT hC hC0
  have hl : rt (a * a + b * b + c * c) < 8796093022208 := by
    rcases Int.lt_or_le (rt (a * a + b * b + c * c)) 8796093022208 with h | h
    · exact h
    · have := Int.mul_le_mul (a := 8796093022208) (b := 8796093022208) h h (by omega) n0; omega
  obtain ⟨v1, v2⟩ := ln_fits6 (a * a + b * b + c * c) (by omega) (by omega)
  obtain ⟨v3, v4⟩ := ln_fits6 (t0 * t0 + t1 * t1 + t2 * t2) (by omega) (by omega)
  have m0 := rt_nonneg (t0 * t0 + t1 * t1 + t2 * t2)
  have m1 := rt_le (t0 * t0 + t1 * t1 + t2 * t2) (by omega)
  have m2 := rt_gt (t0 * t0 + t1 * t1 + t2 * t2) (by omega)
  obtain ⟨w1, w2⟩ := kp_fin (a * a + b * b + c * c) (t0 * t0 + t1 * t1 + t2 * t2) _ _ n0 m0 n1 n2 m1 m2 (by omega) h1 h2
  refine ⟨r0, r1, r2, r3, r4, r5, r6, r7, r8, t0, t1, t2, ⟨rfl, rfl, rfl, rfl, rfl, rfl, rfl, rfl, rfl⟩, ⟨f0, f1, f2, f3, f4, f5, f6, f7, f8⟩, ⟨⟨by omega, by omega⟩, ⟨by omega, by omega⟩, ⟨by omega, by omega⟩, ⟨by omega, by omega⟩, ⟨by omega, by omega⟩, ⟨by omega, by omega⟩, ⟨by omega, by omega⟩, ⟨by omega, by omega⟩, ⟨by omega, by omega⟩⟩, ⟨ht0, ht1, ht2⟩, ⟨d0, d1, d2⟩, ⟨v1, v3⟩, ?_, ?_⟩
  · rw [v2, v4]; omega
  · rw [v2, v4]; omega
end
section
set_option linter.unusedVariables false
/-- What the law's unit attitude is like. -/
def unl6 (u0 u1 u2 u3 : Int) : Prop := (-4294967297 ≤ u0 ∧ u0 ≤ 4294967297) ∧ (-4294967297 ≤ u1 ∧ u1 ≤ 4294967297) ∧ (-4294967297 ≤ u2 ∧ u2 ≤ 4294967297) ∧ (-4294967297 ≤ u3 ∧ u3 ≤ 4294967297) ∧
  -34359738368 ≤ u0 * u0 + u1 * u1 + u2 * u2 + u3 * u3 - 18446744073709551616 ∧ u0 * u0 + u1 * u1 + u2 * u2 + u3 * u3 - 18446744073709551616 ≤ 34359738368
theorem un_case (x0 x1 x2 x3 : Int) (h0 : -9223372036854775808 ≤ x0) (h1 : x0 ≤ 9223372036854775807) (hA : lnok (x1 * x1 + x2 * x2 + x3 * x3) = true) (hw : fx (x0.natAbs : Int) = true)
    (hs : fx (ln (x1 * x1 + x2 * x2 + x3 * x3) + sat (x0.natAbs : Int)) = true) (h5 : 4294967296 ≤ sat (ln (x1 * x1 + x2 * x2 + x3 * x3) + sat (x0.natAbs : Int))) (h6 : sat (ln (x1 * x1 + x2 * x2 + x3 * x3) + sat (x0.natAbs : Int)) ≤ 1099511627776) :
    unl6 (uw x0 (ln (x0 * x0 + x1 * x1 + x2 * x2 + x3 * x3))) (uq x1 (ln (x0 * x0 + x1 * x1 + x2 * x2 + x3 * x3))) (uq x2 (ln (x0 * x0 + x1 * x1 + x2 * x2 + x3 * x3))) (uq x3 (ln (x0 * x0 + x1 * x1 + x2 * x2 + x3 * x3))) := by
  have e1 : sat (x0.natAbs : Int) = x0.natAbs := by
    unfold fx at hw; have := of_decide_eq_true hw; exact sat_id6 _ this.1 this.2
  rw [e1] at hs h5 h6
  have e2 : sat (ln (x1 * x1 + x2 * x2 + x3 * x3) + (x0.natAbs : Int)) = ln (x1 * x1 + x2 * x2 + x3 * x3) + x0.natAbs := by
    unfold fx at hs; have := of_decide_eq_true hs; exact sat_id6 _ this.1 this.2
  rw [e2] at h5 h6
  have hWW : (x0.natAbs : Int) * x0.natAbs = x0 * x0 := Int.natAbs_mul_self
  obtain ⟨u0, u1, u2, u3, a0, a1, a2, a3, h⟩ := un_all x0 x1 x2 x3 x0.natAbs (by omega) hWW hA h5 h6
  rw [a0, a1, a2, a3]
  exact h
set_option maxHeartbeats 8000000 in
set_option maxRecDepth 20000 in
theorem cUnit6 (x0 x1 x2 x3 : Int) (w : World) (x0_0 : -9223372036854775808 ≤ x0) (x0_1 : x0 ≤ 9223372036854775807) (x1_0 : -9223372036854775808 ≤ x1) (x1_1 : x1 ≤ 9223372036854775807) (x2_0 : -9223372036854775808 ≤ x2) (x2_1 : x2 ≤ 9223372036854775807) (x3_0 : -9223372036854775808 ≤ x3) (x3_1 : x3 ≤ 9223372036854775807) :
    Calls Try.prog 20 #[.agg #[.int .i64 x0, .int .i64 x1, .int .i64 x2, .int .i64 x3]] w fun e w' => ∃ (ok : Bool) (u0 u1 u2 u3 : Int), e = .returned (.tuple #[.agg #[.int .i64 u0, .int .i64 u1, .int .i64 u2, .int .i64 u3], .bool ok]) ∧ Below w.heap.size w w' ∧ (ok = true → unl6 u0 u1 u2 u3) := by
  have hu := un_case x0 x1 x2 x3 x0_0 x0_1
  have k1 := fun O W => cVLen x1 x2 x3 (w.heap.size + 1 + 1) O W x1_0 x1_1 x2_0 x2_1 x3_0 x3_1
  have k2 := fun O W => cFAbs x0 (w.heap.size + 1 + 1) O W x0_0 x0_1
  have k3 := fun O W => cFAdd (ln (x1 * x1 + x2 * x2 + x3 * x3)) (sat (x0.natAbs : Int)) (w.heap.size + 1 + 1) O W (by have := ln_lo (x1 * x1 + x2 * x2 + x3 * x3); omega) (ln_hi _) (sat_lo _) (sat_hi _)
  have k4 := fun O W => cUnit4 x0 x1 x2 x3 (w.heap.size + 1 + 1) O W x0_0 x0_1 x1_0 x1_1 x2_0 x2_1 x3_0 x3_1
  generalize sat (ln (x1 * x1 + x2 * x2 + x3 * x3) + sat (x0.natAbs : Int)) = n1 at *
  generalize fx (ln (x1 * x1 + x2 * x2 + x3 * x3) + sat (x0.natAbs : Int)) = g3 at *
  generalize sat (x0.natAbs : Int) = aw at *
  generalize fx (x0.natAbs : Int) = g2 at *
  generalize lnok (x1 * x1 + x2 * x2 + x3 * x3) = g1 at *
  generalize ln (x1 * x1 + x2 * x2 + x3 * x3) = l at *
  generalize uw x0 (ln (x0 * x0 + x1 * x1 + x2 * x2 + x3 * x3)) = u0 at *
  generalize uq x1 (ln (x0 * x0 + x1 * x1 + x2 * x2 + x3 * x3)) = u1 at *
  generalize uq x2 (ln (x0 * x0 + x1 * x1 + x2 * x2 + x3 * x3)) = u2 at *
  generalize uq x3 (ln (x0 * x0 + x1 * x1 + x2 * x2 + x3 * x3)) = u3 at *
  go_enter Try.func20, Try.ntmps20
  go_upto_region 3 with (fail)
  generalize hW : World.alloc _ _ = W1
  have R : Bk (w.heap.size + 1) 0 [.int .i64 0, .int .i64 0, .int .i64 0, .int .i64 0] W1 := by rw [← hW]; simp [Bk, go_sem]
  have c0 : W1.cell? ⟨w.heap.size, 0, none⟩ = some (.int .i64 x0) := by rw [← hW]; simp [go_sem]
  have c1 : W1.cell? ⟨w.heap.size, 1, none⟩ = some (.int .i64 x1) := by rw [← hW]; simp [go_sem]
  have c2 : W1.cell? ⟨w.heap.size, 2, none⟩ = some (.int .i64 x2) := by rw [← hW]; simp [go_sem]
  have c3 : W1.cell? ⟨w.heap.size, 3, none⟩ = some (.int .i64 x3) := by rw [← hW]; simp [go_sem]
  have c4 : W1.cell? ⟨w.heap.size + 1 + 1 + 1, 0, none⟩ = some (.int .i64 x1) := by rw [← hW]; simp [go_sem]
  have c5 : W1.cell? ⟨w.heap.size + 1 + 1 + 1, 1, none⟩ = some (.int .i64 x2) := by rw [← hW]; simp [go_sem]
  have c6 : W1.cell? ⟨w.heap.size + 1 + 1 + 1, 2, none⟩ = some (.int .i64 x3) := by rw [← hW]; simp [go_sem]
  have HM : Mv (w.heap.size + 1 + 1) false W1 W1 := by rw [← hW]; exact Mv.refl (by simp [go_sem]) (by simp [go_sem])
  have HB : Below w.heap.size w W1 := by rw [← hW]; (repeat (first | with_reducible assumption | with_reducible exact Below.refl _ _ | ((with_reducible refine Below.setCell ?_ ?_ _); rotate_left; (first | exact Nat.le_refl _ | (dsimp only; omega) | (simp; done) | (simp; omega))) | with_reducible refine below_alloc ?_ _ | with_reducible apply below_drewN | with_reducible apply Below.drew | with_reducible refine below_step ?_ (by assumption)))
  have hz : W1.heap.size = w.heap.size + 4 := by rw [← hW]; simp
  clear hW
  (try refine wp_region_noPanic ?_)
  refine wp_region_ssa (S := (fun (w' : World) => w'.cell? ⟨w.heap.size, 0, none⟩ = some (.int .i64 x0) ∧ w'.cell? ⟨w.heap.size, 1, none⟩ = some (.int .i64 x1) ∧ w'.cell? ⟨w.heap.size, 2, none⟩ = some (.int .i64 x2) ∧ w'.cell? ⟨w.heap.size, 3, none⟩ = some (.int .i64 x3) ∧ w'.cell? ⟨w.heap.size + 1 + 1 + 1, 0, none⟩ = some (.int .i64 x1) ∧ w'.cell? ⟨w.heap.size + 1 + 1 + 1, 1, none⟩ = some (.int .i64 x2) ∧ w'.cell? ⟨w.heap.size + 1 + 1 + 1, 2, none⟩ = some (.int .i64 x3))) (#[none, none, none, none, none, none, some 9, none, none, none, none, none, none, none, none, none, some 0, some 1, some 2, some 3, some 4, some 5, some 6, some 7, some 8] : Array (Option Nat)) (by kernel_rfl) (by kernel_rfl) (by kernel_rfl) ⟨(by first | (simp (maxDischargeDepth := 6) [go_sem, *]; done)), (by first | (simp (maxDischargeDepth := 6) [go_sem, *]; done)), (by first | (simp (maxDischargeDepth := 6) [go_sem, *]; done)), (by first | (simp (maxDischargeDepth := 6) [go_sem, *]; done)), (by first | (simp (maxDischargeDepth := 6) [go_sem, *]; done)), (by first | (simp (maxDischargeDepth := 6) [go_sem, *]; done)), (by first | (simp (maxDischargeDepth := 6) [go_sem, *]; done))⟩ (fun hSSA hHeld => ?_)
  refine wpAnyH_sl (n := 5) (l' := (#[true, true, true, false, true, true, false, false, false, false] : Array Bool)) [0, 1, 2, 4, 5] [some 16, some 17, some 18, some 20, some 21] hSSA (
    LvY.take (by rfl) (by intro w hSw; (try dsimp only at hSw); go_simp; try with_reducible rfl) <|
    LvY.take (by rfl) (by intro w hSw; (try dsimp only at hSw); go_simp; try with_reducible rfl) <|
    LvY.take (by rfl) (by intro w hSw; (try dsimp only at hSw); go_simp; try with_reducible rfl) <|
    LvY.skip <|
    LvY.take (by rfl) (by intro w hSw; (try dsimp only at hSw); go_simp; try with_reducible rfl) <|
    LvY.take (by rfl) (by intro w hSw; (try dsimp only at hSw); go_simp; try with_reducible rfl) <|
    LvY.skip <|
    LvY.skip <|
    LvY.skip <|
    LvY.skip <|
    LvY.nil) (by rfl) (by rfl) (by kernel_rfl) (fun _ _ _ _ _ h => h) (by kernel_rfl) (by kernel_rfl) (by kernel_rfl) (by assumption) ?_
  simp only [lvVs, putDs, Act.put, List.setIfInBounds_toArray, List.set_cons_zero, List.set_cons_succ]
  refine wpAnyH_sl (n := 4) (l' := (#[true, true, true, false, true, true, true, false, false, false] : Array Bool)) [6] [some 22] hSSA (
    LvY.skip <|
    LvY.skip <|
    LvY.skip <|
    LvY.skip <|
    LvY.skip <|
    LvY.skip <|
    LvY.take (by rfl) (by intro w hSw; (try dsimp only at hSw); go_simp; try with_reducible rfl) <|
    LvY.skip <|
    LvY.skip <|
    LvY.skip <|
    LvY.nil) (by rfl) (by rfl) (by kernel_rfl) (fun _ _ _ _ _ h => h) (by kernel_rfl) (by kernel_rfl) (by kernel_rfl) (by assumption) ?_
  simp only [lvVs, putDs, Act.put, List.setIfInBounds_toArray, List.set_cons_zero, List.set_cons_succ]
  have hOld := hHeld; clear hHeld
  refine wpAnyH_on (i := 3) (n := 3) (l' := (#[true, true, true, true, true, true, true, false, false, false] : Array Bool)) (by kernel_rfl) (by kernel_rfl) (by kernel_rfl) (by simp only [List.getElem?_toArray, List.getElem?_cons_succ, List.getElem?_cons_zero]; rfl) (by rfl) (fun K hK => ?_)
  go_simp
  (go_at_call 23; (with_reducible refine (mvCall (b := w.heap.size + 1 + 1) (w0 := W1) (by (repeat (first | with_reducible assumption | with_reducible exact Mv.refl (by assumption) (by assumption) | with_reducible apply Mv.alloc | with_reducible apply Mv.drew | with_reducible apply Mv.drewN | ((with_reducible apply Mv.setCell); rotate_left; (first | (dsimp only; omega) | omega | (simp; omega)); (first | (dsimp only; omega) | omega | (simp; omega))) | ((with_reducible apply Mv.below); rotate_left; (with_reducible assumption)) | ((with_reducible apply Mv.trans); rotate_left; (with_reducible assumption))))) (k1 _ _)).mono ?_); rintro e w1 ⟨rfl, hM, HM⟩)
  (try go_wp2_with (fail))
  refine hK.out _ _ ⟨(by first | exact mv_cell hM (by first | (dsimp only; omega) | (simp; omega)) hOld.1 | exact cell_later hM hOld.1 | exact HT.cb | exact HT.cc | (simp (maxDischargeDepth := 6) [go_sem, *]; done)), (by first | exact mv_cell hM (by first | (dsimp only; omega) | (simp; omega)) hOld.2.1 | exact cell_later hM hOld.2.1 | exact HT.cb | exact HT.cc | (simp (maxDischargeDepth := 6) [go_sem, *]; done)), (by first | exact mv_cell hM (by first | (dsimp only; omega) | (simp; omega)) hOld.2.2.1 | exact cell_later hM hOld.2.2.1 | exact HT.cb | exact HT.cc | (simp (maxDischargeDepth := 6) [go_sem, *]; done)), (by first | exact mv_cell hM (by first | (dsimp only; omega) | (simp; omega)) hOld.2.2.2.1 | exact cell_later hM hOld.2.2.2.1 | exact HT.cb | exact HT.cc | (simp (maxDischargeDepth := 6) [go_sem, *]; done)), (by first | exact mv_cell hM (by first | (dsimp only; omega) | (simp; omega)) hOld.2.2.2.2.1 | exact cell_later hM hOld.2.2.2.2.1 | exact HT.cb | exact HT.cc | (simp (maxDischargeDepth := 6) [go_sem, *]; done)), (by first | exact mv_cell hM (by first | (dsimp only; omega) | (simp; omega)) hOld.2.2.2.2.2.1 | exact cell_later hM hOld.2.2.2.2.2.1 | exact HT.cb | exact HT.cc | (simp (maxDischargeDepth := 6) [go_sem, *]; done)), (by first | exact mv_cell hM (by first | (dsimp only; omega) | (simp; omega)) hOld.2.2.2.2.2.2 | exact cell_later hM hOld.2.2.2.2.2.2 | exact HT.cb | exact HT.cc | (simp (maxDischargeDepth := 6) [go_sem, *]; done))⟩ (fun hHeld => ?_)
  clear hK K hOld
  try simp only [Act.put, List.setIfInBounds_toArray, List.set_cons_zero, List.set_cons_succ]
  (first | have R := Bk.mv hM (by omega) R | have R := Bk.mv hM (by omega) (Bk.drew R) | have R := Bk.mv hM (by omega) (Bk.drew (Bk.alloc R _))); clear hM
  have hOld := hHeld; clear hHeld
  refine wpAnyH_on (i := 7) (n := 2) (l' := (#[true, true, true, true, true, true, true, true, false, false] : Array Bool)) (by kernel_rfl) (by kernel_rfl) (by kernel_rfl) (by simp only [List.getElem?_toArray, List.getElem?_cons_succ, List.getElem?_cons_zero]; rfl) (by rfl) (fun K hK => ?_)
  go_simp
  (go_at_call 24; (with_reducible refine (mvCall (b := w.heap.size + 1 + 1) (w0 := W1) (by (repeat (first | with_reducible assumption | with_reducible exact Mv.refl (by assumption) (by assumption) | with_reducible apply Mv.alloc | with_reducible apply Mv.drew | with_reducible apply Mv.drewN | ((with_reducible apply Mv.setCell); rotate_left; (first | (dsimp only; omega) | omega | (simp; omega)); (first | (dsimp only; omega) | omega | (simp; omega))) | ((with_reducible apply Mv.below); rotate_left; (with_reducible assumption)) | ((with_reducible apply Mv.trans); rotate_left; (with_reducible assumption))))) (k2 _ _)).mono ?_); rintro e w1 ⟨rfl, hM, HM⟩)
  (try go_wp2_with (fail))
  refine hK.out _ _ ⟨(by first | exact mv_cell hM (by first | (dsimp only; omega) | (simp; omega)) hOld.1 | exact cell_later hM hOld.1 | exact HT.cb | exact HT.cc | (simp (maxDischargeDepth := 6) [go_sem, *]; done)), (by first | exact mv_cell hM (by first | (dsimp only; omega) | (simp; omega)) hOld.2.1 | exact cell_later hM hOld.2.1 | exact HT.cb | exact HT.cc | (simp (maxDischargeDepth := 6) [go_sem, *]; done)), (by first | exact mv_cell hM (by first | (dsimp only; omega) | (simp; omega)) hOld.2.2.1 | exact cell_later hM hOld.2.2.1 | exact HT.cb | exact HT.cc | (simp (maxDischargeDepth := 6) [go_sem, *]; done)), (by first | exact mv_cell hM (by first | (dsimp only; omega) | (simp; omega)) hOld.2.2.2.1 | exact cell_later hM hOld.2.2.2.1 | exact HT.cb | exact HT.cc | (simp (maxDischargeDepth := 6) [go_sem, *]; done)), (by first | exact mv_cell hM (by first | (dsimp only; omega) | (simp; omega)) hOld.2.2.2.2.1 | exact cell_later hM hOld.2.2.2.2.1 | exact HT.cb | exact HT.cc | (simp (maxDischargeDepth := 6) [go_sem, *]; done)), (by first | exact mv_cell hM (by first | (dsimp only; omega) | (simp; omega)) hOld.2.2.2.2.2.1 | exact cell_later hM hOld.2.2.2.2.2.1 | exact HT.cb | exact HT.cc | (simp (maxDischargeDepth := 6) [go_sem, *]; done)), (by first | exact mv_cell hM (by first | (dsimp only; omega) | (simp; omega)) hOld.2.2.2.2.2.2 | exact cell_later hM hOld.2.2.2.2.2.2 | exact HT.cb | exact HT.cc | (simp (maxDischargeDepth := 6) [go_sem, *]; done))⟩ (fun hHeld => ?_)
  clear hK K hOld
  try simp only [Act.put, List.setIfInBounds_toArray, List.set_cons_zero, List.set_cons_succ]
  (first | have R := Bk.mv hM (by omega) R | have R := Bk.mv hM (by omega) (Bk.drew R) | have R := Bk.mv hM (by omega) (Bk.drew (Bk.alloc R _))); clear hM
  have hOld := hHeld; clear hHeld
  refine wpAnyH_on (i := 8) (n := 1) (l' := (#[true, true, true, true, true, true, true, true, true, false] : Array Bool)) (by kernel_rfl) (by kernel_rfl) (by kernel_rfl) (by simp only [List.getElem?_toArray, List.getElem?_cons_succ, List.getElem?_cons_zero]; rfl) (by rfl) (fun K hK => ?_)
  go_simp
  (go_at_call 31; (with_reducible refine (mvCall (b := w.heap.size + 1 + 1) (w0 := W1) (by (repeat (first | with_reducible assumption | with_reducible exact Mv.refl (by assumption) (by assumption) | with_reducible apply Mv.alloc | with_reducible apply Mv.drew | with_reducible apply Mv.drewN | ((with_reducible apply Mv.setCell); rotate_left; (first | (dsimp only; omega) | omega | (simp; omega)); (first | (dsimp only; omega) | omega | (simp; omega))) | ((with_reducible apply Mv.below); rotate_left; (with_reducible assumption)) | ((with_reducible apply Mv.trans); rotate_left; (with_reducible assumption))))) (k3 _ _)).mono ?_); rintro e w1 ⟨rfl, hM, HM⟩)
  (try go_wp2_with (fail))
  refine hK.out _ _ ⟨(by first | exact mv_cell hM (by first | (dsimp only; omega) | (simp; omega)) hOld.1 | exact cell_later hM hOld.1 | exact HT.cb | exact HT.cc | (simp (maxDischargeDepth := 6) [go_sem, *]; done)), (by first | exact mv_cell hM (by first | (dsimp only; omega) | (simp; omega)) hOld.2.1 | exact cell_later hM hOld.2.1 | exact HT.cb | exact HT.cc | (simp (maxDischargeDepth := 6) [go_sem, *]; done)), (by first | exact mv_cell hM (by first | (dsimp only; omega) | (simp; omega)) hOld.2.2.1 | exact cell_later hM hOld.2.2.1 | exact HT.cb | exact HT.cc | (simp (maxDischargeDepth := 6) [go_sem, *]; done)), (by first | exact mv_cell hM (by first | (dsimp only; omega) | (simp; omega)) hOld.2.2.2.1 | exact cell_later hM hOld.2.2.2.1 | exact HT.cb | exact HT.cc | (simp (maxDischargeDepth := 6) [go_sem, *]; done)), (by first | exact mv_cell hM (by first | (dsimp only; omega) | (simp; omega)) hOld.2.2.2.2.1 | exact cell_later hM hOld.2.2.2.2.1 | exact HT.cb | exact HT.cc | (simp (maxDischargeDepth := 6) [go_sem, *]; done)), (by first | exact mv_cell hM (by first | (dsimp only; omega) | (simp; omega)) hOld.2.2.2.2.2.1 | exact cell_later hM hOld.2.2.2.2.2.1 | exact HT.cb | exact HT.cc | (simp (maxDischargeDepth := 6) [go_sem, *]; done)), (by first | exact mv_cell hM (by first | (dsimp only; omega) | (simp; omega)) hOld.2.2.2.2.2.2 | exact cell_later hM hOld.2.2.2.2.2.2 | exact HT.cb | exact HT.cc | (simp (maxDischargeDepth := 6) [go_sem, *]; done))⟩ (fun hHeld => ?_)
  clear hK K hOld
  try simp only [Act.put, List.setIfInBounds_toArray, List.set_cons_zero, List.set_cons_succ]
  (first | have R := Bk.mv hM (by omega) R | have R := Bk.mv hM (by omega) (Bk.drew R) | have R := Bk.mv hM (by omega) (Bk.drew (Bk.alloc R _))); clear hM
  refine wpAnyH_sl (n := 0) (l' := (#[true, true, true, true, true, true, true, true, true, true] : Array Bool)) [9] [some 6] hSSA (
    LvY.skip <|
    LvY.skip <|
    LvY.skip <|
    LvY.skip <|
    LvY.skip <|
    LvY.skip <|
    LvY.skip <|
    LvY.skip <|
    LvY.skip <|
    LvY.take (by rfl) (by intro w hSw; (try dsimp only at hSw); go_simp; try with_reducible rfl) <|
    LvY.nil) (by rfl) (by rfl) (by kernel_rfl) (fun _ _ _ _ _ h => h) (by kernel_rfl) (by kernel_rfl) (by kernel_rfl) (by assumption) ?_
  simp only [lvVs, putDs, Act.put, List.setIfInBounds_toArray, List.set_cons_zero, List.set_cons_succ]
  refine wpAnyH_done (by kernel_rfl) ?_ _
  (try refine NoPanic.normal ?_)
  (try clear q0); (try clear q1); (try clear q2); (try clear q3); (try clear q4); (try clear q5); (try clear q6); obtain ⟨q0, q1, q2, q3, q4, q5, q6⟩ := hHeld
  obtain ⟨G, hG⟩ : ∃ G, (false || !g1 || !g2 || !g3) = G := ⟨_, rfl⟩
  rw [hG] at HM
  have hcm := HM.cell
  have hfm := HM.free
  have C_R := R
  simp only [Bk] at C_R
  clear k1 k2 k3
  have HB := below_mv HB HM (by omega)
  have hz1 := HM.size
  clear hSSA
  cases G with
  | true =>
    clear k4 hu
    go_wp2
    simp (maxDischargeDepth := 8) [bodyPost, results, Try.results20, go_sem, *]
    exact (by (repeat (first | with_reducible assumption | with_reducible exact Below.refl _ _ | ((with_reducible refine Below.setCell ?_ ?_ _); rotate_left; (first | exact Nat.le_refl _ | (dsimp only; omega) | (simp; done) | (simp; omega))) | with_reducible refine below_alloc ?_ _ | with_reducible apply below_drewN | with_reducible apply Below.drew | with_reducible refine below_step ?_ (by assumption))))
  | false =>
    have hg : g1 = true ∧ g2 = true ∧ g3 = true := by revert hG; cases g1 <;> cases g2 <;> cases g3 <;> simp
    have hu := hu hg.1 hg.2.1 hg.2.2
    clear hG hg
    by_cases h5 : n1 < 4294967296
    · have d5 := decide_eq_true h5
      clear k4 hu
      go_wp2
      simp (maxDischargeDepth := 8) [bodyPost, results, Try.results20, go_sem, *]
      exact (by (repeat (first | with_reducible assumption | with_reducible exact Below.refl _ _ | ((with_reducible refine Below.setCell ?_ ?_ _); rotate_left; (first | exact Nat.le_refl _ | (dsimp only; omega) | (simp; done) | (simp; omega))) | with_reducible refine below_alloc ?_ _ | with_reducible apply below_drewN | with_reducible apply Below.drew | with_reducible refine below_step ?_ (by assumption))))
    · have d5 := decide_eq_false h5
      by_cases h6 : 1099511627776 < n1
      · have d6 := decide_eq_true h6
        clear k4 hu
        go_wp2
        simp (maxDischargeDepth := 8) [bodyPost, results, Try.results20, go_sem, *]
        exact (by (repeat (first | with_reducible assumption | with_reducible exact Below.refl _ _ | ((with_reducible refine Below.setCell ?_ ?_ _); rotate_left; (first | exact Nat.le_refl _ | (dsimp only; omega) | (simp; done) | (simp; omega))) | with_reducible refine below_alloc ?_ _ | with_reducible apply below_drewN | with_reducible apply Below.drew | with_reducible refine below_step ?_ (by assumption))))
      · have d6 := decide_eq_false h6
        have hu := hu (by omega) (by omega)
        generalize lnok (x0 * x0 + x1 * x1 + x2 * x2 + x3 * x3) = o1 at *
        generalize ln (x0 * x0 + x1 * x1 + x2 * x2 + x3 * x3) = n at *
        go_wp2_with (go_at_call 18; (with_reducible refine (k4 _ _ hcm hfm).mono ?_); rintro e w4 ⟨rfl, hM⟩; have R := Bk.mv hM (by omega) R; have C_R := R; simp only [Bk] at C_R; have HB := below_mv HB hM (by omega))
        clear k4
        simp (maxDischargeDepth := 8) [bodyPost, results, Try.results20, go_sem, *]
        exact ⟨u0, u1, u2, u3, ⟨rfl, rfl, rfl, rfl⟩, by (repeat (first | with_reducible assumption | with_reducible exact Below.refl _ _ | ((with_reducible refine Below.setCell ?_ ?_ _); rotate_left; (first | exact Nat.le_refl _ | (dsimp only; omega) | (simp; done) | (simp; omega))) | with_reducible refine below_alloc ?_ _ | with_reducible apply below_drewN | with_reducible apply Below.drew | with_reducible refine below_step ?_ (by assumption))), hu⟩
end
section
/-- A row of the matrix, turned over, on what was turned. -/
theorem bk_row (R0 R1 R2 T0 T1 T2 t0 t1 t2 d0 d1 d2 g v E F c : Int) (hE0 : -34359738368 ≤ E) (hE1 : E ≤ 34359738368) (hF : -649037107316853453566312041152512 ≤ F ∧ F ≤ 649037107316853453566312041152512)
    (b0 : -92233720368547758080 ≤ R0 ∧ R0 ≤ 92233720368547758080) (b1 : -92233720368547758080 ≤ R1 ∧ R1 ≤ 92233720368547758080) (b2 : -92233720368547758080 ≤ R2 ∧ R2 ≤ 92233720368547758080)
    (a0 : -113373689077018904231936 ≤ d0 ∧ d0 ≤ 113373689077018904231936) (a1 : -113373689077018904231936 ≤ d1 ∧ d1 ≤ 113373689077018904231936) (a2 : -113373689077018904231936 ≤ d2 ∧ d2 ≤ 113373689077018904231936)
    (h0 : 18446744073709551616 * t0 = T0 + d0) (h1 : 18446744073709551616 * t1 = T1 + d1) (h2 : 18446744073709551616 * t2 = T2 + d2)
    (hid : R0 * T0 + R1 * T1 + R2 * T2 = 18446744073709551616 * 18446744073709551616 * v - 4 * E * F)
    (hg : 18446744073709551616 * g = R0 * t0 + R1 * t1 + R2 * t2 + c) (hc : -1813425622910091181162496 ≤ c ∧ c ≤ 1813425622910091181162496) : -1048576 ≤ g - v ∧ g - v ≤ 1048576 := by
  have p0 := mul_bd2 R0 d0 92233720368547758080 113373689077018904231936 b0.1 b0.2 a0.1 a0.2
  have p1 := mul_bd2 R1 d1 92233720368547758080 113373689077018904231936 b1.1 b1.2 a1.1 a1.2
  have p2 := mul_bd2 R2 d2 92233720368547758080 113373689077018904231936 b2.1 b2.2 a2.1 a2.2
  have q := mul_bd2 E F 34359738368 649037107316853453566312041152512 hE0 hE1 hF.1 hF.2
  have e : 340282366920938463463374607431768211456 * g = R0 * (18446744073709551616 * t0) + R1 * (18446744073709551616 * t1) + R2 * (18446744073709551616 * t2) + 18446744073709551616 * c := by
    have : 340282366920938463463374607431768211456 * g = 18446744073709551616 * (18446744073709551616 * g) := by grind
    rw [this, hg]; grind
  rw [h0, h1, h2] at e
  have e2 : R0 * (T0 + d0) + R1 * (T1 + d1) + R2 * (T2 + d2) = (R0 * T0 + R1 * T1 + R2 * T2) + R0 * d0 + R1 * d1 + R2 * d2 := by grind
  have e3 : 18446744073709551616 * 18446744073709551616 * v - 4 * E * F = 340282366920938463463374607431768211456 * v - 4 * (E * F) := by grind
  rw [e2, hid, e3] at e
  clear hid hg h0 h1 h2 e2 e3
  generalize R0 * d0 = x0 at *
  generalize R1 * d1 = x1 at *
  generalize R2 * d2 = x2 at *
  generalize E * F = y at *
  omega
/-- What the square of the attitude does to a vector. -/
theorem bk_f (x y z a b c : Int) (hx : -4294967297 ≤ x ∧ x ≤ 4294967297) (hy : -4294967297 ≤ y ∧ y ≤ 4294967297) (hz : -4294967297 ≤ z ∧ z ≤ 4294967297) (ha : -4398046511104 ≤ a ∧ a ≤ 4398046511104) (hb : -4398046511104 ≤ b ∧ b ≤ 4398046511104) (hc : -4398046511104 ≤ c ∧ c ≤ 4398046511104) :
    -649037107316853453566312041152512 ≤ x * (x * a + y * b + z * c) - (x * x + y * y + z * z) * a ∧ x * (x * a + y * b + z * c) - (x * x + y * y + z * z) * a ≤ 649037107316853453566312041152512 := by
  have m0 := mul_bd2 x y 4294967297 4294967297 hx.1 hx.2 hy.1 hy.2
  have m1 := mul_bd2 x z 4294967297 4294967297 hx.1 hx.2 hz.1 hz.2
  have m2 := mul_bd2 y y 4294967297 4294967297 hy.1 hy.2 hy.1 hy.2
  have m3 := mul_bd2 z z 4294967297 4294967297 hz.1 hz.2 hz.1 hz.2
  have e : x * (x * a + y * b + z * c) - (x * x + y * y + z * z) * a = (x * y) * b + (x * z) * c - (y * y) * a - (z * z) * a := by grind
  rw [e]
  generalize x * y = p0 at *
  generalize x * z = p1 at *
  generalize y * y = p2 at *
  generalize z * z = p3 at *
  have n0 := mul_bd2 p0 b 18446744082299486209 4398046511104 (by omega) (by omega) hb.1 hb.2
  have n1 := mul_bd2 p1 c 18446744082299486209 4398046511104 (by omega) (by omega) hc.1 hc.2
  have n2 := mul_bd2 p2 a 18446744082299486209 4398046511104 (by omega) (by omega) ha.1 ha.2
  have n3 := mul_bd2 p3 a 18446744082299486209 4398046511104 (by omega) (by omega) ha.1 ha.2
  generalize p0 * b = u0 at *
  generalize p1 * c = u1 at *
  generalize p2 * a = u2 at *
  generalize p3 * a = u3 at *
  omega
/-- The entries' bounds. -/
theorem bk_R (p q r s : Int) (hp : -4294967297 ≤ p ∧ p ≤ 4294967297) (hq : -4294967297 ≤ q ∧ q ≤ 4294967297) (hr : -4294967297 ≤ r ∧ r ≤ 4294967297) (hs : -4294967297 ≤ s ∧ s ≤ 4294967297) :
    (-92233720368547758080 ≤ 2 * (p * q - r * s) ∧ 2 * (p * q - r * s) ≤ 92233720368547758080) ∧ (-92233720368547758080 ≤ 2 * (p * q + r * s) ∧ 2 * (p * q + r * s) ≤ 92233720368547758080) ∧ (-92233720368547758080 ≤ 18446744073709551616 - 2 * (p * p + q * q) ∧ 18446744073709551616 - 2 * (p * p + q * q) ≤ 92233720368547758080) := by
  have m0 := mul_bd2 p q 4294967297 4294967297 hp.1 hp.2 hq.1 hq.2
  have m1 := mul_bd2 r s 4294967297 4294967297 hr.1 hr.2 hs.1 hs.2
  have m2 := mul_bd2 p p 4294967297 4294967297 hp.1 hp.2 hp.1 hp.2
  have m3 := mul_bd2 q q 4294967297 4294967297 hq.1 hq.2 hq.1 hq.2
  have s0 := sq_nn6 p
  have s1 := sq_nn6 q
  generalize p * q = u0 at *
  generalize r * s = u1 at *
  generalize p * p = u2 at *
  generalize q * q = u3 at *
  omega
/-- What was turned is not much longer. -/
theorem bk_t (R0 R1 R2 a b c t d : Int) (b0 : -92233720368547758080 ≤ R0 ∧ R0 ≤ 92233720368547758080) (b1 : -92233720368547758080 ≤ R1 ∧ R1 ≤ 92233720368547758080) (b2 : -92233720368547758080 ≤ R2 ∧ R2 ≤ 92233720368547758080) (ha : -4398046511104 ≤ a ∧ a ≤ 4398046511104) (hb : -4398046511104 ≤ b ∧ b ≤ 4398046511104) (hc : -4398046511104 ≤ c ∧ c ≤ 4398046511104) (hd : -113373689077018904231936 ≤ d ∧ d ≤ 113373689077018904231936) (h : 18446744073709551616 * t = R0 * a + R1 * b + R2 * c + d) :
    -70368744177664 ≤ t ∧ t ≤ 70368744177664 := by
  have p0 := mul_bd2 R0 a 92233720368547758080 4398046511104 b0.1 b0.2 ha.1 ha.2
  have p1 := mul_bd2 R1 b 92233720368547758080 4398046511104 b1.1 b1.2 hb.1 hb.2
  have p2 := mul_bd2 R2 c 92233720368547758080 4398046511104 b2.1 b2.2 hc.1 hc.2
  generalize R0 * a = x0 at *
  generalize R1 * b = x1 at *
  generalize R2 * c = x2 at *
  omega
set_option maxHeartbeats 4000000 in
theorem kb_all (w x y z a b c : Int) (hw : -4294967297 ≤ w ∧ w ≤ 4294967297) (hx : -4294967297 ≤ x ∧ x ≤ 4294967297) (hy : -4294967297 ≤ y ∧ y ≤ 4294967297) (hz : -4294967297 ≤ z ∧ z ≤ 4294967297) (hE0 : -34359738368 ≤ w * w + x * x + y * y + z * z - 18446744073709551616) (hE1 : w * w + x * x + y * y + z * z - 18446744073709551616 ≤ 34359738368) (ha : -4398046511104 ≤ a ∧ a ≤ 4398046511104) (hb : -4398046511104 ≤ b ∧ b ≤ 4398046511104) (hc : -4398046511104 ≤ c ∧ c ≤ 4398046511104) :
    ∃ r0 r1 r2 r3 r4 r5 r6 r7 r8 t0 t1 t2 g0 g1 g2 : Int, (mo y z = r0 ∧ mn x y w z = r1 ∧ mp x z w y = r2 ∧ mp x y w z = r3 ∧ mo x z = r4 ∧ mn y z w x = r5 ∧ mn x z w y = r6 ∧ mp y z w x = r7 ∧ mo x y = r8) ∧ (mok y z = true ∧ mnk x y w z = true ∧ mpk x z w y = true ∧ mpk x y w z = true ∧ mok x z = true ∧ mnk y z w x = true ∧ mnk x z w y = true ∧ mpk y z w x = true ∧ mok x y = true) ∧ ((-73014444036 ≤ r0 ∧ r0 ≤ 73014444036) ∧ (-73014444036 ≤ r1 ∧ r1 ≤ 73014444036) ∧ (-73014444036 ≤ r2 ∧ r2 ≤ 73014444036) ∧ (-73014444036 ≤ r3 ∧ r3 ≤ 73014444036) ∧ (-73014444036 ≤ r4 ∧ r4 ≤ 73014444036) ∧ (-73014444036 ≤ r5 ∧ r5 ≤ 73014444036) ∧ (-73014444036 ≤ r6 ∧ r6 ≤ 73014444036) ∧ (-73014444036 ≤ r7 ∧ r7 ≤ 73014444036) ∧ (-73014444036 ≤ r8 ∧ r8 ≤ 73014444036)) ∧
      (dt r0 r1 r2 a b c = t0 ∧ dt r3 r4 r5 a b c = t1 ∧ dt r6 r7 r8 a b c = t2) ∧ (dtok r0 r1 r2 a b c = true ∧ dtok r3 r4 r5 a b c = true ∧ dtok r6 r7 r8 a b c = true) ∧
      ((-70368744177664 ≤ t0 ∧ t0 ≤ 70368744177664) ∧ (-70368744177664 ≤ t1 ∧ t1 ≤ 70368744177664) ∧ (-70368744177664 ≤ t2 ∧ t2 ≤ 70368744177664)) ∧
      (dt r0 r3 r6 t0 t1 t2 = g0 ∧ dt r1 r4 r7 t0 t1 t2 = g1 ∧ dt r2 r5 r8 t0 t1 t2 = g2) ∧ (dtok r0 r3 r6 t0 t1 t2 = true ∧ dtok r1 r4 r7 t0 t1 t2 = true ∧ dtok r2 r5 r8 t0 t1 t2 = true) ∧
      (-1048576 ≤ g0 - a ∧ g0 - a ≤ 1048576) ∧ (-1048576 ≤ g1 - b ∧ g1 - b ≤ 1048576) ∧ (-1048576 ≤ g2 - c ∧ g2 - c ≤ 1048576) := by
  obtain ⟨⟨e0, g0, k0, m0⟩, f0, l0, u0⟩ := mo_e y z (by omega) (by omega) (by omega) (by omega)
  obtain ⟨⟨e1, g1, k1, m1⟩, f1, l1, u1⟩ := mn_e x y w z (by omega) (by omega) (by omega) (by omega) (by omega) (by omega) (by omega) (by omega)
  obtain ⟨⟨e2, g2, k2, m2⟩, f2, l2, u2⟩ := mp_e x z w y (by omega) (by omega) (by omega) (by omega) (by omega) (by omega) (by omega) (by omega)
  obtain ⟨⟨e3, g3, k3, m3⟩, f3, l3, u3⟩ := mp_e x y w z (by omega) (by omega) (by omega) (by omega) (by omega) (by omega) (by omega) (by omega)
  obtain ⟨⟨e4, g4, k4, m4⟩, f4, l4, u4⟩ := mo_e x z (by omega) (by omega) (by omega) (by omega)
  obtain ⟨⟨e5, g5, k5, m5⟩, f5, l5, u5⟩ := mn_e y z w x (by omega) (by omega) (by omega) (by omega) (by omega) (by omega) (by omega) (by omega)
  obtain ⟨⟨e6, g6, k6, m6⟩, f6, l6, u6⟩ := mn_e x z w y (by omega) (by omega) (by omega) (by omega) (by omega) (by omega) (by omega) (by omega)
  obtain ⟨⟨e7, g7, k7, m7⟩, f7, l7, u7⟩ := mp_e y z w x (by omega) (by omega) (by omega) (by omega) (by omega) (by omega) (by omega) (by omega)
  obtain ⟨⟨e8, g8, k8, m8⟩, f8, l8, u8⟩ := mo_e x y (by omega) (by omega) (by omega) (by omega)
  generalize mo y z = r0 at *
  generalize mn x y w z = r1 at *
  generalize mp x z w y = r2 at *
  generalize mp x y w z = r3 at *
  generalize mo x z = r4 at *
  generalize mn y z w x = r5 at *
  generalize mn x z w y = r6 at *
  generalize mp y z w x = r7 at *
  generalize mo x y = r8 at *
  have l0 : -73014444036 ≤ r0 := Int.le_trans (by decide) l0
  have u0 : r0 ≤ 73014444036 := Int.le_trans u0 (by decide)
  have l1 : -73014444036 ≤ r1 := Int.le_trans (by decide) l1
  have u1 : r1 ≤ 73014444036 := Int.le_trans u1 (by decide)
  have l2 : -73014444036 ≤ r2 := Int.le_trans (by decide) l2
  have u2 : r2 ≤ 73014444036 := Int.le_trans u2 (by decide)
  have l3 : -73014444036 ≤ r3 := Int.le_trans (by decide) l3
  have u3 : r3 ≤ 73014444036 := Int.le_trans u3 (by decide)
  have l4 : -73014444036 ≤ r4 := Int.le_trans (by decide) l4
  have u4 : r4 ≤ 73014444036 := Int.le_trans u4 (by decide)
  have l5 : -73014444036 ≤ r5 := Int.le_trans (by decide) l5
  have u5 : r5 ≤ 73014444036 := Int.le_trans u5 (by decide)
  have l6 : -73014444036 ≤ r6 := Int.le_trans (by decide) l6
  have u6 : r6 ≤ 73014444036 := Int.le_trans u6 (by decide)
  have l7 : -73014444036 ≤ r7 := Int.le_trans (by decide) l7
  have u7 : r7 ≤ 73014444036 := Int.le_trans u7 (by decide)
  have l8 : -73014444036 ≤ r8 := Int.le_trans (by decide) l8
  have u8 : r8 ≤ 73014444036 := Int.le_trans u8 (by decide)
  have B0 := (bk_R y z x x hy hz hx hx).2.2
  have B1 := (bk_R x y w z hx hy hw hz).1
  have B2 := (bk_R x z w y hx hz hw hy).2.1
  have B3 := (bk_R x y w z hx hy hw hz).2.1
  have B4 := (bk_R x z x x hx hz hx hx).2.2
  have B5 := (bk_R y z w x hy hz hw hx).1
  have B6 := (bk_R x z w y hx hz hw hy).1
  have B7 := (bk_R y z w x hy hz hw hx).2.1
  have B8 := (bk_R x y x x hx hy hx hx).2.2
  have i0 := turn_back0 18446744073709551616 w x y z a b c
  have i1 := turn_back1 18446744073709551616 w x y z a b c
  have i2 := turn_back2 18446744073709551616 w x y z a b c
  have F0 := bk_f x y z a b c hx hy hz ha hb hc
  have F1 := bk_f y x z b a c hy hx hz hb ha hc
  have F2 := bk_f z x y c a b hz hx hy hc ha hb
  rw [show y * (y * b + x * a + z * c) - (y * y + x * x + z * z) * b = y * (x * a + y * b + z * c) - (x * x + y * y + z * z) * b by grind] at F1
  rw [show z * (z * c + x * a + y * b) - (z * z + x * x + y * y) * c = z * (x * a + y * b + z * c) - (x * x + y * y + z * z) * c by grind] at F2
  generalize 18446744073709551616 - 2 * (y * y + z * z) = R0 at *
  generalize 2 * (x * y - w * z) = R1 at *
  generalize 2 * (x * z + w * y) = R2 at *
  generalize 2 * (x * y + w * z) = R3 at *
  generalize 18446744073709551616 - 2 * (x * x + z * z) = R4 at *
  generalize 2 * (y * z - w * x) = R5 at *
  generalize 2 * (x * z - w * y) = R6 at *
  generalize 2 * (y * z + w * x) = R7 at *
  generalize 18446744073709551616 - 2 * (x * x + y * y) = R8 at *
  generalize w * w + x * x + y * y + z * z - 18446744073709551616 = E at *
  generalize x * (x * a + y * b + z * c) - (x * x + y * y + z * z) * a = f0' at *
  generalize y * (x * a + y * b + z * c) - (x * x + y * y + z * z) * b = f1' at *
  generalize z * (x * a + y * b + z * c) - (x * x + y * y + z * z) * c = f2' at *
  have sbd : ∀ v : Int, -4398046511104 ≤ v ∧ v ≤ 4398046511104 → -70368744177664 ≤ v ∧ v ≤ 70368744177664 := by intro v h; omega
  obtain ⟨⟨o0, p0, q0, s0⟩, d0⟩ := dt_e r0 r1 r2 a b c ⟨l0, u0⟩ ⟨l1, u1⟩ ⟨l2, u2⟩ (sbd a ha) (sbd b hb) (sbd c hc)
  obtain ⟨⟨o1, p1, q1, s1⟩, d1⟩ := dt_e r3 r4 r5 a b c ⟨l3, u3⟩ ⟨l4, u4⟩ ⟨l5, u5⟩ (sbd a ha) (sbd b hb) (sbd c hc)
  obtain ⟨⟨o2, p2, q2, s2⟩, d2⟩ := dt_e r6 r7 r8 a b c ⟨l6, u6⟩ ⟨l7, u7⟩ ⟨l8, u8⟩ (sbd a ha) (sbd b hb) (sbd c hc)
  generalize ht0 : dt r0 r1 r2 a b c = t0 at *
  obtain ⟨c0, x0, y0, z0⟩ := row_e R0 R1 R2 r0 r1 r2 a b c t0 e0 e1 e2 o0 4398046511104 g0 g1 g2 ⟨k0, m0⟩ ⟨k1, m1⟩ ⟨k2, m2⟩ ha hb hc p0 ⟨q0, s0⟩
  have C0 : -113373689077018904231936 ≤ c0 ∧ c0 ≤ 113373689077018904231936 := ⟨Int.le_trans (by decide) y0, Int.le_trans z0 (by decide)⟩
  have W0 := bk_t R0 R1 R2 a b c t0 c0 B0 B1 B2 ha hb hc C0 x0
  generalize ht1 : dt r3 r4 r5 a b c = t1 at *
  obtain ⟨c1, x1, y1, z1⟩ := row_e R3 R4 R5 r3 r4 r5 a b c t1 e3 e4 e5 o1 4398046511104 g3 g4 g5 ⟨k3, m3⟩ ⟨k4, m4⟩ ⟨k5, m5⟩ ha hb hc p1 ⟨q1, s1⟩
  have C1 : -113373689077018904231936 ≤ c1 ∧ c1 ≤ 113373689077018904231936 := ⟨Int.le_trans (by decide) y1, Int.le_trans z1 (by decide)⟩
  have W1 := bk_t R3 R4 R5 a b c t1 c1 B3 B4 B5 ha hb hc C1 x1
  generalize ht2 : dt r6 r7 r8 a b c = t2 at *
  obtain ⟨c2, x2, y2, z2⟩ := row_e R6 R7 R8 r6 r7 r8 a b c t2 e6 e7 e8 o2 4398046511104 g6 g7 g8 ⟨k6, m6⟩ ⟨k7, m7⟩ ⟨k8, m8⟩ ha hb hc p2 ⟨q2, s2⟩
  have C2 : -113373689077018904231936 ≤ c2 ∧ c2 ≤ 113373689077018904231936 := ⟨Int.le_trans (by decide) y2, Int.le_trans z2 (by decide)⟩
  have W2 := bk_t R6 R7 R8 a b c t2 c2 B6 B7 B8 ha hb hc C2 x2
  obtain ⟨⟨O0, P0, Q0, S0⟩, D0⟩ := dt_e r0 r3 r6 t0 t1 t2 ⟨l0, u0⟩ ⟨l3, u3⟩ ⟨l6, u6⟩ W0 W1 W2
  generalize hg0 : dt r0 r3 r6 t0 t1 t2 = G0 at *
  obtain ⟨C0', X0, Y0, Z0⟩ := row_e R0 R3 R6 r0 r3 r6 t0 t1 t2 G0 e0 e3 e6 O0 70368744177664 g0 g3 g6 ⟨k0, m0⟩ ⟨k3, m3⟩ ⟨k6, m6⟩ W0 W1 W2 P0 ⟨Q0, S0⟩
  have N0 := bk_row R0 R3 R6 _ _ _ t0 t1 t2 c0 c1 c2 G0 a E f0' C0' hE0 hE1 F0 B0 B3 B6 C0 C1 C2 x0 x1 x2 i0 X0 ⟨Int.le_trans (by decide) Y0, Int.le_trans Z0 (by decide)⟩
  obtain ⟨⟨O1, P1, Q1, S1⟩, D1⟩ := dt_e r1 r4 r7 t0 t1 t2 ⟨l1, u1⟩ ⟨l4, u4⟩ ⟨l7, u7⟩ W0 W1 W2
  generalize hg1 : dt r1 r4 r7 t0 t1 t2 = G1 at *
  obtain ⟨C1', X1, Y1, Z1⟩ := row_e R1 R4 R7 r1 r4 r7 t0 t1 t2 G1 e1 e4 e7 O1 70368744177664 g1 g4 g7 ⟨k1, m1⟩ ⟨k4, m4⟩ ⟨k7, m7⟩ W0 W1 W2 P1 ⟨Q1, S1⟩
  have N1 := bk_row R1 R4 R7 _ _ _ t0 t1 t2 c0 c1 c2 G1 b E f1' C1' hE0 hE1 F1 B1 B4 B7 C0 C1 C2 x0 x1 x2 i1 X1 ⟨Int.le_trans (by decide) Y1, Int.le_trans Z1 (by decide)⟩
  obtain ⟨⟨O2, P2, Q2, S2⟩, D2⟩ := dt_e r2 r5 r8 t0 t1 t2 ⟨l2, u2⟩ ⟨l5, u5⟩ ⟨l8, u8⟩ W0 W1 W2
  generalize hg2 : dt r2 r5 r8 t0 t1 t2 = G2 at *
  obtain ⟨C2', X2, Y2, Z2⟩ := row_e R2 R5 R8 r2 r5 r8 t0 t1 t2 G2 e2 e5 e8 O2 70368744177664 g2 g5 g8 ⟨k2, m2⟩ ⟨k5, m5⟩ ⟨k8, m8⟩ W0 W1 W2 P2 ⟨Q2, S2⟩
  have N2 := bk_row R2 R5 R8 _ _ _ t0 t1 t2 c0 c1 c2 G2 c E f2' C2' hE0 hE1 F2 B2 B5 B8 C0 C1 C2 x0 x1 x2 i2 X2 ⟨Int.le_trans (by decide) Y2, Int.le_trans Z2 (by decide)⟩
  exact ⟨r0, r1, r2, r3, r4, r5, r6, r7, r8, t0, t1, t2, G0, G1, G2, ⟨rfl, rfl, rfl, rfl, rfl, rfl, rfl, rfl, rfl⟩, ⟨f0, f1, f2, f3, f4, f5, f6, f7, f8⟩, ⟨⟨l0, u0⟩, ⟨l1, u1⟩, ⟨l2, u2⟩, ⟨l3, u3⟩, ⟨l4, u4⟩, ⟨l5, u5⟩, ⟨l6, u6⟩, ⟨l7, u7⟩, ⟨l8, u8⟩⟩, ⟨ht0, ht1, ht2⟩, ⟨d0, d1, d2⟩, ⟨W0, W1, W2⟩, ⟨hg0, hg1, hg2⟩, ⟨D0, D1, D2⟩, N0, N1, N2⟩
end
section
variable {P : Program} {ops : Array Oper} {Q : Exit → Act → World → Prop} {md : Region.Mode} {S : World → Prop}
/-- Where something has not come up, something may come up. -/
theorem ready_ne2 {l : Array Bool} (hsz : l.size = ops.size) (hac : (List.range ops.size).all (fun i => ((ops[i]?).map (·.after.all fun e => (!Region.binds md e || decide (e.on < i)))).getD true) = true) :
    ∀ i, l.getD i true = false → Region.ready md ops l ≠ [] := by
  intro i
  induction i using Nat.strongRecOn with
  | ind i ih =>
    intro hi
    have hlt : i < ops.size := by
      rcases Nat.lt_or_ge i l.size with h1 | h1
      · omega
      · simp [Array.getD_eq_getD_getElem?, Array.getElem?_eq_none h1] at hi
    by_cases hall : ∀ j, j < i → l.getD j false = true
    · have hm : i ∈ Region.ready md ops l := by
        refine mem_ready.2 ⟨hi, ops[i], Array.getElem?_eq_getElem hlt, fun e he hb => hall e.on ?_⟩
        have h2 := List.all_eq_true.1 hac i (List.mem_range.2 hlt)
        rw [Array.getElem?_eq_getElem hlt] at h2
        simp only [Option.map_some, Option.getD_some] at h2
        have h3 := (Array.all_eq_true_iff_forall_mem.1 h2) e he
        rw [hb] at h3
        simpa using h3
      intro h0
      rw [h0] at hm; cases hm
    · have ⟨j, hj⟩ := Classical.not_forall.1 hall
      have ⟨hji, hj⟩ := Classical.not_imp.1 hj
      refine ih j hji ?_
      have hjl : j < l.size := by omega
      simp [Array.getD_eq_getD_getElem?, Array.getElem?_eq_getElem hjl] at hj ⊢
      exact hj
/-- From the state at hand on by an invariant, till all of these have come up. -/
theorem wpAnyH_from2 {a0 : Act} {l0 : Array Bool} {n : Nat} {w : World} (ts : List Nat) (J : Array Bool → Act → Array Bool → Act → World → Prop)
    (hac : (List.range ops.size).all (fun i => ((ops[i]?).map (·.after.all fun e => (!Region.binds md e || decide (e.on < i)))).getD true) = true)
    (hsz : ∀ l a w, J l0 a0 l a w → l.size = ops.size)
    (hS : ∀ l a w, J l0 a0 l a w → S w)
    (hstep : ∀ l a w, J l0 a0 l a w → (∃ t ∈ ts, l.getD t true = false) → ∀ i, l.getD i true = false → (∀ o, ops[i]? = some o → ∀ e ∈ o.after, Region.binds md e = true → l.getD e.on false = true) → wpOp P ops Q i (fun a' w' => J l0 a0 (l.setIfInBounds i true) a' w') a w)
    (hend : ∀ l a w n, J l0 a0 l a w → (∀ t ∈ ts, l.getD t true = true) → unl l.toList ≤ n → wpAnyH P md ops Q S n l a w)
    (hu : unl l0.toList ≤ n) (h0 : J l0 a0 l0 a0 w) : wpAnyH P md ops Q S n l0 a0 w := by
  have key : ∀ (n : Nat) (l : Array Bool) (a : Act) (w : World), unl l.toList ≤ n → J l0 a0 l a w → wpAnyH P md ops Q S n l a w := by
    intro n
    induction n with
    | zero =>
      intro l a w hu hJ
      by_cases hf : ∃ t ∈ ts, l.getD t true = false
      · obtain ⟨t, _, hf⟩ := hf
        have hlt : t < l.size := by
          rcases Nat.lt_or_ge t l.size with h | h
          · exact h
          · simp [Array.getD_eq_getD_getElem?, Array.getElem?_eq_none h] at hf
        have h3 : l.toList[t]? = some false := by
          have : l[t]? = some l[t] := Array.getElem?_eq_getElem hlt
          simp [Array.getD_eq_getD_getElem?, this] at hf
          simp [this, hf]
        have := unl_set _ t h3
        omega
      · exact hend l a w 0 hJ (fun t ht => by cases h : l.getD t true with | true => rfl | false => exact absurd ⟨t, ht, h⟩ hf) hu
    | succ n ih =>
      intro l a w hu hJ
      by_cases hf : ∃ t ∈ ts, l.getD t true = false
      · have hf2 := hf
        obtain ⟨t, _, hft⟩ := hf2
        refine ⟨fun hr => absurd hr (ready_ne2 (hsz l a w hJ) hac t hft), fun i hi => ?_⟩
        obtain ⟨h1, o, h2, h4⟩ := mem_ready.1 hi
        refine wpOp_mono (fun a' w' hJ' => ⟨hS _ _ _ hJ', ih _ a' w' ?_ hJ'⟩) (hstep l a w hJ hf i h1 (fun o' ho' => by rw [h2] at ho'; cases ho'; exact h4))
        have hlt2 : i < l.size := by
          rcases Nat.lt_or_ge i l.size with h | h
          · exact h
          · simp [Array.getD_eq_getD_getElem?, Array.getElem?_eq_none h] at h1
        have h3 : l.toList[i]? = some false := by
          have : l[i]? = some l[i] := Array.getElem?_eq_getElem hlt2
          simp [Array.getD_eq_getD_getElem?, this] at h1
          simp [this, h1]
        have := unl_set _ i h3
        have e : (l.setIfInBounds i true).toList = l.toList.set i true := by simp
        rw [e]; omega
      · exact hend l a w _ hJ (fun t ht => by cases h : l.getD t true with | true => rfl | false => exact absurd ⟨t, ht, h⟩ hf) hu
  exact key n l0 a0 w hu h0
end
section
set_option linter.unusedVariables false
set_option maxHeartbeats 8000000 in
set_option maxRecDepth 20000 in
theorem rBack (r0 r1 r2 r3 r4 r5 r6 r7 r8 v0 v1 v2 : Int) (b : Nat) (o : Bool) (w : World) (r0_0 : -9223372036854775808 ≤ r0) (r0_1 : r0 ≤ 9223372036854775807) (r1_0 : -9223372036854775808 ≤ r1) (r1_1 : r1 ≤ 9223372036854775807) (r2_0 : -9223372036854775808 ≤ r2) (r2_1 : r2 ≤ 9223372036854775807) (r3_0 : -9223372036854775808 ≤ r3) (r3_1 : r3 ≤ 9223372036854775807) (r4_0 : -9223372036854775808 ≤ r4) (r4_1 : r4 ≤ 9223372036854775807) (r5_0 : -9223372036854775808 ≤ r5) (r5_1 : r5 ≤ 9223372036854775807) (r6_0 : -9223372036854775808 ≤ r6) (r6_1 : r6 ≤ 9223372036854775807) (r7_0 : -9223372036854775808 ≤ r7) (r7_1 : r7 ≤ 9223372036854775807) (r8_0 : -9223372036854775808 ≤ r8) (r8_1 : r8 ≤ 9223372036854775807) (v0_0 : -9223372036854775808 ≤ v0) (v0_1 : v0 ≤ 9223372036854775807) (v1_0 : -9223372036854775808 ≤ v1) (v1_1 : v1 ≤ 9223372036854775807) (v2_0 : -9223372036854775808 ≤ v2) (v2_1 : v2 ≤ 9223372036854775807) (hc : w.cell? ⟨b, 0, none⟩ = some (.bool o)) (hf : w.frozen? ⟨b, 0, none⟩ = false) :
    Calls Try.prog 14 #[.pointer (some ⟨b, 0, none⟩), .agg #[.int .i64 r0, .int .i64 r1, .int .i64 r2, .int .i64 r3, .int .i64 r4, .int .i64 r5, .int .i64 r6, .int .i64 r7, .int .i64 r8], .agg #[.int .i64 v0, .int .i64 v1, .int .i64 v2]] w fun e w' =>
      e = .returned (.agg #[.int .i64 (dt r0 r3 r6 v0 v1 v2), .int .i64 (dt r1 r4 r7 v0 v1 v2), .int .i64 (dt r2 r5 r8 v0 v1 v2)]) ∧ Mv b (o || !dtok r0 r3 r6 v0 v1 v2 || !dtok r1 r4 r7 v0 v1 v2 || !dtok r2 r5 r8 v0 v1 v2) w w' := by
  have hb := lt_of_cell hc
  have HM := Mv.refl hc hf
  clear hc hf
  have k0 := fun W => rTurned r0 r1 r2 r3 r4 r5 r6 r7 r8 W
  have k1 := fun O W => rApply r0 r3 r6 r1 r4 r7 r2 r5 r8 v0 v1 v2 b O W r0_0 r0_1 r3_0 r3_1 r6_0 r6_1 r1_0 r1_1 r4_0 r4_1 r7_0 r7_1 r2_0 r2_1 r5_0 r5_1 r8_0 r8_1 v0_0 v0_1 v1_0 v1_1 v2_0 v2_1
  generalize dt r0 r3 r6 v0 v1 v2 = d0 at *
  generalize dt r1 r4 r7 v0 v1 v2 = d1 at *
  generalize dt r2 r5 r8 v0 v1 v2 = d2 at *
  generalize dtok r0 r3 r6 v0 v1 v2 = f0 at *
  generalize dtok r1 r4 r7 v0 v1 v2 = f1 at *
  generalize dtok r2 r5 r8 v0 v1 v2 = f2 at *
  clear r0_0 r0_1 r1_0 r1_1 r2_0 r2_1 r3_0 r3_1 r4_0 r4_1 r5_0 r5_1 r6_0 r6_1 r7_0 r7_1 r8_0 r8_1 v0_0 v0_1 v1_0 v1_1 v2_0 v2_1
  go_enter Try.func14, Try.ntmps14
  go_upto_region 1 with (fail)
  generalize hW : World.alloc _ _ = W1
  have hR : W1.heap[w.heap.size + 1 + 1]? = some (.cells #[.int .i64 0, .int .i64 0, .int .i64 0] 26 (0, 0)) := by
    rw [← hW]
    have := row_new ((w.alloc (.cells #[.int .i64 r0, .int .i64 r1, .int .i64 r2, .int .i64 r3, .int .i64 r4, .int .i64 r5, .int .i64 r6, .int .i64 r7, .int .i64 r8] 33)).alloc (.cells #[.int .i64 v0, .int .i64 v1, .int .i64 v2] 26)) (.cells #[.int .i64 0, .int .i64 0, .int .i64 0] 26)
    simpa only [World.size_alloc] using this
  have c0 : W1.cell? ⟨w.heap.size, 0, none⟩ = some (.int .i64 r0) := by rw [← hW]; simp [go_sem]
  have c1 : W1.cell? ⟨w.heap.size, 1, none⟩ = some (.int .i64 r1) := by rw [← hW]; simp [go_sem]
  have c2 : W1.cell? ⟨w.heap.size, 2, none⟩ = some (.int .i64 r2) := by rw [← hW]; simp [go_sem]
  have c3 : W1.cell? ⟨w.heap.size, 3, none⟩ = some (.int .i64 r3) := by rw [← hW]; simp [go_sem]
  have c4 : W1.cell? ⟨w.heap.size, 4, none⟩ = some (.int .i64 r4) := by rw [← hW]; simp [go_sem]
  have c5 : W1.cell? ⟨w.heap.size, 5, none⟩ = some (.int .i64 r5) := by rw [← hW]; simp [go_sem]
  have c6 : W1.cell? ⟨w.heap.size, 6, none⟩ = some (.int .i64 r6) := by rw [← hW]; simp [go_sem]
  have c7 : W1.cell? ⟨w.heap.size, 7, none⟩ = some (.int .i64 r7) := by rw [← hW]; simp [go_sem]
  have c8 : W1.cell? ⟨w.heap.size, 8, none⟩ = some (.int .i64 r8) := by rw [← hW]; simp [go_sem]
  have d0' : W1.cell? ⟨w.heap.size + 1, 0, none⟩ = some (.int .i64 v0) := by rw [← hW]; simp [go_sem]
  have d1' : W1.cell? ⟨w.heap.size + 1, 1, none⟩ = some (.int .i64 v1) := by rw [← hW]; simp [go_sem]
  have d2' : W1.cell? ⟨w.heap.size + 1, 2, none⟩ = some (.int .i64 v2) := by rw [← hW]; simp [go_sem]
  have HM : Mv b o w W1 := by rw [← hW]; exact ((HM.alloc _).alloc _).alloc _
  clear hW
  (try refine wp_region_noPanic ?_)
  refine wp_region_ssa (S := (fun (w' : World) => w'.cell? ⟨w.heap.size, 0, none⟩ = some (.int .i64 r0) ∧ w'.cell? ⟨w.heap.size, 1, none⟩ = some (.int .i64 r1) ∧ w'.cell? ⟨w.heap.size, 2, none⟩ = some (.int .i64 r2) ∧ w'.cell? ⟨w.heap.size, 3, none⟩ = some (.int .i64 r3) ∧ w'.cell? ⟨w.heap.size, 4, none⟩ = some (.int .i64 r4) ∧ w'.cell? ⟨w.heap.size, 5, none⟩ = some (.int .i64 r5) ∧ w'.cell? ⟨w.heap.size, 6, none⟩ = some (.int .i64 r6) ∧ w'.cell? ⟨w.heap.size, 7, none⟩ = some (.int .i64 r7) ∧ w'.cell? ⟨w.heap.size, 8, none⟩ = some (.int .i64 r8) ∧ w'.cell? ⟨w.heap.size + 1, 0, none⟩ = some (.int .i64 v0) ∧ w'.cell? ⟨w.heap.size + 1, 1, none⟩ = some (.int .i64 v1) ∧ w'.cell? ⟨w.heap.size + 1, 2, none⟩ = some (.int .i64 v2))) (#[none, none, none, none, none, none, none, some 0, some 1, some 2, some 3, some 4] : Array (Option Nat)) (by kernel_rfl) (by kernel_rfl) (by kernel_rfl) ⟨(by first | (simp (maxDischargeDepth := 6) [go_sem, *]; done)), (by first | (simp (maxDischargeDepth := 6) [go_sem, *]; done)), (by first | (simp (maxDischargeDepth := 6) [go_sem, *]; done)), (by first | (simp (maxDischargeDepth := 6) [go_sem, *]; done)), (by first | (simp (maxDischargeDepth := 6) [go_sem, *]; done)), (by first | (simp (maxDischargeDepth := 6) [go_sem, *]; done)), (by first | (simp (maxDischargeDepth := 6) [go_sem, *]; done)), (by first | (simp (maxDischargeDepth := 6) [go_sem, *]; done)), (by first | (simp (maxDischargeDepth := 6) [go_sem, *]; done)), (by first | (simp (maxDischargeDepth := 6) [go_sem, *]; done)), (by first | (simp (maxDischargeDepth := 6) [go_sem, *]; done)), (by first | (simp (maxDischargeDepth := 6) [go_sem, *]; done))⟩ (fun hSSA hHeld => ?_)
  refine wpAnyH_sl (n := 3) (l' := (#[true, true, false, true, false, false] : Array Bool)) [0, 1, 3] [some 7, some 8, some 10] hSSA (
    LvY.take (by rfl) (by intro w hSw; (try dsimp only at hSw); go_simp; try with_reducible rfl) <|
    LvY.take (by rfl) (by intro w hSw; (try dsimp only at hSw); go_simp; try with_reducible rfl) <|
    LvY.skip <|
    LvY.take (by rfl) (by intro w hSw; (try dsimp only at hSw); go_simp; try with_reducible rfl) <|
    LvY.skip <|
    LvY.skip <|
    LvY.nil) (by rfl) (by rfl) (by kernel_rfl) (fun _ _ _ _ _ h => h) (by kernel_rfl) (by kernel_rfl) (by kernel_rfl) (by assumption) ?_
  simp only [lvVs, putDs, Act.put, List.setIfInBounds_toArray, List.set_cons_zero, List.set_cons_succ]
  have hOld := hHeld; clear hHeld
  refine wpAnyH_on (i := 2) (n := 2) (l' := (#[true, true, true, true, false, false] : Array Bool)) (by kernel_rfl) (by kernel_rfl) (by kernel_rfl) (by simp only [List.getElem?_toArray, List.getElem?_cons_succ, List.getElem?_cons_zero]; rfl) (by rfl) (fun K hK => ?_)
  go_simp
  (go_at_call 43; (with_reducible refine (k0 _).mono ?_); rintro e w1 ⟨rfl, hM⟩); have HM := (HM.drew).below hM
  (try go_wp2_with (fail))
  refine hK.out _ _ ⟨(by first | exact mv_cell hM (by first | (dsimp only; omega) | (simp; omega)) hOld.1 | exact cell_later hM hOld.1 | exact HT.cb | exact HT.cc | (simp (maxDischargeDepth := 6) [go_sem, *]; done)), (by first | exact mv_cell hM (by first | (dsimp only; omega) | (simp; omega)) hOld.2.1 | exact cell_later hM hOld.2.1 | exact HT.cb | exact HT.cc | (simp (maxDischargeDepth := 6) [go_sem, *]; done)), (by first | exact mv_cell hM (by first | (dsimp only; omega) | (simp; omega)) hOld.2.2.1 | exact cell_later hM hOld.2.2.1 | exact HT.cb | exact HT.cc | (simp (maxDischargeDepth := 6) [go_sem, *]; done)), (by first | exact mv_cell hM (by first | (dsimp only; omega) | (simp; omega)) hOld.2.2.2.1 | exact cell_later hM hOld.2.2.2.1 | exact HT.cb | exact HT.cc | (simp (maxDischargeDepth := 6) [go_sem, *]; done)), (by first | exact mv_cell hM (by first | (dsimp only; omega) | (simp; omega)) hOld.2.2.2.2.1 | exact cell_later hM hOld.2.2.2.2.1 | exact HT.cb | exact HT.cc | (simp (maxDischargeDepth := 6) [go_sem, *]; done)), (by first | exact mv_cell hM (by first | (dsimp only; omega) | (simp; omega)) hOld.2.2.2.2.2.1 | exact cell_later hM hOld.2.2.2.2.2.1 | exact HT.cb | exact HT.cc | (simp (maxDischargeDepth := 6) [go_sem, *]; done)), (by first | exact mv_cell hM (by first | (dsimp only; omega) | (simp; omega)) hOld.2.2.2.2.2.2.1 | exact cell_later hM hOld.2.2.2.2.2.2.1 | exact HT.cb | exact HT.cc | (simp (maxDischargeDepth := 6) [go_sem, *]; done)), (by first | exact mv_cell hM (by first | (dsimp only; omega) | (simp; omega)) hOld.2.2.2.2.2.2.2.1 | exact cell_later hM hOld.2.2.2.2.2.2.2.1 | exact HT.cb | exact HT.cc | (simp (maxDischargeDepth := 6) [go_sem, *]; done)), (by first | exact mv_cell hM (by first | (dsimp only; omega) | (simp; omega)) hOld.2.2.2.2.2.2.2.2.1 | exact cell_later hM hOld.2.2.2.2.2.2.2.2.1 | exact HT.cb | exact HT.cc | (simp (maxDischargeDepth := 6) [go_sem, *]; done)), (by first | exact mv_cell hM (by first | (dsimp only; omega) | (simp; omega)) hOld.2.2.2.2.2.2.2.2.2.1 | exact cell_later hM hOld.2.2.2.2.2.2.2.2.2.1 | exact HT.cb | exact HT.cc | (simp (maxDischargeDepth := 6) [go_sem, *]; done)), (by first | exact mv_cell hM (by first | (dsimp only; omega) | (simp; omega)) hOld.2.2.2.2.2.2.2.2.2.2.1 | exact cell_later hM hOld.2.2.2.2.2.2.2.2.2.2.1 | exact HT.cb | exact HT.cc | (simp (maxDischargeDepth := 6) [go_sem, *]; done)), (by first | exact mv_cell hM (by first | (dsimp only; omega) | (simp; omega)) hOld.2.2.2.2.2.2.2.2.2.2.2 | exact cell_later hM hOld.2.2.2.2.2.2.2.2.2.2.2 | exact HT.cb | exact HT.cc | (simp (maxDischargeDepth := 6) [go_sem, *]; done))⟩ (fun hHeld => ?_)
  clear hK K hOld
  try simp only [Act.put, List.setIfInBounds_toArray, List.set_cons_zero, List.set_cons_succ]
  have hR := row_later (w := W1.drew) (by exact hR) hM; clear hM
  have hOld := hHeld; clear hHeld
  refine wpAnyH_on (i := 4) (n := 1) (l' := (#[true, true, true, true, true, false] : Array Bool)) (by kernel_rfl) (by kernel_rfl) (by kernel_rfl) (by simp only [List.getElem?_toArray, List.getElem?_cons_succ, List.getElem?_cons_zero]; rfl) (by rfl) (fun K hK => ?_)
  go_simp
  (go_at_call 12; (with_reducible refine (mvCall (b := b) (w0 := w) (by (repeat (first | with_reducible assumption | with_reducible exact Mv.refl (by assumption) (by assumption) | with_reducible apply Mv.alloc | with_reducible apply Mv.drew | with_reducible apply Mv.drewN | ((with_reducible apply Mv.setCell); rotate_left; (first | (dsimp only; omega) | omega | (simp; omega)); (first | (dsimp only; omega) | omega | (simp; omega))) | ((with_reducible apply Mv.below); rotate_left; (with_reducible assumption)) | ((with_reducible apply Mv.trans); rotate_left; (with_reducible assumption))))) (k1 _ _)).mono ?_); rintro e w1 ⟨rfl, hM, HM⟩)
  (try go_wp2_with (fail))
  refine hK.out _ _ ⟨(by first | exact mv_cell hM (by first | (dsimp only; omega) | (simp; omega)) hOld.1 | exact cell_later hM hOld.1 | exact HT.cb | exact HT.cc | (simp (maxDischargeDepth := 6) [go_sem, *]; done)), (by first | exact mv_cell hM (by first | (dsimp only; omega) | (simp; omega)) hOld.2.1 | exact cell_later hM hOld.2.1 | exact HT.cb | exact HT.cc | (simp (maxDischargeDepth := 6) [go_sem, *]; done)), (by first | exact mv_cell hM (by first | (dsimp only; omega) | (simp; omega)) hOld.2.2.1 | exact cell_later hM hOld.2.2.1 | exact HT.cb | exact HT.cc | (simp (maxDischargeDepth := 6) [go_sem, *]; done)), (by first | exact mv_cell hM (by first | (dsimp only; omega) | (simp; omega)) hOld.2.2.2.1 | exact cell_later hM hOld.2.2.2.1 | exact HT.cb | exact HT.cc | (simp (maxDischargeDepth := 6) [go_sem, *]; done)), (by first | exact mv_cell hM (by first | (dsimp only; omega) | (simp; omega)) hOld.2.2.2.2.1 | exact cell_later hM hOld.2.2.2.2.1 | exact HT.cb | exact HT.cc | (simp (maxDischargeDepth := 6) [go_sem, *]; done)), (by first | exact mv_cell hM (by first | (dsimp only; omega) | (simp; omega)) hOld.2.2.2.2.2.1 | exact cell_later hM hOld.2.2.2.2.2.1 | exact HT.cb | exact HT.cc | (simp (maxDischargeDepth := 6) [go_sem, *]; done)), (by first | exact mv_cell hM (by first | (dsimp only; omega) | (simp; omega)) hOld.2.2.2.2.2.2.1 | exact cell_later hM hOld.2.2.2.2.2.2.1 | exact HT.cb | exact HT.cc | (simp (maxDischargeDepth := 6) [go_sem, *]; done)), (by first | exact mv_cell hM (by first | (dsimp only; omega) | (simp; omega)) hOld.2.2.2.2.2.2.2.1 | exact cell_later hM hOld.2.2.2.2.2.2.2.1 | exact HT.cb | exact HT.cc | (simp (maxDischargeDepth := 6) [go_sem, *]; done)), (by first | exact mv_cell hM (by first | (dsimp only; omega) | (simp; omega)) hOld.2.2.2.2.2.2.2.2.1 | exact cell_later hM hOld.2.2.2.2.2.2.2.2.1 | exact HT.cb | exact HT.cc | (simp (maxDischargeDepth := 6) [go_sem, *]; done)), (by first | exact mv_cell hM (by first | (dsimp only; omega) | (simp; omega)) hOld.2.2.2.2.2.2.2.2.2.1 | exact cell_later hM hOld.2.2.2.2.2.2.2.2.2.1 | exact HT.cb | exact HT.cc | (simp (maxDischargeDepth := 6) [go_sem, *]; done)), (by first | exact mv_cell hM (by first | (dsimp only; omega) | (simp; omega)) hOld.2.2.2.2.2.2.2.2.2.2.1 | exact cell_later hM hOld.2.2.2.2.2.2.2.2.2.2.1 | exact HT.cb | exact HT.cc | (simp (maxDischargeDepth := 6) [go_sem, *]; done)), (by first | exact mv_cell hM (by first | (dsimp only; omega) | (simp; omega)) hOld.2.2.2.2.2.2.2.2.2.2.2 | exact cell_later hM hOld.2.2.2.2.2.2.2.2.2.2.2 | exact HT.cb | exact HT.cc | (simp (maxDischargeDepth := 6) [go_sem, *]; done))⟩ (fun hHeld => ?_)
  clear hK K hOld
  try simp only [Act.put, List.setIfInBounds_toArray, List.set_cons_zero, List.set_cons_succ]
  have hR := row_mv (g := w.heap.size + 1 + 1) hM hR (by omega); clear hM
  have hOld := hHeld; clear hHeld
  refine wpAnyH_on (i := 5) (n := 0) (l' := (#[true, true, true, true, true, true] : Array Bool)) (by kernel_rfl) (by kernel_rfl) (by kernel_rfl) (by simp only [List.getElem?_toArray, List.getElem?_cons_succ, List.getElem?_cons_zero]; rfl) (by rfl) (fun K hK => ?_)
  refine wp_store_row 26 _ _ rfl (w.heap.size + 1 + 1) #[.int .i64 d0, .int .i64 d1, .int .i64 d2] (by rfl) (by rfl) 26 _ hR (by kernel_rfl) rfl (by simp [Value.oneCell']) ?_
  refine hK.out _ _ ⟨cell_row hOld.1 (by dsimp only; omega), cell_row hOld.2.1 (by dsimp only; omega), cell_row hOld.2.2.1 (by dsimp only; omega), cell_row hOld.2.2.2.1 (by dsimp only; omega), cell_row hOld.2.2.2.2.1 (by dsimp only; omega), cell_row hOld.2.2.2.2.2.1 (by dsimp only; omega), cell_row hOld.2.2.2.2.2.2.1 (by dsimp only; omega), cell_row hOld.2.2.2.2.2.2.2.1 (by dsimp only; omega), cell_row hOld.2.2.2.2.2.2.2.2.1 (by dsimp only; omega), cell_row hOld.2.2.2.2.2.2.2.2.2.1 (by dsimp only; omega), cell_row hOld.2.2.2.2.2.2.2.2.2.2.1 (by dsimp only; omega), cell_row hOld.2.2.2.2.2.2.2.2.2.2.2 (by dsimp only; omega)⟩ (fun hHeld => ?_)
  clear hK K hOld
  try simp only [Act.put, List.setIfInBounds_toArray, List.set_cons_zero, List.set_cons_succ]
  refine wpAnyH_done (by kernel_rfl) ?_ _
  (try refine NoPanic.normal ?_)
  (try clear q0); (try clear q1); (try clear q2); (try clear q3); (try clear q4); (try clear q5); (try clear q6); (try clear q7); (try clear q8); (try clear q9); (try clear q10); (try clear q11); obtain ⟨q0, q1, q2, q3, q4, q5, q6, q7, q8, q9, q10, q11⟩ := hHeld
  have hR := row_put #[.int .i64 d0, .int .i64 d1, .int .i64 d2] hR
  go_wp2
  refine bodyPost_ret (results_cell_row rfl _ _ (w.heap.size + 1 + 1) 26 #[.int .i64 d0, .int .i64 d1, .int .i64 d2] (0, 0) _ (by rfl) hR Try.underlying26 rfl (by kernel_rfl)) rfl ⟨rfl, ?_⟩
  exact HM.row (by omega) (by omega) _
set_option maxHeartbeats 8000000 in
set_option maxRecDepth 20000 in
theorem cBack (r0 r1 r2 r3 r4 r5 r6 r7 r8 v0 v1 v2 : Int) (b : Nat) (o : Bool) (w : World) (r0_0 : -9223372036854775808 ≤ r0) (r0_1 : r0 ≤ 9223372036854775807) (r1_0 : -9223372036854775808 ≤ r1) (r1_1 : r1 ≤ 9223372036854775807) (r2_0 : -9223372036854775808 ≤ r2) (r2_1 : r2 ≤ 9223372036854775807) (r3_0 : -9223372036854775808 ≤ r3) (r3_1 : r3 ≤ 9223372036854775807) (r4_0 : -9223372036854775808 ≤ r4) (r4_1 : r4 ≤ 9223372036854775807) (r5_0 : -9223372036854775808 ≤ r5) (r5_1 : r5 ≤ 9223372036854775807) (r6_0 : -9223372036854775808 ≤ r6) (r6_1 : r6 ≤ 9223372036854775807) (r7_0 : -9223372036854775808 ≤ r7) (r7_1 : r7 ≤ 9223372036854775807) (r8_0 : -9223372036854775808 ≤ r8) (r8_1 : r8 ≤ 9223372036854775807) (v0_0 : -9223372036854775808 ≤ v0) (v0_1 : v0 ≤ 9223372036854775807) (v1_0 : -9223372036854775808 ≤ v1) (v1_1 : v1 ≤ 9223372036854775807) (v2_0 : -9223372036854775808 ≤ v2) (v2_1 : v2 ≤ 9223372036854775807) (hc : w.cell? ⟨b, 0, none⟩ = some (.bool o)) (hf : w.frozen? ⟨b, 0, none⟩ = false) :
    Calls Try.prog 13 #[.pointer (some ⟨b, 0, none⟩), .agg #[.int .i64 r0, .int .i64 r1, .int .i64 r2, .int .i64 r3, .int .i64 r4, .int .i64 r5, .int .i64 r6, .int .i64 r7, .int .i64 r8], .agg #[.int .i64 v0, .int .i64 v1, .int .i64 v2]] w fun e w' =>
      e = .returned (.agg #[.int .i64 (dt r0 r3 r6 v0 v1 v2), .int .i64 (dt r1 r4 r7 v0 v1 v2), .int .i64 (dt r2 r5 r8 v0 v1 v2)]) ∧ Mv b (o || !dtok r0 r3 r6 v0 v1 v2 || !dtok r1 r4 r7 v0 v1 v2 || !dtok r2 r5 r8 v0 v1 v2) w w' := by
  have hb := lt_of_cell hc
  have HM := Mv.refl hc hf
  clear hc hf
  have kS0 : ∀ (O : Bool) (W : World), W.cell? ⟨b, 0, none⟩ = some (.bool O) → W.frozen? ⟨b, 0, none⟩ = false → _ := fun O W h1 h2 => (cVScale r0 r1 r2 v0 b O W r0_0 r0_1 r1_0 r1_1 r2_0 r2_1 v0_0 v0_1 h1 h2).mono (fun e w' h => show _ ∧ Mv b (O || !(fx (rsh (r0 * v0)) && fx (rsh (r1 * v0)) && fx (rsh (r2 * v0)))) W w' from ⟨h.1, Mv.cast h.2 (by simp only [Bool.not_and, Bool.or_assoc])⟩)
  have kS1 : ∀ (O : Bool) (W : World), W.cell? ⟨b, 0, none⟩ = some (.bool O) → W.frozen? ⟨b, 0, none⟩ = false → _ := fun O W h1 h2 => (cVScale r3 r4 r5 v1 b O W r3_0 r3_1 r4_0 r4_1 r5_0 r5_1 v1_0 v1_1 h1 h2).mono (fun e w' h => show _ ∧ Mv b (O || !(fx (rsh (r3 * v1)) && fx (rsh (r4 * v1)) && fx (rsh (r5 * v1)))) W w' from ⟨h.1, Mv.cast h.2 (by simp only [Bool.not_and, Bool.or_assoc])⟩)
  have kS2 : ∀ (O : Bool) (W : World), W.cell? ⟨b, 0, none⟩ = some (.bool O) → W.frozen? ⟨b, 0, none⟩ = false → _ := fun O W h1 h2 => (cVScale r6 r7 r8 v2 b O W r6_0 r6_1 r7_0 r7_1 r8_0 r8_1 v2_0 v2_1 h1 h2).mono (fun e w' h => show _ ∧ Mv b (O || !(fx (rsh (r6 * v2)) && fx (rsh (r7 * v2)) && fx (rsh (r8 * v2)))) W w' from ⟨h.1, Mv.cast h.2 (by simp only [Bool.not_and, Bool.or_assoc])⟩)
  have p0_0 := sat_lo (rsh (r0 * v0))
  have p0_1 := sat_hi (rsh (r0 * v0))
  have p1_0 := sat_lo (rsh (r1 * v0))
  have p1_1 := sat_hi (rsh (r1 * v0))
  have p2_0 := sat_lo (rsh (r2 * v0))
  have p2_1 := sat_hi (rsh (r2 * v0))
  have p3_0 := sat_lo (rsh (r3 * v1))
  have p3_1 := sat_hi (rsh (r3 * v1))
  have p4_0 := sat_lo (rsh (r4 * v1))
  have p4_1 := sat_hi (rsh (r4 * v1))
  have p5_0 := sat_lo (rsh (r5 * v1))
  have p5_1 := sat_hi (rsh (r5 * v1))
  have p6_0 := sat_lo (rsh (r6 * v2))
  have p6_1 := sat_hi (rsh (r6 * v2))
  have p7_0 := sat_lo (rsh (r7 * v2))
  have p7_1 := sat_hi (rsh (r7 * v2))
  have p8_0 := sat_lo (rsh (r8 * v2))
  have p8_1 := sat_hi (rsh (r8 * v2))
  unfold dt dtok
  generalize sat (rsh (r0 * v0)) = p0 at *
  generalize fx (rsh (r0 * v0)) = u0 at *
  generalize sat (rsh (r1 * v0)) = p1 at *
  generalize fx (rsh (r1 * v0)) = u1 at *
  generalize sat (rsh (r2 * v0)) = p2 at *
  generalize fx (rsh (r2 * v0)) = u2 at *
  generalize sat (rsh (r3 * v1)) = p3 at *
  generalize fx (rsh (r3 * v1)) = u3 at *
  generalize sat (rsh (r4 * v1)) = p4 at *
  generalize fx (rsh (r4 * v1)) = u4 at *
  generalize sat (rsh (r5 * v1)) = p5 at *
  generalize fx (rsh (r5 * v1)) = u5 at *
  generalize sat (rsh (r6 * v2)) = p6 at *
  generalize fx (rsh (r6 * v2)) = u6 at *
  generalize sat (rsh (r7 * v2)) = p7 at *
  generalize fx (rsh (r7 * v2)) = u7 at *
  generalize sat (rsh (r8 * v2)) = p8 at *
  generalize fx (rsh (r8 * v2)) = u8 at *
  have kS3 := fun O W => cVAdd p0 p1 p2 p3 p4 p5 b O W p0_0 p0_1 p1_0 p1_1 p2_0 p2_1 p3_0 p3_1 p4_0 p4_1 p5_0 p5_1
  have s0_0 := sat_lo (p0 + p3)
  have s0_1 := sat_hi (p0 + p3)
  generalize sat (p0 + p3) = s0 at *
  generalize fx (p0 + p3) = f0 at *
  have s1_0 := sat_lo (p1 + p4)
  have s1_1 := sat_hi (p1 + p4)
  generalize sat (p1 + p4) = s1 at *
  generalize fx (p1 + p4) = f1 at *
  have s2_0 := sat_lo (p2 + p5)
  have s2_1 := sat_hi (p2 + p5)
  generalize sat (p2 + p5) = s2 at *
  generalize fx (p2 + p5) = f2 at *
  have kS4 := fun O W => cVAdd s0 s1 s2 p6 p7 p8 b O W s0_0 s0_1 s1_0 s1_1 s2_0 s2_1 p6_0 p6_1 p7_0 p7_1 p8_0 p8_1
  generalize sat (s0 + p6) = d0 at *
  generalize fx (s0 + p6) = h0 at *
  generalize sat (s1 + p7) = d1 at *
  generalize fx (s1 + p7) = h1 at *
  generalize sat (s2 + p8) = d2 at *
  generalize fx (s2 + p8) = h2 at *
  clear p0_0 p0_1 r0_0 r0_1
  clear p1_0 p1_1 r1_0 r1_1
  clear p2_0 p2_1 r2_0 r2_1
  clear p3_0 p3_1 r3_0 r3_1
  clear p4_0 p4_1 r4_0 r4_1
  clear p5_0 p5_1 r5_0 r5_1
  clear p6_0 p6_1 r6_0 r6_1
  clear p7_0 p7_1 r7_0 r7_1
  clear p8_0 p8_1 r8_0 r8_1
  clear s0_0 s0_1 s1_0 s1_1 s2_0 s2_1 v0_0 v0_1 v1_0 v1_1 v2_0 v2_1
  go_enter Try.func13, Try.ntmps13
  go_upto_region 1 with (fail)
  generalize hW : World.alloc _ _ = W1
  have hR : W1.heap[w.heap.size + 1 + 1]? = some (.cells #[.int .i64 0, .int .i64 0, .int .i64 0] 26 (0, 0)) := by
    rw [← hW]
    have := row_new ((w.alloc (.cells #[.int .i64 r0, .int .i64 r1, .int .i64 r2, .int .i64 r3, .int .i64 r4, .int .i64 r5, .int .i64 r6, .int .i64 r7, .int .i64 r8] 33)).alloc (.cells #[.int .i64 v0, .int .i64 v1, .int .i64 v2] 26)) (.cells #[.int .i64 0, .int .i64 0, .int .i64 0] 26)
    simpa only [World.size_alloc] using this
  have BA : Bk w.heap.size 0 [.int .i64 r0, .int .i64 r1, .int .i64 r2, .int .i64 r3, .int .i64 r4, .int .i64 r5, .int .i64 r6, .int .i64 r7, .int .i64 r8] W1 := by rw [← hW]; simp [Bk, go_sem]
  have BV : Bk (w.heap.size + 1) 0 [.int .i64 v0, .int .i64 v1, .int .i64 v2] W1 := by rw [← hW]; simp [Bk, go_sem]
  have HM0 : Mv b o w W1 := by rw [← hW]; exact ((HM.alloc _).alloc _).alloc _
  have hz0 : W1.heap.size = w.heap.size + 3 := by rw [← hW]; simp
  clear hW HM
  have HM : Mv b o W1 W1 := Mv.refl HM0.cell HM0.free
  have C_BA := BA
  have C_BV := BV
  simp only [Bk] at C_BA C_BV
  (try simp only [List.cons_append, List.nil_append])
  (try refine wp_region_noPanic ?_)
  refine wp_region_ssa (S := (fun (w' : World) => Bk w.heap.size 0 [.int .i64 r0, .int .i64 r1, .int .i64 r2, .int .i64 r3, .int .i64 r4, .int .i64 r5, .int .i64 r6, .int .i64 r7, .int .i64 r8] w' ∧ Bk (w.heap.size + 1) 0 [.int .i64 v0, .int .i64 v1, .int .i64 v2] w')) (#[none, none, none, none, none, none, none, some 18, some 19, some 20, some 0, some 1, some 2, some 3, some 4, some 5, some 6, some 7, some 8, some 9, some 10, some 11, some 12, some 13, some 14, some 15, some 16, some 17] : Array (Option Nat)) (by kernel_rfl) (by kernel_rfl) (by kernel_rfl) ⟨by (repeat (first | with_reducible assumption | with_reducible apply Bk.drew | with_reducible apply Bk.alloc | with_reducible apply Bk.later (hB := hR) | with_reducible apply Bk.later (hB := hM) | ((with_reducible apply Bk.mv hM); (focus omega)) | ((with_reducible apply Bk.later); rotate_left; (with_reducible assumption)) | ((with_reducible apply Bk.put); rotate_left; (first | (dsimp only; omega))))), by (repeat (first | with_reducible assumption | with_reducible apply Bk.drew | with_reducible apply Bk.alloc | with_reducible apply Bk.later (hB := hR) | with_reducible apply Bk.later (hB := hM) | ((with_reducible apply Bk.mv hM); (focus omega)) | ((with_reducible apply Bk.later); rotate_left; (with_reducible assumption)) | ((with_reducible apply Bk.put); rotate_left; (first | (dsimp only; omega)))))⟩ (fun hSSA hHeld => ?_)
  refine wpAnyH_sl (n := 15) (l' := (#[true, true, false, true, false, false, true, true, false, true, false, false, true, true, false, true, false, false, false, false, false, false, false, false] : Array Bool)) [0, 1, 3, 6, 7, 9, 12, 13, 15] [some 10, some 11, some 13, some 16, some 17, some 19, some 22, some 23, some 25] hSSA (
    LvY.take (by rfl) (by intro w hSw; (try dsimp only at hSw); (try simp only [Bk] at hSw); go_simp; try with_reducible rfl) <|
    LvY.take (by rfl) (by intro w hSw; (try dsimp only at hSw); (try simp only [Bk] at hSw); go_simp; try with_reducible rfl) <|
    LvY.skip <|
    LvY.take (by rfl) (by intro w hSw; (try dsimp only at hSw); (try simp only [Bk] at hSw); go_simp; try with_reducible rfl) <|
    LvY.skip <|
    LvY.skip <|
    LvY.take (by rfl) (by intro w hSw; (try dsimp only at hSw); (try simp only [Bk] at hSw); go_simp; try with_reducible rfl) <|
    LvY.take (by rfl) (by intro w hSw; (try dsimp only at hSw); (try simp only [Bk] at hSw); go_simp; try with_reducible rfl) <|
    LvY.skip <|
    LvY.take (by rfl) (by intro w hSw; (try dsimp only at hSw); (try simp only [Bk] at hSw); go_simp; try with_reducible rfl) <|
    LvY.skip <|
    LvY.skip <|
    LvY.take (by rfl) (by intro w hSw; (try dsimp only at hSw); (try simp only [Bk] at hSw); go_simp; try with_reducible rfl) <|
    LvY.take (by rfl) (by intro w hSw; (try dsimp only at hSw); (try simp only [Bk] at hSw); go_simp; try with_reducible rfl) <|
    LvY.skip <|
    LvY.take (by rfl) (by intro w hSw; (try dsimp only at hSw); (try simp only [Bk] at hSw); go_simp; try with_reducible rfl) <|
    LvY.skip <|
    LvY.skip <|
    LvY.skip <|
    LvY.skip <|
    LvY.skip <|
    LvY.skip <|
    LvY.skip <|
    LvY.skip <|
    LvY.nil) (by rfl) (by rfl) (by kernel_rfl) (fun _ _ _ _ _ h => h) (by kernel_rfl) (by kernel_rfl) (by kernel_rfl) (by assumption) ?_
  simp only [lvVs, putDs, Act.put, List.setIfInBounds_toArray, List.set_cons_zero, List.set_cons_succ]
  refine wpAnyH_sl (n := 9) (l' := (#[true, true, true, true, true, false, true, true, true, true, true, false, true, true, true, true, true, false, false, false, false, false, false, false] : Array Bool)) [2, 4, 8, 10, 14, 16] [some 12, some 14, some 18, some 20, some 24, some 26] hSSA (
    LvY.skip <|
    LvY.skip <|
    LvY.take (by rfl) (by intro w hSw; (try dsimp only at hSw); (try simp only [Bk] at hSw); go_simp; try with_reducible rfl) <|
    LvY.skip <|
    LvY.take (by rfl) (by intro w hSw; (try dsimp only at hSw); (try simp only [Bk] at hSw); go_simp; try with_reducible rfl) <|
    LvY.skip <|
    LvY.skip <|
    LvY.skip <|
    LvY.take (by rfl) (by intro w hSw; (try dsimp only at hSw); (try simp only [Bk] at hSw); go_simp; try with_reducible rfl) <|
    LvY.skip <|
    LvY.take (by rfl) (by intro w hSw; (try dsimp only at hSw); (try simp only [Bk] at hSw); go_simp; try with_reducible rfl) <|
    LvY.skip <|
    LvY.skip <|
    LvY.skip <|
    LvY.take (by rfl) (by intro w hSw; (try dsimp only at hSw); (try simp only [Bk] at hSw); go_simp; try with_reducible rfl) <|
    LvY.skip <|
    LvY.take (by rfl) (by intro w hSw; (try dsimp only at hSw); (try simp only [Bk] at hSw); go_simp; try with_reducible rfl) <|
    LvY.skip <|
    LvY.skip <|
    LvY.skip <|
    LvY.skip <|
    LvY.skip <|
    LvY.skip <|
    LvY.skip <|
    LvY.nil) (by rfl) (by rfl) (by kernel_rfl) (fun _ _ _ _ _ h => h) (by kernel_rfl) (by kernel_rfl) (by kernel_rfl) (by assumption) ?_
  simp only [lvVs, putDs, Act.put, List.setIfInBounds_toArray, List.set_cons_zero, List.set_cons_succ]
  refine wpAnyH_listed (l' := #[true, true, true, true, true, false, true, true, true, true, true, false, true, true, true, true, true, false, false, false, false, false, false, false]) (by kernel_rfl) ?_
  refine wpAnyH_from2 [17, 18, 19, 20] (fun l0 a0 l a w' => ∃ (c0 c1 c2 b0 b1 b2 : Bool) (x0 x1 x2 y0 y1 y2 : Value), l = sets l0 [(5, c0), (11, c1), (17, c2), (18, b0), (19, b1), (20, b2)] ∧ a = puts a0 [(15, x0), (21, x1), (27, x2), (7, y0), (8, y1), (9, y2)] ∧ (c1 = true → c0 = true) ∧ (c2 = true → c1 = true) ∧ (c0 = true → x0 = .agg #[.int .i64 p0, .int .i64 p1, .int .i64 p2]) ∧ (c1 = true → x1 = .agg #[.int .i64 p3, .int .i64 p4, .int .i64 p5]) ∧ (c2 = true → x2 = .agg #[.int .i64 p6, .int .i64 p7, .int .i64 p8]) ∧ (b0 = true → ∃ g : Nat, y0 = .pointer (some ⟨g, 0, none⟩) ∧ Bk g 0 [.int .i64 0, .int .i64 0, .int .i64 0] w' ∧ (W1).heap.size ≤ g) ∧ (b1 = true → ∃ g : Nat, y1 = .pointer (some ⟨g, 0, none⟩) ∧ Bk g 0 [.int .i64 0, .int .i64 0, .int .i64 0] w' ∧ (W1).heap.size ≤ g) ∧ (b2 = true → ∃ g : Nat, y2 = .pointer (some ⟨g, 0, none⟩) ∧ Bk g 0 [.int .i64 0, .int .i64 0, .int .i64 0] w' ∧ (W1).heap.size ≤ g) ∧ (b0 = true → b1 = true → y0 ≠ y1) ∧ (b0 = true → b2 = true → y0 ≠ y2) ∧ (b1 = true → b2 = true → y1 ≠ y2) ∧ Bk w.heap.size 0 [.int .i64 r0, .int .i64 r1, .int .i64 r2, .int .i64 r3, .int .i64 r4, .int .i64 r5, .int .i64 r6, .int .i64 r7, .int .i64 r8] w' ∧ Bk (w.heap.size + 1) 0 [.int .i64 v0, .int .i64 v1, .int .i64 v2] w' ∧ (W1).heap.size ≤ w'.heap.size ∧ Mv b ((o) || (c0 && !(u0 && u1 && u2)) || (c1 && !(u3 && u4 && u5)) || (c2 && !(u6 && u7 && u8))) W1 w') (by kernel_rfl) ?_ ?_ ?_ ?_ ?_ ?_
  rotate_left 4
  · exact of_decide_eq_true (by kernel_rfl)
  · exact ⟨false, false, false, false, false, false, undef, undef, undef, undef, undef, undef, by first | (simp only [sets, List.setIfInBounds_toArray, List.set_cons_zero, List.set_cons_succ]; done) | rfl, by first | (simp only [puts, Act.put, List.setIfInBounds_toArray, List.set_cons_zero, List.set_cons_succ]; done) | rfl, (fun h => by cases h), (fun h => by cases h), (fun h => by cases h), (fun h => by cases h), (fun h => by cases h), (fun h => by cases h), (fun h => by cases h), (fun h => by cases h), (fun h => by cases h), (fun h => by cases h), (fun h => by cases h), by (repeat (first | with_reducible assumption | with_reducible apply Bk.drew | with_reducible apply Bk.alloc | with_reducible apply Bk.later (hB := hR) | with_reducible apply Bk.later (hB := hM) | ((with_reducible apply Bk.mv hM); (focus omega)) | ((with_reducible apply Bk.later); rotate_left; (with_reducible assumption)) | ((with_reducible apply Bk.put); rotate_left; (first | (dsimp only; omega))))), by (repeat (first | with_reducible assumption | with_reducible apply Bk.drew | with_reducible apply Bk.alloc | with_reducible apply Bk.later (hB := hR) | with_reducible apply Bk.later (hB := hM) | ((with_reducible apply Bk.mv hM); (focus omega)) | ((with_reducible apply Bk.later); rotate_left; (with_reducible assumption)) | ((with_reducible apply Bk.put); rotate_left; (first | (dsimp only; omega))))), by first | exact Nat.le_refl _ | (simp; done), Mv.cast (by (repeat (first | with_reducible assumption | with_reducible exact Mv.refl (by assumption) (by assumption) | with_reducible apply Mv.alloc | with_reducible apply Mv.drew | with_reducible apply Mv.drewN | ((with_reducible apply Mv.setCell); rotate_left; (first | (dsimp only; omega) | omega | (simp; omega)); (first | (dsimp only; omega) | omega | (simp; omega))) | ((with_reducible apply Mv.below); rotate_left; (with_reducible assumption)) | ((with_reducible apply Mv.trans); rotate_left; (with_reducible assumption))))) (by simp only [Bool.false_and, Bool.or_false])⟩
  · rintro l a w' ⟨c0, c1, c2, b0, b1, b2, x0, x1, x2, y0, y1, y2, rfl, rfl, k0, k1, v0, v1, v2, a0, a1, a2, e0_1, e0_2, e1_2, B0, B1, hz9, HM⟩; rw [sets_size]; kernel_rfl
  · rintro l a w' ⟨c0, c1, c2, b0, b1, b2, x0, x1, x2, y0, y1, y2, rfl, rfl, k0, k1, v0, v1, v2, a0, a1, a2, e0_1, e0_2, e1_2, B0, B1, hz9, HM⟩; exact ⟨B0, B1⟩
  · rintro l a w' ⟨c0, c1, c2, b0, b1, b2, x0, x1, x2, y0, y1, y2, rfl, rfl, k0, k1, v0, v1, v2, a0, a1, a2, e0_1, e0_2, e1_2, B0, B1, hz9, HM⟩ hf i hi hd
    have hcd := cand_of [(5, c0), (11, c1), (17, c2), (18, b0), (19, b1), (20, b2)] (cand := [5, 11, 17, 18, 19, 20, 21, 22, 23]) (by kernel_rfl) (by kernel_rfl) hi
    simp only [List.mem_cons, List.not_mem_nil, or_false] at hcd
    rcases hcd with rfl | rfl | rfl | rfl | rfl | rfl | rfl | rfl | rfl
    · have hi0 := hi
      simp only [sets, List.setIfInBounds_toArray, List.set_cons_zero, List.set_cons_succ, Array.getD_eq_getD_getElem?, List.getElem?_toArray, List.getElem?_cons_zero, List.getElem?_cons_succ, Option.getD_some] at hi
      subst hi
      clear hf hd hi0
      refine wpOp_shut rfl (fun K hK => ?_)
      simp only [puts, Act.put, List.setIfInBounds_toArray, List.set_cons_zero, List.set_cons_succ]
      have hbL := lt_of_cell HM.cell
      go_simp
      (go_at_call 41; (with_reducible refine (mvCall (b := b) (w0 := W1) HM (kS0 _ _)).mono ?_); rintro e wr ⟨rfl, hR, HM⟩)
      have hzr := hR.size
      (try go_wp2_with (fail))
      exact hK.out _ _ ⟨true, c1, c2, b0, b1, b2, .agg #[.int .i64 p0, .int .i64 p1, .int .i64 p2], x1, x2, y0, y1, y2, by first | (simp only [sets, List.setIfInBounds_toArray, List.set_cons_zero, List.set_cons_succ]; done) | rfl, by first | (simp only [puts, Act.put, List.setIfInBounds_toArray, List.set_cons_zero, List.set_cons_succ]; done) | rfl, (fun _ => rfl), k1, (fun _ => rfl), v1, v2, (fun h => by obtain ⟨g, h1, h2, h3⟩ := a0 h; exact ⟨g, h1, Bk.mv hR (by omega) h2, h3⟩), (fun h => by obtain ⟨g, h1, h2, h3⟩ := a1 h; exact ⟨g, h1, Bk.mv hR (by omega) h2, h3⟩), (fun h => by obtain ⟨g, h1, h2, h3⟩ := a2 h; exact ⟨g, h1, Bk.mv hR (by omega) h2, h3⟩), e0_1, e0_2, e1_2, Bk.mv hR (by omega) B0, Bk.mv hR (by omega) B1, (by omega), Mv.cast HM (by simp only [Bool.true_and, Bool.false_and, Bool.or_false, Bool.false_or, Bool.or_assoc, Bool.or_left_comm, Bool.or_comm])⟩
    · have hi0 := hi
      simp only [sets, List.setIfInBounds_toArray, List.set_cons_zero, List.set_cons_succ, Array.getD_eq_getD_getElem?, List.getElem?_toArray, List.getElem?_cons_zero, List.getElem?_cons_succ, Option.getD_some] at hi
      subst hi
      have hx := dep_of hd 5 (by kernel_rfl); simp only [sets, List.setIfInBounds_toArray, List.set_cons_zero, List.set_cons_succ, Array.getD_eq_getD_getElem?, List.getElem?_toArray, List.getElem?_cons_zero, List.getElem?_cons_succ, Option.getD_some] at hx; subst hx
      clear hf hd hi0
      refine wpOp_shut rfl (fun K hK => ?_)
      simp only [puts, Act.put, List.setIfInBounds_toArray, List.set_cons_zero, List.set_cons_succ]
      have hv0 := v0 rfl; subst hv0
      have hbL := lt_of_cell HM.cell
      go_simp
      (go_at_call 41; (with_reducible refine (mvCall (b := b) (w0 := W1) HM (kS1 _ _)).mono ?_); rintro e wr ⟨rfl, hR, HM⟩)
      have hzr := hR.size
      (try go_wp2_with (fail))
      exact hK.out _ _ ⟨true, true, c2, b0, b1, b2, .agg #[.int .i64 p0, .int .i64 p1, .int .i64 p2], .agg #[.int .i64 p3, .int .i64 p4, .int .i64 p5], x2, y0, y1, y2, by first | (simp only [sets, List.setIfInBounds_toArray, List.set_cons_zero, List.set_cons_succ]; done) | rfl, by first | (simp only [puts, Act.put, List.setIfInBounds_toArray, List.set_cons_zero, List.set_cons_succ]; done) | rfl, (fun _ => rfl), (fun _ => rfl), (fun _ => rfl), (fun _ => rfl), v2, (fun h => by obtain ⟨g, h1, h2, h3⟩ := a0 h; exact ⟨g, h1, Bk.mv hR (by omega) h2, h3⟩), (fun h => by obtain ⟨g, h1, h2, h3⟩ := a1 h; exact ⟨g, h1, Bk.mv hR (by omega) h2, h3⟩), (fun h => by obtain ⟨g, h1, h2, h3⟩ := a2 h; exact ⟨g, h1, Bk.mv hR (by omega) h2, h3⟩), e0_1, e0_2, e1_2, Bk.mv hR (by omega) B0, Bk.mv hR (by omega) B1, (by omega), Mv.cast HM (by simp only [Bool.true_and, Bool.false_and, Bool.or_false, Bool.false_or, Bool.or_assoc, Bool.or_left_comm, Bool.or_comm])⟩
    · have hi0 := hi
      simp only [sets, List.setIfInBounds_toArray, List.set_cons_zero, List.set_cons_succ, Array.getD_eq_getD_getElem?, List.getElem?_toArray, List.getElem?_cons_zero, List.getElem?_cons_succ, Option.getD_some] at hi
      subst hi
      have hx := dep_of hd 11 (by kernel_rfl); simp only [sets, List.setIfInBounds_toArray, List.set_cons_zero, List.set_cons_succ, Array.getD_eq_getD_getElem?, List.getElem?_toArray, List.getElem?_cons_zero, List.getElem?_cons_succ, Option.getD_some] at hx; subst hx
      clear hf hd hi0
      refine wpOp_shut rfl (fun K hK => ?_)
      have hk0 := k0 rfl; subst hk0
      simp only [puts, Act.put, List.setIfInBounds_toArray, List.set_cons_zero, List.set_cons_succ]
      have hv0 := v0 rfl; subst hv0
      have hv1 := v1 rfl; subst hv1
      have hbL := lt_of_cell HM.cell
      go_simp
      (go_at_call 41; (with_reducible refine (mvCall (b := b) (w0 := W1) HM (kS2 _ _)).mono ?_); rintro e wr ⟨rfl, hR, HM⟩)
      have hzr := hR.size
      (try go_wp2_with (fail))
      exact hK.out _ _ ⟨true, true, true, b0, b1, b2, .agg #[.int .i64 p0, .int .i64 p1, .int .i64 p2], .agg #[.int .i64 p3, .int .i64 p4, .int .i64 p5], .agg #[.int .i64 p6, .int .i64 p7, .int .i64 p8], y0, y1, y2, by first | (simp only [sets, List.setIfInBounds_toArray, List.set_cons_zero, List.set_cons_succ]; done) | rfl, by first | (simp only [puts, Act.put, List.setIfInBounds_toArray, List.set_cons_zero, List.set_cons_succ]; done) | rfl, (fun _ => rfl), (fun _ => rfl), (fun _ => rfl), (fun _ => rfl), (fun _ => rfl), (fun h => by obtain ⟨g, h1, h2, h3⟩ := a0 h; exact ⟨g, h1, Bk.mv hR (by omega) h2, h3⟩), (fun h => by obtain ⟨g, h1, h2, h3⟩ := a1 h; exact ⟨g, h1, Bk.mv hR (by omega) h2, h3⟩), (fun h => by obtain ⟨g, h1, h2, h3⟩ := a2 h; exact ⟨g, h1, Bk.mv hR (by omega) h2, h3⟩), e0_1, e0_2, e1_2, Bk.mv hR (by omega) B0, Bk.mv hR (by omega) B1, (by omega), Mv.cast HM (by simp only [Bool.true_and, Bool.false_and, Bool.or_false, Bool.false_or, Bool.or_assoc, Bool.or_left_comm, Bool.or_comm])⟩
    · have hi0 := hi
      simp only [sets, List.setIfInBounds_toArray, List.set_cons_zero, List.set_cons_succ, Array.getD_eq_getD_getElem?, List.getElem?_toArray, List.getElem?_cons_zero, List.getElem?_cons_succ, Option.getD_some] at hi
      subst hi
      clear hf hd hi0
      refine wpOp_shut rfl (fun K hK => ?_)
      simp only [puts, Act.put, List.setIfInBounds_toArray, List.set_cons_zero, List.set_cons_succ]
      have hzn := hz9
      go_simp
      exact hK.out _ _ ⟨c0, c1, c2, true, b1, b2, x0, x1, x2, .pointer (some ⟨w'.heap.size, 0, none⟩), y1, y2, by first | (simp only [sets, List.setIfInBounds_toArray, List.set_cons_zero, List.set_cons_succ]; done) | rfl, by first | (simp only [puts, Act.put, List.setIfInBounds_toArray, List.set_cons_zero, List.set_cons_succ]; done) | rfl, k0, k1, v0, v1, v2, (fun _ => ⟨w'.heap.size, rfl, by simp [Bk, go_sem], hz9⟩), (fun h => by obtain ⟨g, h1, h2, h3⟩ := a1 h; exact ⟨g, h1, Bk.alloc h2 _, h3⟩), (fun h => by obtain ⟨g, h1, h2, h3⟩ := a2 h; exact ⟨g, h1, Bk.alloc h2 _, h3⟩), (fun _ h => by obtain ⟨g, h1, h2, h3⟩ := a1 h; rw [h1]; intro hh; simp at hh; have := World.block_lt_of_cell? _ _ h2.1; dsimp only at this; omega), (fun _ h => by obtain ⟨g, h1, h2, h3⟩ := a2 h; rw [h1]; intro hh; simp at hh; have := World.block_lt_of_cell? _ _ h2.1; dsimp only at this; omega), e1_2, Bk.alloc B0 _, Bk.alloc B1 _, (by simp only [World.size_alloc]; omega), HM.alloc _⟩
    · have hi0 := hi
      simp only [sets, List.setIfInBounds_toArray, List.set_cons_zero, List.set_cons_succ, Array.getD_eq_getD_getElem?, List.getElem?_toArray, List.getElem?_cons_zero, List.getElem?_cons_succ, Option.getD_some] at hi
      subst hi
      clear hf hd hi0
      refine wpOp_shut rfl (fun K hK => ?_)
      simp only [puts, Act.put, List.setIfInBounds_toArray, List.set_cons_zero, List.set_cons_succ]
      have hzn := hz9
      go_simp
      exact hK.out _ _ ⟨c0, c1, c2, b0, true, b2, x0, x1, x2, y0, .pointer (some ⟨w'.heap.size, 0, none⟩), y2, by first | (simp only [sets, List.setIfInBounds_toArray, List.set_cons_zero, List.set_cons_succ]; done) | rfl, by first | (simp only [puts, Act.put, List.setIfInBounds_toArray, List.set_cons_zero, List.set_cons_succ]; done) | rfl, k0, k1, v0, v1, v2, (fun h => by obtain ⟨g, h1, h2, h3⟩ := a0 h; exact ⟨g, h1, Bk.alloc h2 _, h3⟩), (fun _ => ⟨w'.heap.size, rfl, by simp [Bk, go_sem], hz9⟩), (fun h => by obtain ⟨g, h1, h2, h3⟩ := a2 h; exact ⟨g, h1, Bk.alloc h2 _, h3⟩), (fun h _ => by obtain ⟨g, h1, h2, h3⟩ := a0 h; rw [h1]; intro hh; simp at hh; have := World.block_lt_of_cell? _ _ h2.1; dsimp only at this; omega), e0_2, (fun _ h => by obtain ⟨g, h1, h2, h3⟩ := a2 h; rw [h1]; intro hh; simp at hh; have := World.block_lt_of_cell? _ _ h2.1; dsimp only at this; omega), Bk.alloc B0 _, Bk.alloc B1 _, (by simp only [World.size_alloc]; omega), HM.alloc _⟩
    · have hi0 := hi
      simp only [sets, List.setIfInBounds_toArray, List.set_cons_zero, List.set_cons_succ, Array.getD_eq_getD_getElem?, List.getElem?_toArray, List.getElem?_cons_zero, List.getElem?_cons_succ, Option.getD_some] at hi
      subst hi
      clear hf hd hi0
      refine wpOp_shut rfl (fun K hK => ?_)
      simp only [puts, Act.put, List.setIfInBounds_toArray, List.set_cons_zero, List.set_cons_succ]
      have hzn := hz9
      go_simp
      exact hK.out _ _ ⟨c0, c1, c2, b0, b1, true, x0, x1, x2, y0, y1, .pointer (some ⟨w'.heap.size, 0, none⟩), by first | (simp only [sets, List.setIfInBounds_toArray, List.set_cons_zero, List.set_cons_succ]; done) | rfl, by first | (simp only [puts, Act.put, List.setIfInBounds_toArray, List.set_cons_zero, List.set_cons_succ]; done) | rfl, k0, k1, v0, v1, v2, (fun h => by obtain ⟨g, h1, h2, h3⟩ := a0 h; exact ⟨g, h1, Bk.alloc h2 _, h3⟩), (fun h => by obtain ⟨g, h1, h2, h3⟩ := a1 h; exact ⟨g, h1, Bk.alloc h2 _, h3⟩), (fun _ => ⟨w'.heap.size, rfl, by simp [Bk, go_sem], hz9⟩), e0_1, (fun h _ => by obtain ⟨g, h1, h2, h3⟩ := a0 h; rw [h1]; intro hh; simp at hh; have := World.block_lt_of_cell? _ _ h2.1; dsimp only at this; omega), (fun h _ => by obtain ⟨g, h1, h2, h3⟩ := a1 h; rw [h1]; intro hh; simp at hh; have := World.block_lt_of_cell? _ _ h2.1; dsimp only at this; omega), Bk.alloc B0 _, Bk.alloc B1 _, (by simp only [World.size_alloc]; omega), HM.alloc _⟩
    · have hi0 := hi
      have hx0 := dep_of hd 17 (by kernel_rfl); simp only [sets, List.setIfInBounds_toArray, List.set_cons_zero, List.set_cons_succ, Array.getD_eq_getD_getElem?, List.getElem?_toArray, List.getElem?_cons_zero, List.getElem?_cons_succ, Option.getD_some] at hx0; subst hx0
      have hx1 := dep_of hd 18 (by kernel_rfl); simp only [sets, List.setIfInBounds_toArray, List.set_cons_zero, List.set_cons_succ, Array.getD_eq_getD_getElem?, List.getElem?_toArray, List.getElem?_cons_zero, List.getElem?_cons_succ, Option.getD_some] at hx1; subst hx1
      have hx2 := dep_of hd 19 (by kernel_rfl); simp only [sets, List.setIfInBounds_toArray, List.set_cons_zero, List.set_cons_succ, Array.getD_eq_getD_getElem?, List.getElem?_toArray, List.getElem?_cons_zero, List.getElem?_cons_succ, Option.getD_some] at hx2; subst hx2
      have hx3 := dep_of hd 20 (by kernel_rfl); simp only [sets, List.setIfInBounds_toArray, List.set_cons_zero, List.set_cons_succ, Array.getD_eq_getD_getElem?, List.getElem?_toArray, List.getElem?_cons_zero, List.getElem?_cons_succ, Option.getD_some] at hx3; subst hx3
      obtain ⟨q, hq, hf⟩ := hf; simp only [List.mem_cons, List.not_mem_nil, or_false] at hq
      rcases hq with rfl | rfl | rfl | rfl <;> simp only [sets, List.setIfInBounds_toArray, List.set_cons_zero, List.set_cons_succ, Array.getD_eq_getD_getElem?, List.getElem?_toArray, List.getElem?_cons_zero, List.getElem?_cons_succ, Option.getD_some] at hf <;> cases hf
    · have hi0 := hi
      have hx := dep_of hd 21 (by kernel_rfl); simp only [sets, List.setIfInBounds_toArray, List.set_cons_zero, List.set_cons_succ, Array.getD_eq_getD_getElem?, List.getElem?_toArray, List.getElem?_cons_zero, List.getElem?_cons_succ, Option.getD_some] at hx; cases hx
    · have hi0 := hi
      have hx := dep_of hd 21 (by kernel_rfl); simp only [sets, List.setIfInBounds_toArray, List.set_cons_zero, List.set_cons_succ, Array.getD_eq_getD_getElem?, List.getElem?_toArray, List.getElem?_cons_zero, List.getElem?_cons_succ, Option.getD_some] at hx; cases hx
  rintro l a w' n ⟨c0, c1, c2, b0, b1, b2, x0, x1, x2, y0, y1, y2, rfl, rfl, k0, k1, v0, v1, v2, a0, a1, a2, e0_1, e0_2, e1_2, B0, B1, hz9, HM⟩ hf hu
  have hf0 := hf 17 (by simp); simp only [sets, List.setIfInBounds_toArray, List.set_cons_zero, List.set_cons_succ, Array.getD_eq_getD_getElem?, List.getElem?_toArray, List.getElem?_cons_zero, List.getElem?_cons_succ, Option.getD_some] at hf0; subst hf0
  have hf1 := hf 18 (by simp); simp only [sets, List.setIfInBounds_toArray, List.set_cons_zero, List.set_cons_succ, Array.getD_eq_getD_getElem?, List.getElem?_toArray, List.getElem?_cons_zero, List.getElem?_cons_succ, Option.getD_some] at hf1; subst hf1
  have hf2 := hf 19 (by simp); simp only [sets, List.setIfInBounds_toArray, List.set_cons_zero, List.set_cons_succ, Array.getD_eq_getD_getElem?, List.getElem?_toArray, List.getElem?_cons_zero, List.getElem?_cons_succ, Option.getD_some] at hf2; subst hf2
  have hf3 := hf 20 (by simp); simp only [sets, List.setIfInBounds_toArray, List.set_cons_zero, List.set_cons_succ, Array.getD_eq_getD_getElem?, List.getElem?_toArray, List.getElem?_cons_zero, List.getElem?_cons_succ, Option.getD_some] at hf3; subst hf3
  have hk1 := k1 rfl; subst hk1
  have hk0 := k0 rfl; subst hk0
  have hv0 := v0 rfl; subst hv0
  have hv1 := v1 rfl; subst hv1
  have hv2 := v2 rfl; subst hv2
  obtain ⟨g0, rfl, G0, L0⟩ := a0 rfl
  obtain ⟨g1, rfl, G1, L1⟩ := a1 rfl
  obtain ⟨g2, rfl, G2, L2⟩ := a2 rfl
  have ne0_1 : g0 ≠ g1 := fun h => e0_1 rfl rfl (by rw [h])
  have ne1_0 := ne0_1.symm
  have ne0_2 : g0 ≠ g2 := fun h => e0_2 rfl rfl (by rw [h])
  have ne2_0 := ne0_2.symm
  have ne1_2 : g1 ≠ g2 := fun h => e1_2 rfl rfl (by rw [h])
  have ne2_1 := ne1_2.symm
  have hbL := lt_of_cell HM.cell
  have N0 : g0 ≠ b := by omega
  have N1 : g1 ≠ b := by omega
  have N2 : g2 ≠ b := by omega
  obtain ⟨n, rfl⟩ : ∃ q, n = q + 3 := ⟨n - 3, by have hu2 := Nat.le_trans (by (simp only [sets, List.setIfInBounds_toArray, List.set_cons_zero, List.set_cons_succ]); exact of_decide_eq_true (by kernel_rfl) : 3 ≤ _) hu; omega⟩
  simp only [sets, puts, Act.put, List.setIfInBounds_toArray, List.set_cons_zero, List.set_cons_succ]
  clear hu k0 k1 v0 v1 v2
  have hHeld : (fun (w' : World) => Bk w.heap.size 0 [.int .i64 r0, .int .i64 r1, .int .i64 r2, .int .i64 r3, .int .i64 r4, .int .i64 r5, .int .i64 r6, .int .i64 r7, .int .i64 r8] w' ∧ Bk (w.heap.size + 1) 0 [.int .i64 v0, .int .i64 v1, .int .i64 v2] w') w' := ⟨B0, B1⟩
  have C_B0 := B0; simp only [Bk] at C_B0
  have C_B1 := B1; simp only [Bk] at C_B1
  have C_G0 := G0; simp only [Bk] at C_G0
  have C_G1 := G1; simp only [Bk] at C_G1
  have C_G2 := G2; simp only [Bk] at C_G2
  have hOld := hHeld; clear hHeld
  refine wpAnyH_ready (rs := [21]) (by kernel_rfl) (by simp) (AllReadyH.cons rfl (fun K hK => ?_) AllReadyH.nil)
  go_simp
  refine hK.out _ _ ⟨by (repeat (first | with_reducible assumption | with_reducible apply Bk.drew | with_reducible apply Bk.alloc | with_reducible apply Bk.later (hB := hR) | with_reducible apply Bk.later (hB := hM) | ((with_reducible apply Bk.mv hM); (focus omega)) | ((with_reducible apply Bk.later); rotate_left; (with_reducible assumption)) | ((with_reducible apply Bk.put); rotate_left; (first | (dsimp only; omega))))), by (repeat (first | with_reducible assumption | with_reducible apply Bk.drew | with_reducible apply Bk.alloc | with_reducible apply Bk.later (hB := hR) | with_reducible apply Bk.later (hB := hM) | ((with_reducible apply Bk.mv hM); (focus omega)) | ((with_reducible apply Bk.later); rotate_left; (with_reducible assumption)) | ((with_reducible apply Bk.put); rotate_left; (first | (dsimp only; omega)))))⟩ (fun hHeld => ?_)
  clear hK K hOld
  (try simp only [Act.put, List.setIfInBounds_toArray]); (try dsimp only [List.set_cons_zero, List.set_cons_succ])
  have hOld := hHeld; clear hHeld
  refine wpAnyH_ready (rs := [22]) (by kernel_rfl) (by simp) (AllReadyH.cons rfl (fun K hK => ?_) AllReadyH.nil)
  go_simp
  refine hK.out _ _ ⟨by (repeat (first | with_reducible assumption | with_reducible apply Bk.drew | with_reducible apply Bk.alloc | with_reducible apply Bk.later (hB := hR) | with_reducible apply Bk.later (hB := hM) | ((with_reducible apply Bk.mv hM); (focus omega)) | ((with_reducible apply Bk.later); rotate_left; (with_reducible assumption)) | ((with_reducible apply Bk.put); rotate_left; (first | (dsimp only; omega))))), by (repeat (first | with_reducible assumption | with_reducible apply Bk.drew | with_reducible apply Bk.alloc | with_reducible apply Bk.later (hB := hR) | with_reducible apply Bk.later (hB := hM) | ((with_reducible apply Bk.mv hM); (focus omega)) | ((with_reducible apply Bk.later); rotate_left; (with_reducible assumption)) | ((with_reducible apply Bk.put); rotate_left; (first | (dsimp only; omega)))))⟩ (fun hHeld => ?_)
  clear hK K hOld
  (try simp only [Act.put, List.setIfInBounds_toArray]); (try dsimp only [List.set_cons_zero, List.set_cons_succ])
  have hOld := hHeld; clear hHeld
  refine wpAnyH_ready (rs := [23]) (by kernel_rfl) (by simp) (AllReadyH.cons rfl (fun K hK => ?_) AllReadyH.nil)
  go_simp
  refine hK.out _ _ ⟨by (repeat (first | with_reducible assumption | with_reducible apply Bk.drew | with_reducible apply Bk.alloc | with_reducible apply Bk.later (hB := hR) | with_reducible apply Bk.later (hB := hM) | ((with_reducible apply Bk.mv hM); (focus omega)) | ((with_reducible apply Bk.later); rotate_left; (with_reducible assumption)) | ((with_reducible apply Bk.put); rotate_left; (first | (dsimp only; omega))))), by (repeat (first | with_reducible assumption | with_reducible apply Bk.drew | with_reducible apply Bk.alloc | with_reducible apply Bk.later (hB := hR) | with_reducible apply Bk.later (hB := hM) | ((with_reducible apply Bk.mv hM); (focus omega)) | ((with_reducible apply Bk.later); rotate_left; (with_reducible assumption)) | ((with_reducible apply Bk.put); rotate_left; (first | (dsimp only; omega)))))⟩ (fun hHeld => ?_)
  clear hK K hOld
  (try simp only [Act.put, List.setIfInBounds_toArray]); (try dsimp only [List.set_cons_zero, List.set_cons_succ])
  refine wpAnyH_done (by kernel_rfl) ?_ _
  (try refine NoPanic.normal ?_)
  obtain ⟨ov, hov⟩ : ∃ v, (o || (true && !(u0 && u1 && u2)) || (true && !(u3 && u4 && u5)) || (true && !(u6 && u7 && u8))) = v := ⟨_, rfl⟩
  rw [hov] at HM
  have HOV := Lib.hid hov
  clear hov kS0 kS1 kS2 a0 C_BA C_BV BA BV C_B0 C_B1 B0 B1
  go_upto_region 2 with (fail)
  generalize hW2 : World.setCell _ _ _ = W2
  have E0 : Bk g0 0 [.int .i64 p0, .int .i64 p1, .int .i64 p2] W2 := by rw [← hW2]; clear hW2; simp only [Bk]; simp (maxDischargeDepth := 10) [go_sem, *]
  have E1 : Bk g1 0 [.int .i64 p3, .int .i64 p4, .int .i64 p5] W2 := by rw [← hW2]; clear hW2; simp only [Bk]; simp (maxDischargeDepth := 10) [go_sem, *]
  have E2 : Bk g2 0 [.int .i64 p6, .int .i64 p7, .int .i64 p8] W2 := by rw [← hW2]; clear hW2; simp only [Bk]; simp (maxDischargeDepth := 10) [go_sem, *]
  have HM : Mv b ov W1 W2 := by rw [← hW2]; (repeat (first | with_reducible assumption | with_reducible exact Mv.refl (by assumption) (by assumption) | with_reducible apply Mv.alloc | with_reducible apply Mv.drew | with_reducible apply Mv.drewN | ((with_reducible apply Mv.setCell); rotate_left; (first | (dsimp only; omega) | omega | (simp; omega)); (first | (dsimp only; omega) | omega | (simp; omega))) | ((with_reducible apply Mv.below); rotate_left; (with_reducible assumption)) | ((with_reducible apply Mv.trans); rotate_left; (with_reducible assumption))))
  have hR := row_mv (g := w.heap.size + 1 + 1) HM hR (by omega)
  have HM := HM0.trans HM
  clear hW2 HM0
  clear C_G0 C_G1 C_G2 G0 G1 G2
  simp only [Bk] at E0 E1 E2
  (try refine wp_region_noPanic ?_)
  refine wp_region_ssa (S := (fun (w' : World) => w'.cell? ⟨g0, 0, none⟩ = some (.int .i64 p0) ∧ w'.cell? ⟨g0, 1, none⟩ = some (.int .i64 p1) ∧ w'.cell? ⟨g0, 2, none⟩ = some (.int .i64 p2) ∧ w'.cell? ⟨g1, 0, none⟩ = some (.int .i64 p3) ∧ w'.cell? ⟨g1, 1, none⟩ = some (.int .i64 p4) ∧ w'.cell? ⟨g1, 2, none⟩ = some (.int .i64 p5) ∧ w'.cell? ⟨g2, 0, none⟩ = some (.int .i64 p6) ∧ w'.cell? ⟨g2, 1, none⟩ = some (.int .i64 p7) ∧ w'.cell? ⟨g2, 2, none⟩ = some (.int .i64 p8))) (#[none, none, none, none, none, none, none, none, none, none, none, none, none, none, none, none, none, none, none, none, none, none, none, none, none, none, none, none, some 0, some 1, some 2, some 3, some 4, some 5, some 6] : Array (Option Nat)) (by kernel_rfl) (by kernel_rfl) (by kernel_rfl) ⟨(by first | (simp (maxDischargeDepth := 6) [go_sem, *]; done)), (by first | (simp (maxDischargeDepth := 6) [go_sem, *]; done)), (by first | (simp (maxDischargeDepth := 6) [go_sem, *]; done)), (by first | (simp (maxDischargeDepth := 6) [go_sem, *]; done)), (by first | (simp (maxDischargeDepth := 6) [go_sem, *]; done)), (by first | (simp (maxDischargeDepth := 6) [go_sem, *]; done)), (by first | (simp (maxDischargeDepth := 6) [go_sem, *]; done)), (by first | (simp (maxDischargeDepth := 6) [go_sem, *]; done)), (by first | (simp (maxDischargeDepth := 6) [go_sem, *]; done))⟩ (fun hSSA hHeld => ?_)
  refine wpAnyH_sl (n := 3) (l' := (#[true, true, true, true, false, true, false, false] : Array Bool)) [0, 1, 2, 3, 5] [some 28, some 29, some 30, some 31, some 33] hSSA (
    LvY.take (by rfl) (by intro w hSw; (try dsimp only at hSw); go_simp; try with_reducible rfl) <|
    LvY.take (by rfl) (by intro w hSw; (try dsimp only at hSw); go_simp; try with_reducible rfl) <|
    LvY.take (by rfl) (by intro w hSw; (try dsimp only at hSw); go_simp; try with_reducible rfl) <|
    LvY.take (by rfl) (by intro w hSw; (try dsimp only at hSw); go_simp; try with_reducible rfl) <|
    LvY.skip <|
    LvY.take (by rfl) (by intro w hSw; (try dsimp only at hSw); go_simp; try with_reducible rfl) <|
    LvY.skip <|
    LvY.skip <|
    LvY.nil) (by rfl) (by rfl) (by kernel_rfl) (fun _ _ _ _ _ h => h) (by kernel_rfl) (by kernel_rfl) (by kernel_rfl) (by assumption) ?_
  simp only [lvVs, putDs, Act.put, List.setIfInBounds_toArray, List.set_cons_zero, List.set_cons_succ]
  have hOld := hHeld; clear hHeld
  refine wpAnyH_on (i := 4) (n := 2) (l' := (#[true, true, true, true, true, true, false, false] : Array Bool)) (by kernel_rfl) (by kernel_rfl) (by kernel_rfl) (by simp only [List.getElem?_toArray, List.getElem?_cons_succ, List.getElem?_cons_zero]; rfl) (by rfl) (fun K hK => ?_)
  go_simp
  (go_at_call 42; (with_reducible refine (mvCall (b := b) (w0 := w) (by (repeat (first | with_reducible assumption | with_reducible exact Mv.refl (by assumption) (by assumption) | with_reducible apply Mv.alloc | with_reducible apply Mv.drew | with_reducible apply Mv.drewN | ((with_reducible apply Mv.setCell); rotate_left; (first | (dsimp only; omega) | omega | (simp; omega)); (first | (dsimp only; omega) | omega | (simp; omega))) | ((with_reducible apply Mv.below); rotate_left; (with_reducible assumption)) | ((with_reducible apply Mv.trans); rotate_left; (with_reducible assumption))))) (kS3 _ _)).mono ?_); rintro e w1 ⟨rfl, hM, HM⟩)
  (try go_wp2_with (fail))
  refine hK.out _ _ ⟨(by first | exact mv_cell hM (by first | (dsimp only; omega) | (simp; omega)) hOld.1 | exact cell_later hM hOld.1 | exact HT.cb | exact HT.cc | (simp (maxDischargeDepth := 6) [go_sem, *]; done)), (by first | exact mv_cell hM (by first | (dsimp only; omega) | (simp; omega)) hOld.2.1 | exact cell_later hM hOld.2.1 | exact HT.cb | exact HT.cc | (simp (maxDischargeDepth := 6) [go_sem, *]; done)), (by first | exact mv_cell hM (by first | (dsimp only; omega) | (simp; omega)) hOld.2.2.1 | exact cell_later hM hOld.2.2.1 | exact HT.cb | exact HT.cc | (simp (maxDischargeDepth := 6) [go_sem, *]; done)), (by first | exact mv_cell hM (by first | (dsimp only; omega) | (simp; omega)) hOld.2.2.2.1 | exact cell_later hM hOld.2.2.2.1 | exact HT.cb | exact HT.cc | (simp (maxDischargeDepth := 6) [go_sem, *]; done)), (by first | exact mv_cell hM (by first | (dsimp only; omega) | (simp; omega)) hOld.2.2.2.2.1 | exact cell_later hM hOld.2.2.2.2.1 | exact HT.cb | exact HT.cc | (simp (maxDischargeDepth := 6) [go_sem, *]; done)), (by first | exact mv_cell hM (by first | (dsimp only; omega) | (simp; omega)) hOld.2.2.2.2.2.1 | exact cell_later hM hOld.2.2.2.2.2.1 | exact HT.cb | exact HT.cc | (simp (maxDischargeDepth := 6) [go_sem, *]; done)), (by first | exact mv_cell hM (by first | (dsimp only; omega) | (simp; omega)) hOld.2.2.2.2.2.2.1 | exact cell_later hM hOld.2.2.2.2.2.2.1 | exact HT.cb | exact HT.cc | (simp (maxDischargeDepth := 6) [go_sem, *]; done)), (by first | exact mv_cell hM (by first | (dsimp only; omega) | (simp; omega)) hOld.2.2.2.2.2.2.2.1 | exact cell_later hM hOld.2.2.2.2.2.2.2.1 | exact HT.cb | exact HT.cc | (simp (maxDischargeDepth := 6) [go_sem, *]; done)), (by first | exact mv_cell hM (by first | (dsimp only; omega) | (simp; omega)) hOld.2.2.2.2.2.2.2.2 | exact cell_later hM hOld.2.2.2.2.2.2.2.2 | exact HT.cb | exact HT.cc | (simp (maxDischargeDepth := 6) [go_sem, *]; done))⟩ (fun hHeld => ?_)
  clear hK K hOld
  try simp only [Act.put, List.setIfInBounds_toArray, List.set_cons_zero, List.set_cons_succ]
  have hR := row_mv (g := w.heap.size + 1 + 1) hM hR (by omega); clear hM
  have hOld := hHeld; clear hHeld
  refine wpAnyH_on (i := 6) (n := 1) (l' := (#[true, true, true, true, true, true, true, false] : Array Bool)) (by kernel_rfl) (by kernel_rfl) (by kernel_rfl) (by simp only [List.getElem?_toArray, List.getElem?_cons_succ, List.getElem?_cons_zero]; rfl) (by rfl) (fun K hK => ?_)
  go_simp
  (go_at_call 42; (with_reducible refine (mvCall (b := b) (w0 := w) (by (repeat (first | with_reducible assumption | with_reducible exact Mv.refl (by assumption) (by assumption) | with_reducible apply Mv.alloc | with_reducible apply Mv.drew | with_reducible apply Mv.drewN | ((with_reducible apply Mv.setCell); rotate_left; (first | (dsimp only; omega) | omega | (simp; omega)); (first | (dsimp only; omega) | omega | (simp; omega))) | ((with_reducible apply Mv.below); rotate_left; (with_reducible assumption)) | ((with_reducible apply Mv.trans); rotate_left; (with_reducible assumption))))) (kS4 _ _)).mono ?_); rintro e w1 ⟨rfl, hM, HM⟩)
  (try go_wp2_with (fail))
  refine hK.out _ _ ⟨(by first | exact mv_cell hM (by first | (dsimp only; omega) | (simp; omega)) hOld.1 | exact cell_later hM hOld.1 | exact HT.cb | exact HT.cc | (simp (maxDischargeDepth := 6) [go_sem, *]; done)), (by first | exact mv_cell hM (by first | (dsimp only; omega) | (simp; omega)) hOld.2.1 | exact cell_later hM hOld.2.1 | exact HT.cb | exact HT.cc | (simp (maxDischargeDepth := 6) [go_sem, *]; done)), (by first | exact mv_cell hM (by first | (dsimp only; omega) | (simp; omega)) hOld.2.2.1 | exact cell_later hM hOld.2.2.1 | exact HT.cb | exact HT.cc | (simp (maxDischargeDepth := 6) [go_sem, *]; done)), (by first | exact mv_cell hM (by first | (dsimp only; omega) | (simp; omega)) hOld.2.2.2.1 | exact cell_later hM hOld.2.2.2.1 | exact HT.cb | exact HT.cc | (simp (maxDischargeDepth := 6) [go_sem, *]; done)), (by first | exact mv_cell hM (by first | (dsimp only; omega) | (simp; omega)) hOld.2.2.2.2.1 | exact cell_later hM hOld.2.2.2.2.1 | exact HT.cb | exact HT.cc | (simp (maxDischargeDepth := 6) [go_sem, *]; done)), (by first | exact mv_cell hM (by first | (dsimp only; omega) | (simp; omega)) hOld.2.2.2.2.2.1 | exact cell_later hM hOld.2.2.2.2.2.1 | exact HT.cb | exact HT.cc | (simp (maxDischargeDepth := 6) [go_sem, *]; done)), (by first | exact mv_cell hM (by first | (dsimp only; omega) | (simp; omega)) hOld.2.2.2.2.2.2.1 | exact cell_later hM hOld.2.2.2.2.2.2.1 | exact HT.cb | exact HT.cc | (simp (maxDischargeDepth := 6) [go_sem, *]; done)), (by first | exact mv_cell hM (by first | (dsimp only; omega) | (simp; omega)) hOld.2.2.2.2.2.2.2.1 | exact cell_later hM hOld.2.2.2.2.2.2.2.1 | exact HT.cb | exact HT.cc | (simp (maxDischargeDepth := 6) [go_sem, *]; done)), (by first | exact mv_cell hM (by first | (dsimp only; omega) | (simp; omega)) hOld.2.2.2.2.2.2.2.2 | exact cell_later hM hOld.2.2.2.2.2.2.2.2 | exact HT.cb | exact HT.cc | (simp (maxDischargeDepth := 6) [go_sem, *]; done))⟩ (fun hHeld => ?_)
  clear hK K hOld
  try simp only [Act.put, List.setIfInBounds_toArray, List.set_cons_zero, List.set_cons_succ]
  have hR := row_mv (g := w.heap.size + 1 + 1) hM hR (by omega); clear hM
  have hOld := hHeld; clear hHeld
  refine wpAnyH_on (i := 7) (n := 0) (l' := (#[true, true, true, true, true, true, true, true] : Array Bool)) (by kernel_rfl) (by kernel_rfl) (by kernel_rfl) (by simp only [List.getElem?_toArray, List.getElem?_cons_succ, List.getElem?_cons_zero]; rfl) (by rfl) (fun K hK => ?_)
  refine wp_store_row 26 _ _ rfl (w.heap.size + 1 + 1) #[.int .i64 d0, .int .i64 d1, .int .i64 d2] (by rfl) (by rfl) 26 _ hR (by kernel_rfl) rfl (by simp [Value.oneCell']) ?_
  refine hK.out _ _ ⟨cell_row hOld.1 (by dsimp only; omega), cell_row hOld.2.1 (by dsimp only; omega), cell_row hOld.2.2.1 (by dsimp only; omega), cell_row hOld.2.2.2.1 (by dsimp only; omega), cell_row hOld.2.2.2.2.1 (by dsimp only; omega), cell_row hOld.2.2.2.2.2.1 (by dsimp only; omega), cell_row hOld.2.2.2.2.2.2.1 (by dsimp only; omega), cell_row hOld.2.2.2.2.2.2.2.1 (by dsimp only; omega), cell_row hOld.2.2.2.2.2.2.2.2 (by dsimp only; omega)⟩ (fun hHeld => ?_)
  clear hK K hOld
  try simp only [Act.put, List.setIfInBounds_toArray, List.set_cons_zero, List.set_cons_succ]
  refine wpAnyH_done (by kernel_rfl) ?_ _
  (try refine NoPanic.normal ?_)
  (try clear q0); (try clear q1); (try clear q2); (try clear q3); (try clear q4); (try clear q5); (try clear q6); (try clear q7); (try clear q8); obtain ⟨q0, q1, q2, q3, q4, q5, q6, q7, q8⟩ := hHeld
  have hR := row_put #[.int .i64 d0, .int .i64 d1, .int .i64 d2] hR
  go_wp2
  refine bodyPost_ret (results_cell_row rfl _ _ (w.heap.size + 1 + 1) 26 #[.int .i64 d0, .int .i64 d1, .int .i64 d2] (0, 0) _ (by rfl) hR Try.underlying26 rfl (by kernel_rfl)) rfl ⟨rfl, ?_⟩
  refine Mv.cast (HM.row (by omega) (by omega) _) ?_
  rw [← HOV.out]
  simp only [Bool.true_and, Bool.not_and, Bool.or_assoc, Bool.or_comm, Bool.or_left_comm]
end
section
set_option linter.unusedVariables false
theorem On.setCell {b : Nat} {o : Bool} {w W : World} (h : On b o w W) {a : Addr} (ha : w.heap.size ≤ a.block) (h1 : a.block ≠ b) (_ : a.block ≠ b) (u : Value) : On b o w (W.setCell a u) := by
  have e : ∀ k, k ≠ a.block → (W.setCell a u).heap[k]? = W.heap[k]? := fun k hk => Below.heap_setCell _ _ _ _ hk
  refine ⟨h.below.setCell ha u, ?_, ?_, h.hb⟩
  · rw [World.cell?_of_block (w := W) (e b (fun q => h1 q.symm))]; exact h.cb
  · rw [World.frozen?_of_block (w := W) (e b (fun q => h1 q.symm))]; exact h.fb
set_option maxHeartbeats 16000000 in
set_option maxRecDepth 20000 in
theorem walk_QuatBack (x0 x1 x2 x3 a b c : Int) (w : World) (x0_0 : -9223372036854775808 ≤ x0) (x0_1 : x0 ≤ 9223372036854775807) (x1_0 : -9223372036854775808 ≤ x1) (x1_1 : x1 ≤ 9223372036854775807) (x2_0 : -9223372036854775808 ≤ x2) (x2_1 : x2 ≤ 9223372036854775807) (x3_0 : -9223372036854775808 ≤ x3) (x3_1 : x3 ≤ 9223372036854775807) (a_0 : -9223372036854775808 ≤ a) (a_1 : a ≤ 9223372036854775807) (b_0 : -9223372036854775808 ≤ b) (b_1 : b ≤ 9223372036854775807) (c_0 : -9223372036854775808 ≤ c) (c_1 : c ≤ 9223372036854775807) :
    Calls Try.prog 8 #[.agg #[.int .i64 x0, .int .i64 x1, .int .i64 x2, .int .i64 x3], .agg #[.int .i64 a, .int .i64 b, .int .i64 c]] w fun e w' => e = .returned (.bool true) ∧ Below w.heap.size w w' := by
  have k1 := fun W => cUnit6 x0 x1 x2 x3 W x0_0 x0_1 x1_0 x1_1 x2_0 x2_1 x3_0 x3_1
  have k2 := fun W => cVClamp a b c 4398046511104 W (by decide) (by decide)
  go_enter Try.func8, Try.ntmps8
  go_wp2_with (fail)
  (with_reducible refine (k1 _).mono ?_); rintro e w1 ⟨ok, u0, u1, u2, u3, rfl, hM, hu⟩
  have V : Bk (w.heap.size + 1) 0 [.int .i64 a, .int .i64 b, .int .i64 c] w1 := Bk.later (by simp [Bk, go_sem]; done) hM
  have c0 := cell_later (a := ⟨w.heap.size + 1, 0, none⟩) (v := .int .i64 a) hM (by simp [go_sem])
  have c1 := cell_later (a := ⟨w.heap.size + 1, 1, none⟩) (v := .int .i64 b) hM (by simp [go_sem])
  have c2 := cell_later (a := ⟨w.heap.size + 1, 2, none⟩) (v := .int .i64 c) hM (by simp [go_sem])
  have HB : Below w.heap.size w w1 := below_step (by (repeat (first | with_reducible assumption | with_reducible exact Below.refl _ _ | ((with_reducible refine Below.setCell ?_ ?_ _); rotate_left; (first | exact Nat.le_refl _ | (dsimp only; omega) | (simp; done) | (simp; omega))) | with_reducible refine below_alloc ?_ _ | with_reducible apply below_drewN | with_reducible apply Below.drew | with_reducible refine below_step ?_ (by assumption)))) hM
  clear hM k1
  go_upto_region 2 with (fail)
  generalize hW : World.alloc _ _ = W2
  have c0 : W2.cell? ⟨w.heap.size + 1, 0, none⟩ = some (.int .i64 a) := by rw [← hW]; exact cell_later ((Below.refl _ _).alloc (Nat.le_refl _) _) c0
  have c1 : W2.cell? ⟨w.heap.size + 1, 1, none⟩ = some (.int .i64 b) := by rw [← hW]; exact cell_later ((Below.refl _ _).alloc (Nat.le_refl _) _) c1
  have c2 : W2.cell? ⟨w.heap.size + 1, 2, none⟩ = some (.int .i64 c) := by rw [← hW]; exact cell_later ((Below.refl _ _).alloc (Nat.le_refl _) _) c2
  have y0 : W2.cell? ⟨w1.heap.size, 0, none⟩ = some (.int .i64 u0) := by rw [← hW]; simp [go_sem]
  have y1 : W2.cell? ⟨w1.heap.size, 1, none⟩ = some (.int .i64 u1) := by rw [← hW]; simp [go_sem]
  have y2 : W2.cell? ⟨w1.heap.size, 2, none⟩ = some (.int .i64 u2) := by rw [← hW]; simp [go_sem]
  have y3 : W2.cell? ⟨w1.heap.size, 3, none⟩ = some (.int .i64 u3) := by rw [← hW]; simp [go_sem]
  have V : Bk (w.heap.size + 1) 0 [.int .i64 a, .int .i64 b, .int .i64 c] W2 := by rw [← hW]; exact Bk.alloc V _
  have HB : Below w.heap.size w W2 := by rw [← hW]; exact HB.alloc HB.size _
  clear hW
  cases ok with
  | false =>
  (try refine wp_region_noPanic ?_)
  refine wp_region_held_drew (S := (fun (w' : World) => w'.cell? ⟨w.heap.size + 1, 0, none⟩ = some (.int .i64 a) ∧ w'.cell? ⟨w.heap.size + 1, 1, none⟩ = some (.int .i64 b) ∧ w'.cell? ⟨w.heap.size + 1, 2, none⟩ = some (.int .i64 c))) (by kernel_rfl) ⟨(by first | (simp (maxDischargeDepth := 6) [go_sem, *]; done)), (by first | (simp (maxDischargeDepth := 6) [go_sem, *]; done)), (by first | (simp (maxDischargeDepth := 6) [go_sem, *]; done))⟩ (fun hHeld => ?_)
  refine wpAnyH_take (i := 0) (v := ?_) (by simp only [List.getElem?_toArray, List.getElem?_cons_succ, List.getElem?_cons_zero]; rfl) (by kernel_rfl) (by kernel_rfl) (by kernel_rfl) (fun _ _ _ h => h) (Or.inl ⟨by rfl, ?_⟩) (by assumption) ?_
  rotate_left
  · intro w hSw; (try dsimp only at hSw); go_simp; try with_reducible rfl
  try simp only [Act.put, List.setIfInBounds_toArray, List.set_cons_zero, List.set_cons_succ]
  refine wpAnyH_take (i := 1) (v := ?_) (by simp only [List.getElem?_toArray, List.getElem?_cons_succ, List.getElem?_cons_zero]; rfl) (by kernel_rfl) (by kernel_rfl) (by kernel_rfl) (fun _ _ _ h => h) (Or.inl ⟨by rfl, ?_⟩) (by assumption) ?_
  rotate_left
  · intro w hSw; (try dsimp only at hSw); go_simp; try with_reducible rfl
  try simp only [Act.put, List.setIfInBounds_toArray, List.set_cons_zero, List.set_cons_succ]
  refine wpAnyH_take (i := 2) (v := ?_) (by simp only [List.getElem?_toArray, List.getElem?_cons_succ, List.getElem?_cons_zero]; rfl) (by kernel_rfl) (by kernel_rfl) (by kernel_rfl) (fun _ _ _ h => h) (Or.inl ⟨by rfl, ?_⟩) (by assumption) ?_
  rotate_left
  · intro w hSw; (try dsimp only at hSw); go_simp; try with_reducible rfl
  try simp only [Act.put, List.setIfInBounds_toArray, List.set_cons_zero, List.set_cons_succ]
  refine wpAnyH_take (i := 3) (v := ?_) (by simp only [List.getElem?_toArray, List.getElem?_cons_succ, List.getElem?_cons_zero]; rfl) (by kernel_rfl) (by kernel_rfl) (by kernel_rfl) (fun _ _ _ h => h) (Or.inr ⟨by rfl, by rfl⟩) (by assumption) ?_
  try simp only [Act.put, List.setIfInBounds_toArray, List.set_cons_zero, List.set_cons_succ]
  refine wpAnyH_take (i := 5) (v := ?_) (by simp only [List.getElem?_toArray, List.getElem?_cons_succ, List.getElem?_cons_zero]; rfl) (by kernel_rfl) (by kernel_rfl) (by kernel_rfl) (fun _ _ _ h => h) (Or.inr ⟨by rfl, by rfl⟩) (by assumption) ?_
  try simp only [Act.put, List.setIfInBounds_toArray, List.set_cons_zero, List.set_cons_succ]
  have hOld := hHeld; clear hHeld
  refine wpAnyH_ready (rs := [4]) (by kernel_rfl) (by simp) (AllReadyH.cons rfl (fun K hK => ?_) AllReadyH.nil)
  go_simp
  refine hK.out _ _ hOld (fun hHeld => ?_)
  clear hK K hOld
  try simp only [Act.put, List.setIfInBounds_toArray, List.set_cons_zero, List.set_cons_succ]
  refine wpAnyH_take (i := 6) (v := ?_) (by simp only [List.getElem?_toArray, List.getElem?_cons_succ, List.getElem?_cons_zero]; rfl) (by kernel_rfl) (by kernel_rfl) (by kernel_rfl) (fun _ _ _ h => h) (Or.inr ⟨by rfl, by rfl⟩) (by assumption) ?_
  try simp only [Act.put, List.setIfInBounds_toArray, List.set_cons_zero, List.set_cons_succ]
  refine wpAnyH_take (i := 7) (v := ?_) (by simp only [List.getElem?_toArray, List.getElem?_cons_succ, List.getElem?_cons_zero]; rfl) (by kernel_rfl) (by kernel_rfl) (by kernel_rfl) (fun _ _ _ h => h) (Or.inl ⟨by rfl, ?_⟩) (by assumption) ?_
  rotate_left
  · intro w hSw; (try dsimp only at hSw); go_simp; try with_reducible rfl
  try simp only [Act.put, List.setIfInBounds_toArray, List.set_cons_zero, List.set_cons_succ]
  refine wpAnyH_done (by kernel_rfl) ?_ _
  (try refine NoPanic.normal ?_)
  (try clear q0); (try clear q1); (try clear q2); obtain ⟨q0, q1, q2⟩ := hHeld
  go_wp2_with ((go_at_call 15; (with_reducible refine (cAwake6 _).mono ?_); rintro e w1 ⟨rfl, hM⟩))
  go_ret
  exact ⟨rfl, by first | exact below_step HB hM | (repeat (first | with_reducible assumption | with_reducible exact Below.refl _ _ | ((with_reducible refine Below.setCell ?_ ?_ _); rotate_left; (first | exact Nat.le_refl _ | (dsimp only; omega) | (simp; done) | (simp; omega))) | with_reducible refine below_alloc ?_ _ | with_reducible apply below_drewN | with_reducible apply Below.drew | with_reducible refine below_step ?_ (by assumption)))⟩
  | true =>
  have hu := hu rfl
  rcases Classical.em (clm a (-4398046511104) 4398046511104 = a ∧ clm b (-4398046511104) 4398046511104 = b ∧ clm c (-4398046511104) 4398046511104 = c) with hcl | hcl
  rotate_left
  generalize clm a (-4398046511104) 4398046511104 = a' at *
  generalize clm b (-4398046511104) 4398046511104 = b' at *
  generalize clm c (-4398046511104) 4398046511104 = c' at *
  rcases (show (¬ a' = a) ∨ (a' = a ∧ ¬ b' = b) ∨ (a' = a ∧ b' = b ∧ ¬ c' = c) by omega) with e1 | ⟨e1, e2⟩ | ⟨e1, e2, e3⟩
  (try refine wp_region_noPanic ?_)
  refine wp_region_held_drew (S := (fun (w' : World) => w'.cell? ⟨w.heap.size + 1, 0, none⟩ = some (.int .i64 a) ∧ w'.cell? ⟨w.heap.size + 1, 1, none⟩ = some (.int .i64 b) ∧ w'.cell? ⟨w.heap.size + 1, 2, none⟩ = some (.int .i64 c))) (by kernel_rfl) ⟨(by first | (simp (maxDischargeDepth := 6) [go_sem, *]; done)), (by first | (simp (maxDischargeDepth := 6) [go_sem, *]; done)), (by first | (simp (maxDischargeDepth := 6) [go_sem, *]; done))⟩ (fun hHeld => ?_)
  refine wpAnyH_take (i := 0) (v := ?_) (by simp only [List.getElem?_toArray, List.getElem?_cons_succ, List.getElem?_cons_zero]; rfl) (by kernel_rfl) (by kernel_rfl) (by kernel_rfl) (fun _ _ _ h => h) (Or.inl ⟨by rfl, ?_⟩) (by assumption) ?_
  rotate_left
  · intro w hSw; (try dsimp only at hSw); go_simp; try with_reducible rfl
  try simp only [Act.put, List.setIfInBounds_toArray, List.set_cons_zero, List.set_cons_succ]
  refine wpAnyH_take (i := 1) (v := ?_) (by simp only [List.getElem?_toArray, List.getElem?_cons_succ, List.getElem?_cons_zero]; rfl) (by kernel_rfl) (by kernel_rfl) (by kernel_rfl) (fun _ _ _ h => h) (Or.inl ⟨by rfl, ?_⟩) (by assumption) ?_
  rotate_left
  · intro w hSw; (try dsimp only at hSw); go_simp; try with_reducible rfl
  try simp only [Act.put, List.setIfInBounds_toArray, List.set_cons_zero, List.set_cons_succ]
  refine wpAnyH_take (i := 2) (v := ?_) (by simp only [List.getElem?_toArray, List.getElem?_cons_succ, List.getElem?_cons_zero]; rfl) (by kernel_rfl) (by kernel_rfl) (by kernel_rfl) (fun _ _ _ h => h) (Or.inl ⟨by rfl, ?_⟩) (by assumption) ?_
  rotate_left
  · intro w hSw; (try dsimp only at hSw); go_simp; try with_reducible rfl
  try simp only [Act.put, List.setIfInBounds_toArray, List.set_cons_zero, List.set_cons_succ]
  refine wpAnyH_take (i := 3) (v := ?_) (by simp only [List.getElem?_toArray, List.getElem?_cons_succ, List.getElem?_cons_zero]; rfl) (by kernel_rfl) (by kernel_rfl) (by kernel_rfl) (fun _ _ _ h => h) (Or.inl ⟨by rfl, ?_⟩) (by assumption) ?_
  rotate_left
  · intro w hSw; (try dsimp only at hSw); go_simp; try with_reducible rfl
  try simp only [Act.put, List.setIfInBounds_toArray, List.set_cons_zero, List.set_cons_succ]
  refine wpAnyH_take (i := 5) (v := ?_) (by simp only [List.getElem?_toArray, List.getElem?_cons_succ, List.getElem?_cons_zero]; rfl) (by kernel_rfl) (by kernel_rfl) (by kernel_rfl) (fun _ _ _ h => h) (Or.inl ⟨by rfl, ?_⟩) (by assumption) ?_
  rotate_left
  · intro w hSw; (try dsimp only at hSw); go_simp; try with_reducible rfl
  try simp only [Act.put, List.setIfInBounds_toArray, List.set_cons_zero, List.set_cons_succ]
  have hOld := hHeld; clear hHeld
  refine wpAnyH_ready (rs := [4]) (by kernel_rfl) (by simp) (AllReadyH.cons rfl (fun K hK => ?_) AllReadyH.nil)
  go_simp
  (go_at_call 21; (with_reducible refine (k2 _).mono ?_); rintro e w1 ⟨rfl, hM⟩)
  (try go_wp2_with (fail))
  refine hK.out _ _ ⟨(by first | exact mv_cell hM (by first | (dsimp only; omega) | (simp; omega)) hOld.1 | exact cell_later hM hOld.1 | exact HT.cb | exact HT.cc | (simp (maxDischargeDepth := 6) [go_sem, *]; done)), (by first | exact mv_cell hM (by first | (dsimp only; omega) | (simp; omega)) hOld.2.1 | exact cell_later hM hOld.2.1 | exact HT.cb | exact HT.cc | (simp (maxDischargeDepth := 6) [go_sem, *]; done)), (by first | exact mv_cell hM (by first | (dsimp only; omega) | (simp; omega)) hOld.2.2 | exact cell_later hM hOld.2.2 | exact HT.cb | exact HT.cc | (simp (maxDischargeDepth := 6) [go_sem, *]; done))⟩ (fun hHeld => ?_)
  clear hK K hOld
  try simp only [Act.put, List.setIfInBounds_toArray, List.set_cons_zero, List.set_cons_succ]
  have HB := below_step (HB.drew) hM
  refine wpAnyH_take (i := 6) (v := ?_) (by simp only [List.getElem?_toArray, List.getElem?_cons_succ, List.getElem?_cons_zero]; rfl) (by kernel_rfl) (by kernel_rfl) (by kernel_rfl) (fun _ _ _ h => h) (Or.inl ⟨by rfl, ?_⟩) (by assumption) ?_
  rotate_left
  · intro w hSw; (try dsimp only at hSw); go_simp; try with_reducible rfl
  try simp only [Act.put, List.setIfInBounds_toArray, List.set_cons_zero, List.set_cons_succ]
  refine wpAnyH_take (i := 7) (v := ?_) (by simp only [List.getElem?_toArray, List.getElem?_cons_succ, List.getElem?_cons_zero]; rfl) (by kernel_rfl) (by kernel_rfl) (by kernel_rfl) (fun _ _ _ h => h) (Or.inl ⟨by rfl, ?_⟩) (by assumption) ?_
  rotate_left
  · intro w hSw; (try dsimp only at hSw); go_simp; try with_reducible rfl
  try simp only [Act.put, List.setIfInBounds_toArray, List.set_cons_zero, List.set_cons_succ]
  refine wpAnyH_done (by kernel_rfl) ?_ _
  (try refine NoPanic.normal ?_)
  (try clear q0); (try clear q1); (try clear q2); obtain ⟨q0, q1, q2⟩ := hHeld
  go_wp2_with ((go_at_call 15; (with_reducible refine (cAwake6 _).mono ?_); rintro e w1 ⟨rfl, hM⟩))
  go_ret
  exact ⟨rfl, by first | exact below_step HB hM | (repeat (first | with_reducible assumption | with_reducible exact Below.refl _ _ | ((with_reducible refine Below.setCell ?_ ?_ _); rotate_left; (first | exact Nat.le_refl _ | (dsimp only; omega) | (simp; done) | (simp; omega))) | with_reducible refine below_alloc ?_ _ | with_reducible apply below_drewN | with_reducible apply Below.drew | with_reducible refine below_step ?_ (by assumption)))⟩
  (try refine wp_region_noPanic ?_)
  refine wp_region_held_drew (S := (fun (w' : World) => w'.cell? ⟨w.heap.size + 1, 0, none⟩ = some (.int .i64 a) ∧ w'.cell? ⟨w.heap.size + 1, 1, none⟩ = some (.int .i64 b) ∧ w'.cell? ⟨w.heap.size + 1, 2, none⟩ = some (.int .i64 c))) (by kernel_rfl) ⟨(by first | (simp (maxDischargeDepth := 6) [go_sem, *]; done)), (by first | (simp (maxDischargeDepth := 6) [go_sem, *]; done)), (by first | (simp (maxDischargeDepth := 6) [go_sem, *]; done))⟩ (fun hHeld => ?_)
  refine wpAnyH_take (i := 0) (v := ?_) (by simp only [List.getElem?_toArray, List.getElem?_cons_succ, List.getElem?_cons_zero]; rfl) (by kernel_rfl) (by kernel_rfl) (by kernel_rfl) (fun _ _ _ h => h) (Or.inl ⟨by rfl, ?_⟩) (by assumption) ?_
  rotate_left
  · intro w hSw; (try dsimp only at hSw); go_simp; try with_reducible rfl
  try simp only [Act.put, List.setIfInBounds_toArray, List.set_cons_zero, List.set_cons_succ]
  refine wpAnyH_take (i := 1) (v := ?_) (by simp only [List.getElem?_toArray, List.getElem?_cons_succ, List.getElem?_cons_zero]; rfl) (by kernel_rfl) (by kernel_rfl) (by kernel_rfl) (fun _ _ _ h => h) (Or.inl ⟨by rfl, ?_⟩) (by assumption) ?_
  rotate_left
  · intro w hSw; (try dsimp only at hSw); go_simp; try with_reducible rfl
  try simp only [Act.put, List.setIfInBounds_toArray, List.set_cons_zero, List.set_cons_succ]
  refine wpAnyH_take (i := 2) (v := ?_) (by simp only [List.getElem?_toArray, List.getElem?_cons_succ, List.getElem?_cons_zero]; rfl) (by kernel_rfl) (by kernel_rfl) (by kernel_rfl) (fun _ _ _ h => h) (Or.inl ⟨by rfl, ?_⟩) (by assumption) ?_
  rotate_left
  · intro w hSw; (try dsimp only at hSw); go_simp; try with_reducible rfl
  try simp only [Act.put, List.setIfInBounds_toArray, List.set_cons_zero, List.set_cons_succ]
  refine wpAnyH_take (i := 3) (v := ?_) (by simp only [List.getElem?_toArray, List.getElem?_cons_succ, List.getElem?_cons_zero]; rfl) (by kernel_rfl) (by kernel_rfl) (by kernel_rfl) (fun _ _ _ h => h) (Or.inl ⟨by rfl, ?_⟩) (by assumption) ?_
  rotate_left
  · intro w hSw; (try dsimp only at hSw); go_simp; try with_reducible rfl
  try simp only [Act.put, List.setIfInBounds_toArray, List.set_cons_zero, List.set_cons_succ]
  refine wpAnyH_take (i := 5) (v := ?_) (by simp only [List.getElem?_toArray, List.getElem?_cons_succ, List.getElem?_cons_zero]; rfl) (by kernel_rfl) (by kernel_rfl) (by kernel_rfl) (fun _ _ _ h => h) (Or.inl ⟨by rfl, ?_⟩) (by assumption) ?_
  rotate_left
  · intro w hSw; (try dsimp only at hSw); go_simp; try with_reducible rfl
  try simp only [Act.put, List.setIfInBounds_toArray, List.set_cons_zero, List.set_cons_succ]
  have hOld := hHeld; clear hHeld
  refine wpAnyH_ready (rs := [4]) (by kernel_rfl) (by simp) (AllReadyH.cons rfl (fun K hK => ?_) AllReadyH.nil)
  go_simp
  (go_at_call 21; (with_reducible refine (k2 _).mono ?_); rintro e w1 ⟨rfl, hM⟩)
  (try go_wp2_with (fail))
  refine hK.out _ _ ⟨(by first | exact mv_cell hM (by first | (dsimp only; omega) | (simp; omega)) hOld.1 | exact cell_later hM hOld.1 | exact HT.cb | exact HT.cc | (simp (maxDischargeDepth := 6) [go_sem, *]; done)), (by first | exact mv_cell hM (by first | (dsimp only; omega) | (simp; omega)) hOld.2.1 | exact cell_later hM hOld.2.1 | exact HT.cb | exact HT.cc | (simp (maxDischargeDepth := 6) [go_sem, *]; done)), (by first | exact mv_cell hM (by first | (dsimp only; omega) | (simp; omega)) hOld.2.2 | exact cell_later hM hOld.2.2 | exact HT.cb | exact HT.cc | (simp (maxDischargeDepth := 6) [go_sem, *]; done))⟩ (fun hHeld => ?_)
  clear hK K hOld
  try simp only [Act.put, List.setIfInBounds_toArray, List.set_cons_zero, List.set_cons_succ]
  have HB := below_step (HB.drew) hM
  refine wpAnyH_take (i := 6) (v := ?_) (by simp only [List.getElem?_toArray, List.getElem?_cons_succ, List.getElem?_cons_zero]; rfl) (by kernel_rfl) (by kernel_rfl) (by kernel_rfl) (fun _ _ _ h => h) (Or.inl ⟨by rfl, ?_⟩) (by assumption) ?_
  rotate_left
  · intro w hSw; (try dsimp only at hSw); go_simp; try with_reducible rfl
  try simp only [Act.put, List.setIfInBounds_toArray, List.set_cons_zero, List.set_cons_succ]
  refine wpAnyH_take (i := 7) (v := ?_) (by simp only [List.getElem?_toArray, List.getElem?_cons_succ, List.getElem?_cons_zero]; rfl) (by kernel_rfl) (by kernel_rfl) (by kernel_rfl) (fun _ _ _ h => h) (Or.inl ⟨by rfl, ?_⟩) (by assumption) ?_
  rotate_left
  · intro w hSw; (try dsimp only at hSw); go_simp; try with_reducible rfl
  try simp only [Act.put, List.setIfInBounds_toArray, List.set_cons_zero, List.set_cons_succ]
  refine wpAnyH_done (by kernel_rfl) ?_ _
  (try refine NoPanic.normal ?_)
  (try clear q0); (try clear q1); (try clear q2); obtain ⟨q0, q1, q2⟩ := hHeld
  go_wp2_with ((go_at_call 15; (with_reducible refine (cAwake6 _).mono ?_); rintro e w1 ⟨rfl, hM⟩))
  go_ret
  exact ⟨rfl, by first | exact below_step HB hM | (repeat (first | with_reducible assumption | with_reducible exact Below.refl _ _ | ((with_reducible refine Below.setCell ?_ ?_ _); rotate_left; (first | exact Nat.le_refl _ | (dsimp only; omega) | (simp; done) | (simp; omega))) | with_reducible refine below_alloc ?_ _ | with_reducible apply below_drewN | with_reducible apply Below.drew | with_reducible refine below_step ?_ (by assumption)))⟩
  (try refine wp_region_noPanic ?_)
  refine wp_region_held_drew (S := (fun (w' : World) => w'.cell? ⟨w.heap.size + 1, 0, none⟩ = some (.int .i64 a) ∧ w'.cell? ⟨w.heap.size + 1, 1, none⟩ = some (.int .i64 b) ∧ w'.cell? ⟨w.heap.size + 1, 2, none⟩ = some (.int .i64 c))) (by kernel_rfl) ⟨(by first | (simp (maxDischargeDepth := 6) [go_sem, *]; done)), (by first | (simp (maxDischargeDepth := 6) [go_sem, *]; done)), (by first | (simp (maxDischargeDepth := 6) [go_sem, *]; done))⟩ (fun hHeld => ?_)
  refine wpAnyH_take (i := 0) (v := ?_) (by simp only [List.getElem?_toArray, List.getElem?_cons_succ, List.getElem?_cons_zero]; rfl) (by kernel_rfl) (by kernel_rfl) (by kernel_rfl) (fun _ _ _ h => h) (Or.inl ⟨by rfl, ?_⟩) (by assumption) ?_
  rotate_left
  · intro w hSw; (try dsimp only at hSw); go_simp; try with_reducible rfl
  try simp only [Act.put, List.setIfInBounds_toArray, List.set_cons_zero, List.set_cons_succ]
  refine wpAnyH_take (i := 1) (v := ?_) (by simp only [List.getElem?_toArray, List.getElem?_cons_succ, List.getElem?_cons_zero]; rfl) (by kernel_rfl) (by kernel_rfl) (by kernel_rfl) (fun _ _ _ h => h) (Or.inl ⟨by rfl, ?_⟩) (by assumption) ?_
  rotate_left
  · intro w hSw; (try dsimp only at hSw); go_simp; try with_reducible rfl
  try simp only [Act.put, List.setIfInBounds_toArray, List.set_cons_zero, List.set_cons_succ]
  refine wpAnyH_take (i := 2) (v := ?_) (by simp only [List.getElem?_toArray, List.getElem?_cons_succ, List.getElem?_cons_zero]; rfl) (by kernel_rfl) (by kernel_rfl) (by kernel_rfl) (fun _ _ _ h => h) (Or.inl ⟨by rfl, ?_⟩) (by assumption) ?_
  rotate_left
  · intro w hSw; (try dsimp only at hSw); go_simp; try with_reducible rfl
  try simp only [Act.put, List.setIfInBounds_toArray, List.set_cons_zero, List.set_cons_succ]
  refine wpAnyH_take (i := 3) (v := ?_) (by simp only [List.getElem?_toArray, List.getElem?_cons_succ, List.getElem?_cons_zero]; rfl) (by kernel_rfl) (by kernel_rfl) (by kernel_rfl) (fun _ _ _ h => h) (Or.inl ⟨by rfl, ?_⟩) (by assumption) ?_
  rotate_left
  · intro w hSw; (try dsimp only at hSw); go_simp; try with_reducible rfl
  try simp only [Act.put, List.setIfInBounds_toArray, List.set_cons_zero, List.set_cons_succ]
  refine wpAnyH_take (i := 5) (v := ?_) (by simp only [List.getElem?_toArray, List.getElem?_cons_succ, List.getElem?_cons_zero]; rfl) (by kernel_rfl) (by kernel_rfl) (by kernel_rfl) (fun _ _ _ h => h) (Or.inl ⟨by rfl, ?_⟩) (by assumption) ?_
  rotate_left
  · intro w hSw; (try dsimp only at hSw); go_simp; try with_reducible rfl
  try simp only [Act.put, List.setIfInBounds_toArray, List.set_cons_zero, List.set_cons_succ]
  have hOld := hHeld; clear hHeld
  refine wpAnyH_ready (rs := [4]) (by kernel_rfl) (by simp) (AllReadyH.cons rfl (fun K hK => ?_) AllReadyH.nil)
  go_simp
  (go_at_call 21; (with_reducible refine (k2 _).mono ?_); rintro e w1 ⟨rfl, hM⟩)
  (try go_wp2_with (fail))
  refine hK.out _ _ ⟨(by first | exact mv_cell hM (by first | (dsimp only; omega) | (simp; omega)) hOld.1 | exact cell_later hM hOld.1 | exact HT.cb | exact HT.cc | (simp (maxDischargeDepth := 6) [go_sem, *]; done)), (by first | exact mv_cell hM (by first | (dsimp only; omega) | (simp; omega)) hOld.2.1 | exact cell_later hM hOld.2.1 | exact HT.cb | exact HT.cc | (simp (maxDischargeDepth := 6) [go_sem, *]; done)), (by first | exact mv_cell hM (by first | (dsimp only; omega) | (simp; omega)) hOld.2.2 | exact cell_later hM hOld.2.2 | exact HT.cb | exact HT.cc | (simp (maxDischargeDepth := 6) [go_sem, *]; done))⟩ (fun hHeld => ?_)
  clear hK K hOld
  try simp only [Act.put, List.setIfInBounds_toArray, List.set_cons_zero, List.set_cons_succ]
  have HB := below_step (HB.drew) hM
  refine wpAnyH_take (i := 6) (v := ?_) (by simp only [List.getElem?_toArray, List.getElem?_cons_succ, List.getElem?_cons_zero]; rfl) (by kernel_rfl) (by kernel_rfl) (by kernel_rfl) (fun _ _ _ h => h) (Or.inl ⟨by rfl, ?_⟩) (by assumption) ?_
  rotate_left
  · intro w hSw; (try dsimp only at hSw); go_simp; try with_reducible rfl
  try simp only [Act.put, List.setIfInBounds_toArray, List.set_cons_zero, List.set_cons_succ]
  refine wpAnyH_take (i := 7) (v := ?_) (by simp only [List.getElem?_toArray, List.getElem?_cons_succ, List.getElem?_cons_zero]; rfl) (by kernel_rfl) (by kernel_rfl) (by kernel_rfl) (fun _ _ _ h => h) (Or.inl ⟨by rfl, ?_⟩) (by assumption) ?_
  rotate_left
  · intro w hSw; (try dsimp only at hSw); go_simp; try with_reducible rfl
  try simp only [Act.put, List.setIfInBounds_toArray, List.set_cons_zero, List.set_cons_succ]
  refine wpAnyH_done (by kernel_rfl) ?_ _
  (try refine NoPanic.normal ?_)
  (try clear q0); (try clear q1); (try clear q2); obtain ⟨q0, q1, q2⟩ := hHeld
  go_wp2_with ((go_at_call 15; (with_reducible refine (cAwake6 _).mono ?_); rintro e w1 ⟨rfl, hM⟩))
  go_ret
  exact ⟨rfl, by first | exact below_step HB hM | (repeat (first | with_reducible assumption | with_reducible exact Below.refl _ _ | ((with_reducible refine Below.setCell ?_ ?_ _); rotate_left; (first | exact Nat.le_refl _ | (dsimp only; omega) | (simp; done) | (simp; omega))) | with_reducible refine below_alloc ?_ _ | with_reducible apply below_drewN | with_reducible apply Below.drew | with_reducible refine below_step ?_ (by assumption)))⟩
  simp only [hcl.1, hcl.2.1, hcl.2.2] at k2
  (try refine wp_region_noPanic ?_)
  refine wp_region_held_drew (S := (fun (w' : World) => w'.cell? ⟨w.heap.size + 1, 0, none⟩ = some (.int .i64 a) ∧ w'.cell? ⟨w.heap.size + 1, 1, none⟩ = some (.int .i64 b) ∧ w'.cell? ⟨w.heap.size + 1, 2, none⟩ = some (.int .i64 c))) (by kernel_rfl) ⟨(by first | (simp (maxDischargeDepth := 6) [go_sem, *]; done)), (by first | (simp (maxDischargeDepth := 6) [go_sem, *]; done)), (by first | (simp (maxDischargeDepth := 6) [go_sem, *]; done))⟩ (fun hHeld => ?_)
  refine wpAnyH_take (i := 0) (v := ?_) (by simp only [List.getElem?_toArray, List.getElem?_cons_succ, List.getElem?_cons_zero]; rfl) (by kernel_rfl) (by kernel_rfl) (by kernel_rfl) (fun _ _ _ h => h) (Or.inl ⟨by rfl, ?_⟩) (by assumption) ?_
  rotate_left
  · intro w hSw; (try dsimp only at hSw); go_simp; try with_reducible rfl
  try simp only [Act.put, List.setIfInBounds_toArray, List.set_cons_zero, List.set_cons_succ]
  refine wpAnyH_take (i := 1) (v := ?_) (by simp only [List.getElem?_toArray, List.getElem?_cons_succ, List.getElem?_cons_zero]; rfl) (by kernel_rfl) (by kernel_rfl) (by kernel_rfl) (fun _ _ _ h => h) (Or.inl ⟨by rfl, ?_⟩) (by assumption) ?_
  rotate_left
  · intro w hSw; (try dsimp only at hSw); go_simp; try with_reducible rfl
  try simp only [Act.put, List.setIfInBounds_toArray, List.set_cons_zero, List.set_cons_succ]
  refine wpAnyH_take (i := 2) (v := ?_) (by simp only [List.getElem?_toArray, List.getElem?_cons_succ, List.getElem?_cons_zero]; rfl) (by kernel_rfl) (by kernel_rfl) (by kernel_rfl) (fun _ _ _ h => h) (Or.inl ⟨by rfl, ?_⟩) (by assumption) ?_
  rotate_left
  · intro w hSw; (try dsimp only at hSw); go_simp; try with_reducible rfl
  try simp only [Act.put, List.setIfInBounds_toArray, List.set_cons_zero, List.set_cons_succ]
  refine wpAnyH_take (i := 3) (v := ?_) (by simp only [List.getElem?_toArray, List.getElem?_cons_succ, List.getElem?_cons_zero]; rfl) (by kernel_rfl) (by kernel_rfl) (by kernel_rfl) (fun _ _ _ h => h) (Or.inl ⟨by rfl, ?_⟩) (by assumption) ?_
  rotate_left
  · intro w hSw; (try dsimp only at hSw); go_simp; try with_reducible rfl
  try simp only [Act.put, List.setIfInBounds_toArray, List.set_cons_zero, List.set_cons_succ]
  refine wpAnyH_take (i := 5) (v := ?_) (by simp only [List.getElem?_toArray, List.getElem?_cons_succ, List.getElem?_cons_zero]; rfl) (by kernel_rfl) (by kernel_rfl) (by kernel_rfl) (fun _ _ _ h => h) (Or.inl ⟨by rfl, ?_⟩) (by assumption) ?_
  rotate_left
  · intro w hSw; (try dsimp only at hSw); go_simp; try with_reducible rfl
  try simp only [Act.put, List.setIfInBounds_toArray, List.set_cons_zero, List.set_cons_succ]
  have hOld := hHeld; clear hHeld
  refine wpAnyH_ready (rs := [4]) (by kernel_rfl) (by simp) (AllReadyH.cons rfl (fun K hK => ?_) AllReadyH.nil)
  go_simp
  (go_at_call 21; (with_reducible refine (k2 _).mono ?_); rintro e w1 ⟨rfl, hM⟩)
  (try go_wp2_with (fail))
  refine hK.out _ _ ⟨(by first | exact mv_cell hM (by first | (dsimp only; omega) | (simp; omega)) hOld.1 | exact cell_later hM hOld.1 | exact HT.cb | exact HT.cc | (simp (maxDischargeDepth := 6) [go_sem, *]; done)), (by first | exact mv_cell hM (by first | (dsimp only; omega) | (simp; omega)) hOld.2.1 | exact cell_later hM hOld.2.1 | exact HT.cb | exact HT.cc | (simp (maxDischargeDepth := 6) [go_sem, *]; done)), (by first | exact mv_cell hM (by first | (dsimp only; omega) | (simp; omega)) hOld.2.2 | exact cell_later hM hOld.2.2 | exact HT.cb | exact HT.cc | (simp (maxDischargeDepth := 6) [go_sem, *]; done))⟩ (fun hHeld => ?_)
  clear hK K hOld
  try simp only [Act.put, List.setIfInBounds_toArray, List.set_cons_zero, List.set_cons_succ]
  have HB := below_step (HB.drew) hM
  refine wpAnyH_take (i := 6) (v := ?_) (by simp only [List.getElem?_toArray, List.getElem?_cons_succ, List.getElem?_cons_zero]; rfl) (by kernel_rfl) (by kernel_rfl) (by kernel_rfl) (fun _ _ _ h => h) (Or.inl ⟨by rfl, ?_⟩) (by assumption) ?_
  rotate_left
  · intro w hSw; (try dsimp only at hSw); go_simp; try with_reducible rfl
  try simp only [Act.put, List.setIfInBounds_toArray, List.set_cons_zero, List.set_cons_succ]
  refine wpAnyH_take (i := 7) (v := ?_) (by simp only [List.getElem?_toArray, List.getElem?_cons_succ, List.getElem?_cons_zero]; rfl) (by kernel_rfl) (by kernel_rfl) (by kernel_rfl) (fun _ _ _ h => h) (Or.inl ⟨by rfl, ?_⟩) (by assumption) ?_
  rotate_left
  · intro w hSw; (try dsimp only at hSw); go_simp; try with_reducible rfl
  try simp only [Act.put, List.setIfInBounds_toArray, List.set_cons_zero, List.set_cons_succ]
  refine wpAnyH_done (by kernel_rfl) ?_ _
  (try refine NoPanic.normal ?_)
  (try clear q0); (try clear q1); (try clear q2); obtain ⟨q0, q1, q2⟩ := hHeld
  have bd : ∀ v : Int, clm v (-4398046511104) 4398046511104 = v → -4398046511104 ≤ v ∧ v ≤ 4398046511104 := by intro v; unfold clm; split <;> (try split) <;> omega
  obtain ⟨p0, p1, p2, p3, E0, E1⟩ := hu trivial
  obtain ⟨r0, r1, r2, r3, r4, r5, r6, r7, r8, t0, t1, t2, z0, z1, z2, ⟨m0, m1, m2, m3, m4, m5, m6, m7, m8⟩, ⟨f0, f1, f2, f3, f4, f5, f6, f7, f8⟩, hr, ⟨s0, s1, s2⟩, ⟨d0, d1, d2⟩, ⟨ht0, ht1, ht2⟩, ⟨v0, v1, v2⟩, ⟨b0, b1, b2⟩, n0, n1, n2⟩ := kb_all u0 u1 u2 u3 a b c p0 p1 p2 p3 E0 E1 (bd a hcl.1) (bd b hcl.2.1) (bd c hcl.2.2)
  have ba := bd a hcl.1
  have bb := bd b hcl.2.1
  have bc := bd c hcl.2.2
  have y0 := cell_later (w := W2.drew) hM y0
  have y1 := cell_later (w := W2.drew) hM y1
  have y2 := cell_later (w := W2.drew) hM y2
  have y3 := cell_later (w := W2.drew) hM y3
  have V := Bk.later (W := W2.drew) (Bk.drew V) hM
  rename World => g
  have hgw := HB.size
  clear hM k2 bd
  have k3 := fun O W => cMatrix u0 u1 u2 u3 g.heap.size O W (by omega) (by omega) (by omega) (by omega) (by omega) (by omega) (by omega) (by omega)
  simp only [m0, m1, m2, m3, m4, m5, m6, m7, m8, f0, f1, f2, f3, f4, f5, f6, f7, f8, Bool.not_true, Bool.or_false] at k3
  have k4 := fun O W => cApply r0 r1 r2 r3 r4 r5 r6 r7 r8 a b c g.heap.size O W (by omega) (by omega) (by omega) (by omega) (by omega) (by omega) (by omega) (by omega) (by omega) (by omega) (by omega) (by omega) (by omega) (by omega) (by omega) (by omega) (by omega) (by omega) a_0 a_1 b_0 b_1 c_0 c_1
  simp only [s0, s1, s2, d0, d1, d2, Bool.not_true, Bool.or_false] at k4
  have k5 := fun O W => cBack r0 r1 r2 r3 r4 r5 r6 r7 r8 t0 t1 t2 g.heap.size O W (by omega) (by omega) (by omega) (by omega) (by omega) (by omega) (by omega) (by omega) (by omega) (by omega) (by omega) (by omega) (by omega) (by omega) (by omega) (by omega) (by omega) (by omega) (by omega) (by omega) (by omega) (by omega) (by omega) (by omega)
  simp only [v0, v1, v2, b0, b1, b2, Bool.not_true, Bool.or_false] at k5
  have k6 := fun O W => cVSub z0 z1 z2 a b c g.heap.size O W (by omega) (by omega) (by omega) (by omega) (by omega) (by omega) a_0 a_1 b_0 b_1 c_0 c_1
  rw [sat_id6 (z0 - a) (by omega) (by omega), fx_id6 (z0 - a) (by omega) (by omega), sat_id6 (z1 - b) (by omega) (by omega), fx_id6 (z1 - b) (by omega) (by omega), sat_id6 (z2 - c) (by omega) (by omega), fx_id6 (z2 - c) (by omega) (by omega)] at k6
  simp only [Bool.not_true, Bool.or_false] at k6
  have cl : ∀ v : Int, -1048576 ≤ v ∧ v ≤ 1048576 → clm v (-1048576) 1048576 = v := by intro v h; unfold clm; rw [if_neg (by omega), if_neg (by omega)]
  have k7 := fun W => cVClamp (z0 - a) (z1 - b) (z2 - c) 1048576 W (by decide) (by decide)
  simp only [cl _ n0, cl _ n1, cl _ n2] at k7
  clear cl m0 m1 m2 m3 m4 m5 m6 m7 m8 f0 f1 f2 f3 f4 f5 f6 f7 f8 s0 s1 s2 d0 d1 d2 v0 v1 v2 b0 b1 b2
  generalize z0 - a = j0 at *
  generalize z1 - b = j1 at *
  generalize z2 - c = j2 at *
  go_wp2_with (fail)
  (with_reducible refine (k3 false _ (by simp [go_sem]) (by simp [go_sem])).mono ?_); rintro e w4 ⟨rfl, hM⟩
  have HT : On g.heap.size false w w4 := On.start (by (repeat (first | with_reducible assumption | with_reducible exact Below.refl _ _ | ((with_reducible refine Below.setCell ?_ ?_ _); rotate_left; (first | exact Nat.le_refl _ | (dsimp only; omega) | (simp; done) | (simp; omega))) | with_reducible refine below_alloc ?_ _ | with_reducible apply below_drewN | with_reducible apply Below.drew | with_reducible refine below_step ?_ (by assumption)))) hM hgw
  have V : Bk (w.heap.size + 1) 0 [.int .i64 a, .int .i64 b, .int .i64 c] w4 := Bk.mv hM (by have := World.block_lt_of_cell? g _ q0; dsimp only at this; omega) (Bk.alloc V _)
  have hg4 : w.heap.size + 1 < g.heap.size := World.block_lt_of_cell? g _ q0
  have hg5 : g.heap.size < w4.heap.size := World.block_lt_of_cell? w4 _ HT.cb
  clear k3 hM HB y0 y1 y2 y3 q0 q1 q2
  go_upto_region 6 with (fail)
  generalize hW : World.alloc _ _ = W5
  have R : Bk w4.heap.size 0 [.int .i64 r0, .int .i64 r1, .int .i64 r2, .int .i64 r3, .int .i64 r4, .int .i64 r5, .int .i64 r6, .int .i64 r7, .int .i64 r8] W5 := by rw [← hW]; simp [Bk, go_sem]
  have V : Bk (w.heap.size + 1) 0 [.int .i64 a, .int .i64 b, .int .i64 c] W5 := by rw [← hW]; exact Bk.alloc V _
  have HT : On g.heap.size false w W5 := by rw [← hW]; exact On.alloc HT _
  have hzg : g.heap.size < W5.heap.size := World.block_lt_of_cell? W5 _ HT.cb
  have hzv : w.heap.size + 1 < W5.heap.size := World.block_lt_of_cell? W5 _ V.1
  have hzr : w4.heap.size < W5.heap.size := World.block_lt_of_cell? W5 _ R.1
  clear hW
  go_cut [9] (fun p wx => ∃ k : Nat, p = .pointer (some ⟨k, 0, none⟩) ∧ On g.heap.size false w wx ∧ Bk k 0 [.int .i64 j0, .int .i64 j1, .int .i64 j2] wx)
  case first =>
    (try refine wp_region_noPanic ?_)
    refine wp_region_held_drew (S := (fun (w' : World) => Bk (w.heap.size + 1) 0 [.int .i64 a, .int .i64 b, .int .i64 c] w' ∧ Bk w4.heap.size 0 [.int .i64 r0, .int .i64 r1, .int .i64 r2, .int .i64 r3, .int .i64 r4, .int .i64 r5, .int .i64 r6, .int .i64 r7, .int .i64 r8] w')) (by kernel_rfl) ⟨by (repeat (first | with_reducible assumption | with_reducible apply Bk.drew | with_reducible apply Bk.alloc | with_reducible apply Bk.later (hB := hR) | with_reducible apply Bk.later (hB := hM) | ((with_reducible apply Bk.mv hM); (focus omega)) | ((with_reducible apply Bk.later); rotate_left; (with_reducible assumption)) | ((with_reducible apply Bk.put); rotate_left; (first | (dsimp only; omega))))), by (repeat (first | with_reducible assumption | with_reducible apply Bk.drew | with_reducible apply Bk.alloc | with_reducible apply Bk.later (hB := hR) | with_reducible apply Bk.later (hB := hM) | ((with_reducible apply Bk.mv hM); (focus omega)) | ((with_reducible apply Bk.later); rotate_left; (with_reducible assumption)) | ((with_reducible apply Bk.put); rotate_left; (first | (dsimp only; omega)))))⟩ (fun hHeld => ?_)
    refine wpAnyH_take (i := 0) (v := ?_) (by simp only [List.getElem?_toArray, List.getElem?_cons_succ, List.getElem?_cons_zero]; rfl) (by kernel_rfl) (by kernel_rfl) (by kernel_rfl) (fun _ _ _ h => h) (Or.inl ⟨by rfl, ?_⟩) (by assumption) ?_
    rotate_left
    · intro w hSw; (try dsimp only at hSw); simp only [Bk] at hSw; go_simp; try with_reducible rfl
    try simp only [Act.put, List.setIfInBounds_toArray, List.set_cons_zero, List.set_cons_succ]
    refine wpAnyH_take (i := 1) (v := ?_) (by simp only [List.getElem?_toArray, List.getElem?_cons_succ, List.getElem?_cons_zero]; rfl) (by kernel_rfl) (by kernel_rfl) (by kernel_rfl) (fun _ _ _ h => h) (Or.inl ⟨by rfl, ?_⟩) (by assumption) ?_
    rotate_left
    · intro w hSw; (try dsimp only at hSw); simp only [Bk] at hSw; go_simp; try with_reducible rfl
    try simp only [Act.put, List.setIfInBounds_toArray, List.set_cons_zero, List.set_cons_succ]
    refine wpAnyH_take (i := 3) (v := ?_) (by simp only [List.getElem?_toArray, List.getElem?_cons_succ, List.getElem?_cons_zero]; rfl) (by kernel_rfl) (by kernel_rfl) (by kernel_rfl) (fun _ _ _ h => h) (Or.inl ⟨by rfl, ?_⟩) (by assumption) ?_
    rotate_left
    · intro w hSw; (try dsimp only at hSw); simp only [Bk] at hSw; go_simp; try with_reducible rfl
    try simp only [Act.put, List.setIfInBounds_toArray, List.set_cons_zero, List.set_cons_succ]
    refine wpAnyH_take (i := 2) (v := ?_) (by simp only [List.getElem?_toArray, List.getElem?_cons_succ, List.getElem?_cons_zero]; rfl) (by kernel_rfl) (by kernel_rfl) (by kernel_rfl) (fun _ _ _ h => h) (Or.inl ⟨by rfl, ?_⟩) (by assumption) ?_
    rotate_left
    · intro w hSw; (try dsimp only at hSw); simp only [Bk] at hSw; go_simp; try with_reducible rfl
    try simp only [Act.put, List.setIfInBounds_toArray, List.set_cons_zero, List.set_cons_succ]
    refine wpAnyH_take (i := 4) (v := ?_) (by simp only [List.getElem?_toArray, List.getElem?_cons_succ, List.getElem?_cons_zero]; rfl) (by kernel_rfl) (by kernel_rfl) (by kernel_rfl) (fun _ _ _ h => h) (Or.inl ⟨by rfl, ?_⟩) (by assumption) ?_
    rotate_left
    · intro w hSw; (try dsimp only at hSw); simp only [Bk] at hSw; go_simp; try with_reducible rfl
    try simp only [Act.put, List.setIfInBounds_toArray, List.set_cons_zero, List.set_cons_succ]
    refine wpAnyH_take (i := 5) (v := ?_) (by simp only [List.getElem?_toArray, List.getElem?_cons_succ, List.getElem?_cons_zero]; rfl) (by kernel_rfl) (by kernel_rfl) (by kernel_rfl) (fun _ _ _ h => h) (Or.inl ⟨by rfl, ?_⟩) (by assumption) ?_
    rotate_left
    · intro w hSw; (try dsimp only at hSw); simp only [Bk] at hSw; go_simp; try with_reducible rfl
    try simp only [Act.put, List.setIfInBounds_toArray, List.set_cons_zero, List.set_cons_succ]
    refine wpAnyH_take (i := 8) (v := ?_) (by simp only [List.getElem?_toArray, List.getElem?_cons_succ, List.getElem?_cons_zero]; rfl) (by kernel_rfl) (by kernel_rfl) (by kernel_rfl) (fun _ _ _ h => h) (Or.inl ⟨by rfl, ?_⟩) (by assumption) ?_
    rotate_left
    · intro w hSw; (try dsimp only at hSw); simp only [Bk] at hSw; go_simp; try with_reducible rfl
    try simp only [Act.put, List.setIfInBounds_toArray, List.set_cons_zero, List.set_cons_succ]
    refine wpAnyH_ready (rs := [6, 10]) (by kernel_rfl) (by simp) ?_
    refine AllReadyH.cons rfl (fun K hK => ?_) ?_
    · have hOld := hHeld; clear hHeld
      have B0 := hOld.1
      have B1 := hOld.2
      go_simp
      (go_at_call 11; (with_reducible refine (On.call (by (repeat (first | with_reducible assumption | with_reducible apply On.alloc | with_reducible apply On.drew | ((with_reducible apply On.after); rotate_left; (with_reducible assumption)) | ((with_reducible apply On.setCell); rotate_left; (first | (dsimp only; omega) | omega | (simp; omega)); (first | (dsimp only; omega) | omega | (simp; omega)); (first | (dsimp only; omega) | omega | (simp; omega)))))) (k4 _ _)).mono ?_); rintro e wz1 ⟨rfl, hR, HT⟩)
      have hRwz1 := hR
      have hzR := hR.size
      (try simp at hzR)
      (try go_wp2_with (fail))
      refine hK.out _ _ (by refine ⟨?_, ?_⟩ <;> (repeat (first | with_reducible (first | assumption | apply Bk.drew | apply Bk.alloc | apply Bk.later (hB := hRwz1)) | ((with_reducible apply Bk.mv hRwz1); (focus omega)) | ((with_reducible apply Bk.later); rotate_left; (with_reducible assumption)) | ((with_reducible apply Bk.put); rotate_left; (first | (dsimp only; omega)))))) (fun hHeld => ?_)
      clear hK K hOld B0 B1
      try simp only [Act.put, List.setIfInBounds_toArray, List.set_cons_zero, List.set_cons_succ]
      refine wpAnyH_ready (rs := [7, 10]) (by kernel_rfl) (by simp) ?_
      refine AllReadyH.cons rfl (fun K hK => ?_) ?_
      · have hOld := hHeld; clear hHeld
        have B0 := hOld.1
        have B1 := hOld.2
        go_simp
        (go_at_call 13; (with_reducible refine (On.call (by (repeat (first | with_reducible assumption | with_reducible apply On.alloc | with_reducible apply On.drew | ((with_reducible apply On.after); rotate_left; (with_reducible assumption)) | ((with_reducible apply On.setCell); rotate_left; (first | (dsimp only; omega) | omega | (simp; omega)); (first | (dsimp only; omega) | omega | (simp; omega)); (first | (dsimp only; omega) | omega | (simp; omega)))))) (k5 _ _)).mono ?_); rintro e wz2 ⟨rfl, hR, HT⟩)
        have hRwz2 := hR
        have hzR := hR.size
        (try simp at hzR)
        (try go_wp2_with (fail))
        refine hK.out _ _ (by refine ⟨?_, ?_⟩ <;> (repeat (first | with_reducible (first | assumption | apply Bk.drew | apply Bk.alloc | apply Bk.later (hB := hRwz2) | apply Bk.later (hB := hRwz1)) | ((with_reducible apply Bk.mv hRwz2); (focus omega)) | ((with_reducible apply Bk.mv hRwz1); (focus omega)) | ((with_reducible apply Bk.later); rotate_left; (with_reducible assumption)) | ((with_reducible apply Bk.put); rotate_left; (first | (dsimp only; omega)))))) (fun hHeld => ?_)
        clear hK K hOld B0 B1
        try simp only [Act.put, List.setIfInBounds_toArray, List.set_cons_zero, List.set_cons_succ]
        refine wpAnyH_ready (rs := [9, 10]) (by kernel_rfl) (by simp) ?_
        refine AllReadyH.cons rfl (fun K hK => ?_) ?_
        · have hOld := hHeld; clear hHeld
          have B0 := hOld.1
          have B1 := hOld.2
          go_simp
          (go_at_call 29; (with_reducible refine (On.call (by (repeat (first | with_reducible assumption | with_reducible apply On.alloc | with_reducible apply On.drew | ((with_reducible apply On.after); rotate_left; (with_reducible assumption)) | ((with_reducible apply On.setCell); rotate_left; (first | (dsimp only; omega) | omega | (simp; omega)); (first | (dsimp only; omega) | omega | (simp; omega)); (first | (dsimp only; omega) | omega | (simp; omega)))))) (k6 _ _)).mono ?_); rintro e wz3 ⟨rfl, hR, HT⟩)
          have hRwz3 := hR
          have hzR := hR.size
          (try simp at hzR)
          (try go_wp2_with (fail))
          refine hK.out _ _ (by refine ⟨?_, ?_⟩ <;> (repeat (first | with_reducible (first | assumption | apply Bk.drew | apply Bk.alloc | apply Bk.later (hB := hRwz3) | apply Bk.later (hB := hRwz2) | apply Bk.later (hB := hRwz1)) | ((with_reducible apply Bk.mv hRwz3); (focus omega)) | ((with_reducible apply Bk.mv hRwz2); (focus omega)) | ((with_reducible apply Bk.mv hRwz1); (focus omega)) | ((with_reducible apply Bk.later); rotate_left; (with_reducible assumption)) | ((with_reducible apply Bk.put); rotate_left; (first | (dsimp only; omega)))))) (fun hHeld => ?_)
          clear hK K hOld B0 B1
          try simp only [Act.put, List.setIfInBounds_toArray, List.set_cons_zero, List.set_cons_succ]
          refine wpAnyH_ready (rs := [10]) (by kernel_rfl) (by simp) ?_
          refine AllReadyH.cons rfl (fun K hK => ?_) ?_
          · have hOld := hHeld; clear hHeld
            have B0 := hOld.1
            have B1 := hOld.2
            go_simp
            refine hK.out _ _ (by refine ⟨?_, ?_⟩ <;> (repeat (first | with_reducible (first | assumption | apply Bk.drew | apply Bk.alloc | apply Bk.later (hB := hRwz3) | apply Bk.later (hB := hRwz2) | apply Bk.later (hB := hRwz1)) | ((with_reducible apply Bk.mv hRwz3); (focus omega)) | ((with_reducible apply Bk.mv hRwz2); (focus omega)) | ((with_reducible apply Bk.mv hRwz1); (focus omega)) | ((with_reducible apply Bk.later); rotate_left; (with_reducible assumption)) | ((with_reducible apply Bk.put); rotate_left; (first | (dsimp only; omega)))))) (fun hHeld => ?_)
            clear hK K hOld B0 B1
            try simp only [Act.put, List.setIfInBounds_toArray, List.set_cons_zero, List.set_cons_succ]
            refine wpAnyH_ready (rs := [11]) (by kernel_rfl) (by simp) ?_
            refine AllReadyH.cons rfl (fun K hK => ?_) ?_
            · have hOld := hHeld; clear hHeld
              have B0 := hOld.1
              have B1 := hOld.2
              have G0 : Bk (wz3.heap.size) 0 [.int .i64 0, .int .i64 0, .int .i64 0] ((wz3).alloc (Obj.cells #[.int .i64 0, .int .i64 0, .int .i64 0] 26)) := by first | (simp [Bk, go_sem]; done) | (repeat (first | with_reducible (first | assumption | apply Bk.drew | apply Bk.alloc | apply Bk.later (hB := hRwz3) | apply Bk.later (hB := hRwz2) | apply Bk.later (hB := hRwz1)) | ((with_reducible apply Bk.mv hRwz3); (focus omega)) | ((with_reducible apply Bk.mv hRwz2); (focus omega)) | ((with_reducible apply Bk.mv hRwz1); (focus omega)) | ((with_reducible apply Bk.later); rotate_left; (with_reducible assumption)) | ((with_reducible apply Bk.put); rotate_left; (first | (dsimp only; omega)))))
              simp only [Bk] at G0
              go_simp
              refine hK.out _ _ (by refine ⟨?_, ?_⟩ <;> (repeat (first | with_reducible (first | assumption | apply Bk.drew | apply Bk.alloc | apply Bk.later (hB := hRwz3) | apply Bk.later (hB := hRwz2) | apply Bk.later (hB := hRwz1)) | ((with_reducible apply Bk.mv hRwz3); (focus omega)) | ((with_reducible apply Bk.mv hRwz2); (focus omega)) | ((with_reducible apply Bk.mv hRwz1); (focus omega)) | ((with_reducible apply Bk.later); rotate_left; (with_reducible assumption)) | ((with_reducible apply Bk.put); rotate_left; (first | (dsimp only; omega)))))) (fun hHeld => ?_)
              clear hK K hOld B0 B1
              try simp only [Act.put, List.setIfInBounds_toArray, List.set_cons_zero, List.set_cons_succ]
              refine wpAnyH_done (by kernel_rfl) ?_ _
              (try refine NoPanic.normal ?_)
              go_wp2
              go_meet
              exact ⟨_, rfl, by (repeat (first | with_reducible assumption | with_reducible apply On.alloc | with_reducible apply On.drew | ((with_reducible apply On.after); rotate_left; (with_reducible assumption)) | ((with_reducible apply On.setCell); rotate_left; (first | (dsimp only; omega) | omega | (simp; omega)); (first | (dsimp only; omega) | omega | (simp; omega)); (first | (dsimp only; omega) | omega | (simp; omega))))), by simp (maxDischargeDepth := 8) [Bk, go_sem, *]⟩
            exact AllReadyH.nil
          exact AllReadyH.nil
        refine AllReadyH.cons rfl (fun K hK => ?_) ?_
        · have hOld := hHeld; clear hHeld
          have B0 := hOld.1
          have B1 := hOld.2
          go_simp
          refine hK.out _ _ (by refine ⟨?_, ?_⟩ <;> (repeat (first | with_reducible (first | assumption | apply Bk.drew | apply Bk.alloc | apply Bk.later (hB := hRwz2) | apply Bk.later (hB := hRwz1)) | ((with_reducible apply Bk.mv hRwz2); (focus omega)) | ((with_reducible apply Bk.mv hRwz1); (focus omega)) | ((with_reducible apply Bk.later); rotate_left; (with_reducible assumption)) | ((with_reducible apply Bk.put); rotate_left; (first | (dsimp only; omega)))))) (fun hHeld => ?_)
          clear hK K hOld B0 B1
          try simp only [Act.put, List.setIfInBounds_toArray, List.set_cons_zero, List.set_cons_succ]
          refine wpAnyH_ready (rs := [9]) (by kernel_rfl) (by simp) ?_
          refine AllReadyH.cons rfl (fun K hK => ?_) ?_
          · have hOld := hHeld; clear hHeld
            have B0 := hOld.1
            have B1 := hOld.2
            go_simp
            (go_at_call 29; (with_reducible refine (On.call (by (repeat (first | with_reducible assumption | with_reducible apply On.alloc | with_reducible apply On.drew | ((with_reducible apply On.after); rotate_left; (with_reducible assumption)) | ((with_reducible apply On.setCell); rotate_left; (first | (dsimp only; omega) | omega | (simp; omega)); (first | (dsimp only; omega) | omega | (simp; omega)); (first | (dsimp only; omega) | omega | (simp; omega)))))) (k6 _ _)).mono ?_); rintro e wz4 ⟨rfl, hR, HT⟩)
            have hRwz4 := hR
            have hzR := hR.size
            (try simp at hzR)
            have GR0 : Bk (wz2.heap.size) 0 [.int .i64 0, .int .i64 0, .int .i64 0] wz4 := Bk.mv hR (by omega) (by first | (simp [Bk, go_sem]; done) | (repeat (first | with_reducible (first | assumption | apply Bk.drew | apply Bk.alloc | apply Bk.later (hB := hRwz4) | apply Bk.later (hB := hRwz2) | apply Bk.later (hB := hRwz1)) | ((with_reducible apply Bk.mv hRwz4); (focus omega)) | ((with_reducible apply Bk.mv hRwz2); (focus omega)) | ((with_reducible apply Bk.mv hRwz1); (focus omega)) | ((with_reducible apply Bk.later); rotate_left; (with_reducible assumption)) | ((with_reducible apply Bk.put); rotate_left; (first | (dsimp only; omega))))))
            have GS0 := GR0; simp only [Bk] at GS0
            have nl0 : wz2.heap.size < wz4.heap.size := by omega
            (try go_wp2_with (fail))
            refine hK.out _ _ (by refine ⟨?_, ?_⟩ <;> (repeat (first | with_reducible (first | assumption | apply Bk.drew | apply Bk.alloc | apply Bk.later (hB := hRwz4) | apply Bk.later (hB := hRwz2) | apply Bk.later (hB := hRwz1)) | ((with_reducible apply Bk.mv hRwz4); (focus omega)) | ((with_reducible apply Bk.mv hRwz2); (focus omega)) | ((with_reducible apply Bk.mv hRwz1); (focus omega)) | ((with_reducible apply Bk.later); rotate_left; (with_reducible assumption)) | ((with_reducible apply Bk.put); rotate_left; (first | (dsimp only; omega)))))) (fun hHeld => ?_)
            clear hK K hOld B0 B1
            try simp only [Act.put, List.setIfInBounds_toArray, List.set_cons_zero, List.set_cons_succ]
            refine wpAnyH_ready (rs := [11]) (by kernel_rfl) (by simp) ?_
            refine AllReadyH.cons rfl (fun K hK => ?_) ?_
            · have hOld := hHeld; clear hHeld
              have B0 := hOld.1
              have B1 := hOld.2
              have G0 : Bk (wz2.heap.size) 0 [.int .i64 0, .int .i64 0, .int .i64 0] (wz4) := by first | (simp [Bk, go_sem]; done) | (repeat (first | with_reducible (first | assumption | apply Bk.drew | apply Bk.alloc | apply Bk.later (hB := hRwz4) | apply Bk.later (hB := hRwz2) | apply Bk.later (hB := hRwz1)) | ((with_reducible apply Bk.mv hRwz4); (focus omega)) | ((with_reducible apply Bk.mv hRwz2); (focus omega)) | ((with_reducible apply Bk.mv hRwz1); (focus omega)) | ((with_reducible apply Bk.later); rotate_left; (with_reducible assumption)) | ((with_reducible apply Bk.put); rotate_left; (first | (dsimp only; omega)))))
              simp only [Bk] at G0
              go_simp
              refine hK.out _ _ (by refine ⟨?_, ?_⟩ <;> (repeat (first | with_reducible (first | assumption | apply Bk.drew | apply Bk.alloc | apply Bk.later (hB := hRwz4) | apply Bk.later (hB := hRwz2) | apply Bk.later (hB := hRwz1)) | ((with_reducible apply Bk.mv hRwz4); (focus omega)) | ((with_reducible apply Bk.mv hRwz2); (focus omega)) | ((with_reducible apply Bk.mv hRwz1); (focus omega)) | ((with_reducible apply Bk.later); rotate_left; (with_reducible assumption)) | ((with_reducible apply Bk.put); rotate_left; (first | (dsimp only; omega)))))) (fun hHeld => ?_)
              clear hK K hOld B0 B1
              try simp only [Act.put, List.setIfInBounds_toArray, List.set_cons_zero, List.set_cons_succ]
              refine wpAnyH_done (by kernel_rfl) ?_ _
              (try refine NoPanic.normal ?_)
              go_wp2
              go_meet
              exact ⟨_, rfl, by (repeat (first | with_reducible assumption | with_reducible apply On.alloc | with_reducible apply On.drew | ((with_reducible apply On.after); rotate_left; (with_reducible assumption)) | ((with_reducible apply On.setCell); rotate_left; (first | (dsimp only; omega) | omega | (simp; omega)); (first | (dsimp only; omega) | omega | (simp; omega)); (first | (dsimp only; omega) | omega | (simp; omega))))), by simp (maxDischargeDepth := 8) [Bk, go_sem, *]⟩
            exact AllReadyH.nil
          exact AllReadyH.nil
        exact AllReadyH.nil
      refine AllReadyH.cons rfl (fun K hK => ?_) ?_
      · have hOld := hHeld; clear hHeld
        have B0 := hOld.1
        have B1 := hOld.2
        go_simp
        refine hK.out _ _ (by refine ⟨?_, ?_⟩ <;> (repeat (first | with_reducible (first | assumption | apply Bk.drew | apply Bk.alloc | apply Bk.later (hB := hRwz1)) | ((with_reducible apply Bk.mv hRwz1); (focus omega)) | ((with_reducible apply Bk.later); rotate_left; (with_reducible assumption)) | ((with_reducible apply Bk.put); rotate_left; (first | (dsimp only; omega)))))) (fun hHeld => ?_)
        clear hK K hOld B0 B1
        try simp only [Act.put, List.setIfInBounds_toArray, List.set_cons_zero, List.set_cons_succ]
        refine wpAnyH_ready (rs := [7]) (by kernel_rfl) (by simp) ?_
        refine AllReadyH.cons rfl (fun K hK => ?_) ?_
        · have hOld := hHeld; clear hHeld
          have B0 := hOld.1
          have B1 := hOld.2
          go_simp
          (go_at_call 13; (with_reducible refine (On.call (by (repeat (first | with_reducible assumption | with_reducible apply On.alloc | with_reducible apply On.drew | ((with_reducible apply On.after); rotate_left; (with_reducible assumption)) | ((with_reducible apply On.setCell); rotate_left; (first | (dsimp only; omega) | omega | (simp; omega)); (first | (dsimp only; omega) | omega | (simp; omega)); (first | (dsimp only; omega) | omega | (simp; omega)))))) (k5 _ _)).mono ?_); rintro e wz5 ⟨rfl, hR, HT⟩)
          have hRwz5 := hR
          have hzR := hR.size
          (try simp at hzR)
          have GR0 : Bk (wz1.heap.size) 0 [.int .i64 0, .int .i64 0, .int .i64 0] wz5 := Bk.mv hR (by omega) (by first | (simp [Bk, go_sem]; done) | (repeat (first | with_reducible (first | assumption | apply Bk.drew | apply Bk.alloc | apply Bk.later (hB := hRwz5) | apply Bk.later (hB := hRwz1)) | ((with_reducible apply Bk.mv hRwz5); (focus omega)) | ((with_reducible apply Bk.mv hRwz1); (focus omega)) | ((with_reducible apply Bk.later); rotate_left; (with_reducible assumption)) | ((with_reducible apply Bk.put); rotate_left; (first | (dsimp only; omega))))))
          have GS0 := GR0; simp only [Bk] at GS0
          have nl0 : wz1.heap.size < wz5.heap.size := by omega
          (try go_wp2_with (fail))
          refine hK.out _ _ (by refine ⟨?_, ?_⟩ <;> (repeat (first | with_reducible (first | assumption | apply Bk.drew | apply Bk.alloc | apply Bk.later (hB := hRwz5) | apply Bk.later (hB := hRwz1)) | ((with_reducible apply Bk.mv hRwz5); (focus omega)) | ((with_reducible apply Bk.mv hRwz1); (focus omega)) | ((with_reducible apply Bk.later); rotate_left; (with_reducible assumption)) | ((with_reducible apply Bk.put); rotate_left; (first | (dsimp only; omega)))))) (fun hHeld => ?_)
          clear hK K hOld B0 B1
          try simp only [Act.put, List.setIfInBounds_toArray, List.set_cons_zero, List.set_cons_succ]
          refine wpAnyH_ready (rs := [9]) (by kernel_rfl) (by simp) ?_
          refine AllReadyH.cons rfl (fun K hK => ?_) ?_
          · have hOld := hHeld; clear hHeld
            have B0 := hOld.1
            have B1 := hOld.2
            go_simp
            (go_at_call 29; (with_reducible refine (On.call (by (repeat (first | with_reducible assumption | with_reducible apply On.alloc | with_reducible apply On.drew | ((with_reducible apply On.after); rotate_left; (with_reducible assumption)) | ((with_reducible apply On.setCell); rotate_left; (first | (dsimp only; omega) | omega | (simp; omega)); (first | (dsimp only; omega) | omega | (simp; omega)); (first | (dsimp only; omega) | omega | (simp; omega)))))) (k6 _ _)).mono ?_); rintro e wz6 ⟨rfl, hR, HT⟩)
            have hRwz6 := hR
            have hzR := hR.size
            (try simp at hzR)
            have GR0 : Bk (wz1.heap.size) 0 [.int .i64 0, .int .i64 0, .int .i64 0] wz6 := Bk.mv hR (by omega) (by first | (simp [Bk, go_sem]; done) | (repeat (first | with_reducible (first | assumption | apply Bk.drew | apply Bk.alloc | apply Bk.later (hB := hRwz6) | apply Bk.later (hB := hRwz5) | apply Bk.later (hB := hRwz1)) | ((with_reducible apply Bk.mv hRwz6); (focus omega)) | ((with_reducible apply Bk.mv hRwz5); (focus omega)) | ((with_reducible apply Bk.mv hRwz1); (focus omega)) | ((with_reducible apply Bk.later); rotate_left; (with_reducible assumption)) | ((with_reducible apply Bk.put); rotate_left; (first | (dsimp only; omega))))))
            have GS0 := GR0; simp only [Bk] at GS0
            have nl0 : wz1.heap.size < wz6.heap.size := by omega
            (try go_wp2_with (fail))
            refine hK.out _ _ (by refine ⟨?_, ?_⟩ <;> (repeat (first | with_reducible (first | assumption | apply Bk.drew | apply Bk.alloc | apply Bk.later (hB := hRwz6) | apply Bk.later (hB := hRwz5) | apply Bk.later (hB := hRwz1)) | ((with_reducible apply Bk.mv hRwz6); (focus omega)) | ((with_reducible apply Bk.mv hRwz5); (focus omega)) | ((with_reducible apply Bk.mv hRwz1); (focus omega)) | ((with_reducible apply Bk.later); rotate_left; (with_reducible assumption)) | ((with_reducible apply Bk.put); rotate_left; (first | (dsimp only; omega)))))) (fun hHeld => ?_)
            clear hK K hOld B0 B1
            try simp only [Act.put, List.setIfInBounds_toArray, List.set_cons_zero, List.set_cons_succ]
            refine wpAnyH_ready (rs := [11]) (by kernel_rfl) (by simp) ?_
            refine AllReadyH.cons rfl (fun K hK => ?_) ?_
            · have hOld := hHeld; clear hHeld
              have B0 := hOld.1
              have B1 := hOld.2
              have G0 : Bk (wz1.heap.size) 0 [.int .i64 0, .int .i64 0, .int .i64 0] (wz6) := by first | (simp [Bk, go_sem]; done) | (repeat (first | with_reducible (first | assumption | apply Bk.drew | apply Bk.alloc | apply Bk.later (hB := hRwz6) | apply Bk.later (hB := hRwz5) | apply Bk.later (hB := hRwz1)) | ((with_reducible apply Bk.mv hRwz6); (focus omega)) | ((with_reducible apply Bk.mv hRwz5); (focus omega)) | ((with_reducible apply Bk.mv hRwz1); (focus omega)) | ((with_reducible apply Bk.later); rotate_left; (with_reducible assumption)) | ((with_reducible apply Bk.put); rotate_left; (first | (dsimp only; omega)))))
              simp only [Bk] at G0
              go_simp
              refine hK.out _ _ (by refine ⟨?_, ?_⟩ <;> (repeat (first | with_reducible (first | assumption | apply Bk.drew | apply Bk.alloc | apply Bk.later (hB := hRwz6) | apply Bk.later (hB := hRwz5) | apply Bk.later (hB := hRwz1)) | ((with_reducible apply Bk.mv hRwz6); (focus omega)) | ((with_reducible apply Bk.mv hRwz5); (focus omega)) | ((with_reducible apply Bk.mv hRwz1); (focus omega)) | ((with_reducible apply Bk.later); rotate_left; (with_reducible assumption)) | ((with_reducible apply Bk.put); rotate_left; (first | (dsimp only; omega)))))) (fun hHeld => ?_)
              clear hK K hOld B0 B1
              try simp only [Act.put, List.setIfInBounds_toArray, List.set_cons_zero, List.set_cons_succ]
              refine wpAnyH_done (by kernel_rfl) ?_ _
              (try refine NoPanic.normal ?_)
              go_wp2
              go_meet
              exact ⟨_, rfl, by (repeat (first | with_reducible assumption | with_reducible apply On.alloc | with_reducible apply On.drew | ((with_reducible apply On.after); rotate_left; (with_reducible assumption)) | ((with_reducible apply On.setCell); rotate_left; (first | (dsimp only; omega) | omega | (simp; omega)); (first | (dsimp only; omega) | omega | (simp; omega)); (first | (dsimp only; omega) | omega | (simp; omega))))), by simp (maxDischargeDepth := 8) [Bk, go_sem, *]⟩
            exact AllReadyH.nil
          exact AllReadyH.nil
        exact AllReadyH.nil
      exact AllReadyH.nil
    refine AllReadyH.cons rfl (fun K hK => ?_) ?_
    · have hOld := hHeld; clear hHeld
      have B0 := hOld.1
      have B1 := hOld.2
      go_simp
      refine hK.out _ _ (by refine ⟨?_, ?_⟩ <;> (repeat (first | with_reducible (first | assumption | apply Bk.drew | apply Bk.alloc) | ((with_reducible apply Bk.later); rotate_left; (with_reducible assumption)) | ((with_reducible apply Bk.put); rotate_left; (first | (dsimp only; omega)))))) (fun hHeld => ?_)
      clear hK K hOld B0 B1
      try simp only [Act.put, List.setIfInBounds_toArray, List.set_cons_zero, List.set_cons_succ]
      refine wpAnyH_ready (rs := [6]) (by kernel_rfl) (by simp) ?_
      refine AllReadyH.cons rfl (fun K hK => ?_) ?_
      · have hOld := hHeld; clear hHeld
        have B0 := hOld.1
        have B1 := hOld.2
        go_simp
        (go_at_call 11; (with_reducible refine (On.call (by (repeat (first | with_reducible assumption | with_reducible apply On.alloc | with_reducible apply On.drew | ((with_reducible apply On.after); rotate_left; (with_reducible assumption)) | ((with_reducible apply On.setCell); rotate_left; (first | (dsimp only; omega) | omega | (simp; omega)); (first | (dsimp only; omega) | omega | (simp; omega)); (first | (dsimp only; omega) | omega | (simp; omega)))))) (k4 _ _)).mono ?_); rintro e wz7 ⟨rfl, hR, HT⟩)
        have hRwz7 := hR
        have hzR := hR.size
        (try simp at hzR)
        have GR0 : Bk (W5.heap.size) 0 [.int .i64 0, .int .i64 0, .int .i64 0] wz7 := Bk.mv hR (by omega) (by first | (simp [Bk, go_sem]; done) | (repeat (first | with_reducible (first | assumption | apply Bk.drew | apply Bk.alloc | apply Bk.later (hB := hRwz7)) | ((with_reducible apply Bk.mv hRwz7); (focus omega)) | ((with_reducible apply Bk.later); rotate_left; (with_reducible assumption)) | ((with_reducible apply Bk.put); rotate_left; (first | (dsimp only; omega))))))
        have GS0 := GR0; simp only [Bk] at GS0
        have nl0 : W5.heap.size < wz7.heap.size := by omega
        (try go_wp2_with (fail))
        refine hK.out _ _ (by refine ⟨?_, ?_⟩ <;> (repeat (first | with_reducible (first | assumption | apply Bk.drew | apply Bk.alloc | apply Bk.later (hB := hRwz7)) | ((with_reducible apply Bk.mv hRwz7); (focus omega)) | ((with_reducible apply Bk.later); rotate_left; (with_reducible assumption)) | ((with_reducible apply Bk.put); rotate_left; (first | (dsimp only; omega)))))) (fun hHeld => ?_)
        clear hK K hOld B0 B1
        try simp only [Act.put, List.setIfInBounds_toArray, List.set_cons_zero, List.set_cons_succ]
        refine wpAnyH_ready (rs := [7]) (by kernel_rfl) (by simp) ?_
        refine AllReadyH.cons rfl (fun K hK => ?_) ?_
        · have hOld := hHeld; clear hHeld
          have B0 := hOld.1
          have B1 := hOld.2
          go_simp
          (go_at_call 13; (with_reducible refine (On.call (by (repeat (first | with_reducible assumption | with_reducible apply On.alloc | with_reducible apply On.drew | ((with_reducible apply On.after); rotate_left; (with_reducible assumption)) | ((with_reducible apply On.setCell); rotate_left; (first | (dsimp only; omega) | omega | (simp; omega)); (first | (dsimp only; omega) | omega | (simp; omega)); (first | (dsimp only; omega) | omega | (simp; omega)))))) (k5 _ _)).mono ?_); rintro e wz8 ⟨rfl, hR, HT⟩)
          have hRwz8 := hR
          have hzR := hR.size
          (try simp at hzR)
          have GR0 : Bk (W5.heap.size) 0 [.int .i64 0, .int .i64 0, .int .i64 0] wz8 := Bk.mv hR (by omega) (by first | (simp [Bk, go_sem]; done) | (repeat (first | with_reducible (first | assumption | apply Bk.drew | apply Bk.alloc | apply Bk.later (hB := hRwz8) | apply Bk.later (hB := hRwz7)) | ((with_reducible apply Bk.mv hRwz8); (focus omega)) | ((with_reducible apply Bk.mv hRwz7); (focus omega)) | ((with_reducible apply Bk.later); rotate_left; (with_reducible assumption)) | ((with_reducible apply Bk.put); rotate_left; (first | (dsimp only; omega))))))
          have GS0 := GR0; simp only [Bk] at GS0
          have nl0 : W5.heap.size < wz8.heap.size := by omega
          (try go_wp2_with (fail))
          refine hK.out _ _ (by refine ⟨?_, ?_⟩ <;> (repeat (first | with_reducible (first | assumption | apply Bk.drew | apply Bk.alloc | apply Bk.later (hB := hRwz8) | apply Bk.later (hB := hRwz7)) | ((with_reducible apply Bk.mv hRwz8); (focus omega)) | ((with_reducible apply Bk.mv hRwz7); (focus omega)) | ((with_reducible apply Bk.later); rotate_left; (with_reducible assumption)) | ((with_reducible apply Bk.put); rotate_left; (first | (dsimp only; omega)))))) (fun hHeld => ?_)
          clear hK K hOld B0 B1
          try simp only [Act.put, List.setIfInBounds_toArray, List.set_cons_zero, List.set_cons_succ]
          refine wpAnyH_ready (rs := [9]) (by kernel_rfl) (by simp) ?_
          refine AllReadyH.cons rfl (fun K hK => ?_) ?_
          · have hOld := hHeld; clear hHeld
            have B0 := hOld.1
            have B1 := hOld.2
            go_simp
            (go_at_call 29; (with_reducible refine (On.call (by (repeat (first | with_reducible assumption | with_reducible apply On.alloc | with_reducible apply On.drew | ((with_reducible apply On.after); rotate_left; (with_reducible assumption)) | ((with_reducible apply On.setCell); rotate_left; (first | (dsimp only; omega) | omega | (simp; omega)); (first | (dsimp only; omega) | omega | (simp; omega)); (first | (dsimp only; omega) | omega | (simp; omega)))))) (k6 _ _)).mono ?_); rintro e wz9 ⟨rfl, hR, HT⟩)
            have hRwz9 := hR
            have hzR := hR.size
            (try simp at hzR)
            have GR0 : Bk (W5.heap.size) 0 [.int .i64 0, .int .i64 0, .int .i64 0] wz9 := Bk.mv hR (by omega) (by first | (simp [Bk, go_sem]; done) | (repeat (first | with_reducible (first | assumption | apply Bk.drew | apply Bk.alloc | apply Bk.later (hB := hRwz9) | apply Bk.later (hB := hRwz8) | apply Bk.later (hB := hRwz7)) | ((with_reducible apply Bk.mv hRwz9); (focus omega)) | ((with_reducible apply Bk.mv hRwz8); (focus omega)) | ((with_reducible apply Bk.mv hRwz7); (focus omega)) | ((with_reducible apply Bk.later); rotate_left; (with_reducible assumption)) | ((with_reducible apply Bk.put); rotate_left; (first | (dsimp only; omega))))))
            have GS0 := GR0; simp only [Bk] at GS0
            have nl0 : W5.heap.size < wz9.heap.size := by omega
            (try go_wp2_with (fail))
            refine hK.out _ _ (by refine ⟨?_, ?_⟩ <;> (repeat (first | with_reducible (first | assumption | apply Bk.drew | apply Bk.alloc | apply Bk.later (hB := hRwz9) | apply Bk.later (hB := hRwz8) | apply Bk.later (hB := hRwz7)) | ((with_reducible apply Bk.mv hRwz9); (focus omega)) | ((with_reducible apply Bk.mv hRwz8); (focus omega)) | ((with_reducible apply Bk.mv hRwz7); (focus omega)) | ((with_reducible apply Bk.later); rotate_left; (with_reducible assumption)) | ((with_reducible apply Bk.put); rotate_left; (first | (dsimp only; omega)))))) (fun hHeld => ?_)
            clear hK K hOld B0 B1
            try simp only [Act.put, List.setIfInBounds_toArray, List.set_cons_zero, List.set_cons_succ]
            refine wpAnyH_ready (rs := [11]) (by kernel_rfl) (by simp) ?_
            refine AllReadyH.cons rfl (fun K hK => ?_) ?_
            · have hOld := hHeld; clear hHeld
              have B0 := hOld.1
              have B1 := hOld.2
              have G0 : Bk (W5.heap.size) 0 [.int .i64 0, .int .i64 0, .int .i64 0] (wz9) := by first | (simp [Bk, go_sem]; done) | (repeat (first | with_reducible (first | assumption | apply Bk.drew | apply Bk.alloc | apply Bk.later (hB := hRwz9) | apply Bk.later (hB := hRwz8) | apply Bk.later (hB := hRwz7)) | ((with_reducible apply Bk.mv hRwz9); (focus omega)) | ((with_reducible apply Bk.mv hRwz8); (focus omega)) | ((with_reducible apply Bk.mv hRwz7); (focus omega)) | ((with_reducible apply Bk.later); rotate_left; (with_reducible assumption)) | ((with_reducible apply Bk.put); rotate_left; (first | (dsimp only; omega)))))
              simp only [Bk] at G0
              go_simp
              refine hK.out _ _ (by refine ⟨?_, ?_⟩ <;> (repeat (first | with_reducible (first | assumption | apply Bk.drew | apply Bk.alloc | apply Bk.later (hB := hRwz9) | apply Bk.later (hB := hRwz8) | apply Bk.later (hB := hRwz7)) | ((with_reducible apply Bk.mv hRwz9); (focus omega)) | ((with_reducible apply Bk.mv hRwz8); (focus omega)) | ((with_reducible apply Bk.mv hRwz7); (focus omega)) | ((with_reducible apply Bk.later); rotate_left; (with_reducible assumption)) | ((with_reducible apply Bk.put); rotate_left; (first | (dsimp only; omega)))))) (fun hHeld => ?_)
              clear hK K hOld B0 B1
              try simp only [Act.put, List.setIfInBounds_toArray, List.set_cons_zero, List.set_cons_succ]
              refine wpAnyH_done (by kernel_rfl) ?_ _
              (try refine NoPanic.normal ?_)
              go_wp2
              go_meet
              exact ⟨_, rfl, by (repeat (first | with_reducible assumption | with_reducible apply On.alloc | with_reducible apply On.drew | ((with_reducible apply On.after); rotate_left; (with_reducible assumption)) | ((with_reducible apply On.setCell); rotate_left; (first | (dsimp only; omega) | omega | (simp; omega)); (first | (dsimp only; omega) | omega | (simp; omega)); (first | (dsimp only; omega) | omega | (simp; omega))))), by simp (maxDischargeDepth := 8) [Bk, go_sem, *]⟩
            exact AllReadyH.nil
          exact AllReadyH.nil
        exact AllReadyH.nil
      exact AllReadyH.nil
    exact AllReadyH.nil
  case rest =>
    obtain ⟨k, rfl, HT, K⟩ := hcut
    rename World => wt
    have HB := HT.below
    have Q1 : Bk g.heap.size 0 [.bool false] wt := ⟨HT.cb, HT.fb, trivial⟩
    have C_K := K; simp only [Bk] at C_K
    have C_Q1 := Q1; simp only [Bk] at C_Q1
    clear k4 k5 k6 V R
    go_upto_region 7 with (fail)
    (try refine wp_region_noPanic ?_)
    refine wp_region_held_drew (S := (fun (w' : World) => w'.cell? ⟨k, 0, none⟩ = some (.int .i64 j0) ∧ w'.cell? ⟨k, 1, none⟩ = some (.int .i64 j1) ∧ w'.cell? ⟨k, 2, none⟩ = some (.int .i64 j2) ∧ w'.cell? ⟨g.heap.size, 0, none⟩ = some (.bool false))) (by kernel_rfl) ⟨(by first | (simp (maxDischargeDepth := 6) [go_sem, *]; done)), (by first | (simp (maxDischargeDepth := 6) [go_sem, *]; done)), (by first | (simp (maxDischargeDepth := 6) [go_sem, *]; done)), (by first | (simp (maxDischargeDepth := 6) [go_sem, *]; done))⟩ (fun hHeld => ?_)
    refine wpAnyH_take (i := 0) (v := ?_) (by simp only [List.getElem?_toArray, List.getElem?_cons_succ, List.getElem?_cons_zero]; rfl) (by kernel_rfl) (by kernel_rfl) (by kernel_rfl) (fun _ _ _ h => h) (Or.inl ⟨by rfl, ?_⟩) (by assumption) ?_
    rotate_left
    · intro w hSw; (try dsimp only at hSw); go_simp; try with_reducible rfl
    try simp only [Act.put, List.setIfInBounds_toArray, List.set_cons_zero, List.set_cons_succ]
    refine wpAnyH_take (i := 1) (v := ?_) (by simp only [List.getElem?_toArray, List.getElem?_cons_succ, List.getElem?_cons_zero]; rfl) (by kernel_rfl) (by kernel_rfl) (by kernel_rfl) (fun _ _ _ h => h) (Or.inl ⟨by rfl, ?_⟩) (by assumption) ?_
    rotate_left
    · intro w hSw; (try dsimp only at hSw); go_simp; try with_reducible rfl
    try simp only [Act.put, List.setIfInBounds_toArray, List.set_cons_zero, List.set_cons_succ]
    refine wpAnyH_take (i := 2) (v := ?_) (by simp only [List.getElem?_toArray, List.getElem?_cons_succ, List.getElem?_cons_zero]; rfl) (by kernel_rfl) (by kernel_rfl) (by kernel_rfl) (fun _ _ _ h => h) (Or.inl ⟨by rfl, ?_⟩) (by assumption) ?_
    rotate_left
    · intro w hSw; (try dsimp only at hSw); go_simp; try with_reducible rfl
    try simp only [Act.put, List.setIfInBounds_toArray, List.set_cons_zero, List.set_cons_succ]
    refine wpAnyH_take (i := 3) (v := ?_) (by simp only [List.getElem?_toArray, List.getElem?_cons_succ, List.getElem?_cons_zero]; rfl) (by kernel_rfl) (by kernel_rfl) (by kernel_rfl) (fun _ _ _ h => h) (Or.inl ⟨by rfl, ?_⟩) (by assumption) ?_
    rotate_left
    · intro w hSw; (try dsimp only at hSw); go_simp; try with_reducible rfl
    try simp only [Act.put, List.setIfInBounds_toArray, List.set_cons_zero, List.set_cons_succ]
    refine wpAnyH_take (i := 4) (v := ?_) (by simp only [List.getElem?_toArray, List.getElem?_cons_succ, List.getElem?_cons_zero]; rfl) (by kernel_rfl) (by kernel_rfl) (by kernel_rfl) (fun _ _ _ h => h) (Or.inl ⟨by rfl, ?_⟩) (by assumption) ?_
    rotate_left
    · intro w hSw; (try dsimp only at hSw); go_simp; try with_reducible rfl
    try simp only [Act.put, List.setIfInBounds_toArray, List.set_cons_zero, List.set_cons_succ]
    refine wpAnyH_take (i := 5) (v := ?_) (by simp only [List.getElem?_toArray, List.getElem?_cons_succ, List.getElem?_cons_zero]; rfl) (by kernel_rfl) (by kernel_rfl) (by kernel_rfl) (fun _ _ _ h => h) (Or.inl ⟨by rfl, ?_⟩) (by assumption) ?_
    rotate_left
    · intro w hSw; (try dsimp only at hSw); go_simp; try with_reducible rfl
    try simp only [Act.put, List.setIfInBounds_toArray, List.set_cons_zero, List.set_cons_succ]
    refine wpAnyH_take (i := 6) (v := ?_) (by simp only [List.getElem?_toArray, List.getElem?_cons_succ, List.getElem?_cons_zero]; rfl) (by kernel_rfl) (by kernel_rfl) (by kernel_rfl) (fun _ _ _ h => h) (Or.inl ⟨by rfl, ?_⟩) (by assumption) ?_
    rotate_left
    · intro w hSw; (try dsimp only at hSw); go_simp; try with_reducible rfl
    try simp only [Act.put, List.setIfInBounds_toArray, List.set_cons_zero, List.set_cons_succ]
    refine wpAnyH_take (i := 8) (v := ?_) (by simp only [List.getElem?_toArray, List.getElem?_cons_succ, List.getElem?_cons_zero]; rfl) (by kernel_rfl) (by kernel_rfl) (by kernel_rfl) (fun _ _ _ h => h) (Or.inl ⟨by rfl, ?_⟩) (by assumption) ?_
    rotate_left
    · intro w hSw; (try dsimp only at hSw); go_simp; try with_reducible rfl
    try simp only [Act.put, List.setIfInBounds_toArray, List.set_cons_zero, List.set_cons_succ]
    refine wpAnyH_ready (rs := [7]) (by kernel_rfl) (by simp) ?_
    refine AllReadyH.cons rfl (fun K hK => ?_) AllReadyH.nil
    have hOld := hHeld; clear hHeld
    go_simp
    (go_at_call 21; (with_reducible refine (k7 _).mono ?_); rintro e w1 ⟨rfl, hM⟩)
    (try go_wp2_with (fail))
    refine hK.out _ _ ⟨(by first | exact mv_cell hM (by first | (dsimp only; omega) | (simp; omega)) hOld.1 | exact cell_later hM hOld.1 | exact HT.cb | exact HT.cc | (simp (maxDischargeDepth := 6) [go_sem, *]; done)), (by first | exact mv_cell hM (by first | (dsimp only; omega) | (simp; omega)) hOld.2.1 | exact cell_later hM hOld.2.1 | exact HT.cb | exact HT.cc | (simp (maxDischargeDepth := 6) [go_sem, *]; done)), (by first | exact mv_cell hM (by first | (dsimp only; omega) | (simp; omega)) hOld.2.2.1 | exact cell_later hM hOld.2.2.1 | exact HT.cb | exact HT.cc | (simp (maxDischargeDepth := 6) [go_sem, *]; done)), (by first | exact mv_cell hM (by first | (dsimp only; omega) | (simp; omega)) hOld.2.2.2 | exact cell_later hM hOld.2.2.2 | exact HT.cb | exact HT.cc | (simp (maxDischargeDepth := 6) [go_sem, *]; done))⟩ (fun hHeld => ?_)
    clear hK K hOld
    try simp only [Act.put, List.setIfInBounds_toArray, List.set_cons_zero, List.set_cons_succ]
    have HB := below_step (W := _) (by (repeat (first | with_reducible assumption | with_reducible exact Below.refl _ _ | ((with_reducible refine Below.setCell ?_ ?_ _); rotate_left; (first | exact Nat.le_refl _ | (dsimp only; omega) | (simp; done) | (simp; omega))) | with_reducible refine below_alloc ?_ _ | with_reducible apply below_drewN | with_reducible apply Below.drew | with_reducible refine below_step ?_ (by assumption)))) hM
    refine wpAnyH_take (i := 9) (v := ?_) (by simp only [List.getElem?_toArray, List.getElem?_cons_succ, List.getElem?_cons_zero]; rfl) (by kernel_rfl) (by kernel_rfl) (by kernel_rfl) (fun _ _ _ h => h) (Or.inl ⟨by rfl, ?_⟩) (by assumption) ?_
    rotate_left
    · intro w hSw; (try dsimp only at hSw); go_simp; try with_reducible rfl
    try simp only [Act.put, List.setIfInBounds_toArray, List.set_cons_zero, List.set_cons_succ]
    refine wpAnyH_take (i := 10) (v := ?_) (by simp only [List.getElem?_toArray, List.getElem?_cons_succ, List.getElem?_cons_zero]; rfl) (by kernel_rfl) (by kernel_rfl) (by kernel_rfl) (fun _ _ _ h => h) (Or.inl ⟨by rfl, ?_⟩) (by assumption) ?_
    rotate_left
    · intro w hSw; (try dsimp only at hSw); go_simp; try with_reducible rfl
    try simp only [Act.put, List.setIfInBounds_toArray, List.set_cons_zero, List.set_cons_succ]
    refine wpAnyH_take (i := 11) (v := ?_) (by simp only [List.getElem?_toArray, List.getElem?_cons_succ, List.getElem?_cons_zero]; rfl) (by kernel_rfl) (by kernel_rfl) (by kernel_rfl) (fun _ _ _ h => h) (Or.inl ⟨by rfl, ?_⟩) (by assumption) ?_
    rotate_left
    · intro w hSw; (try dsimp only at hSw); go_simp; try with_reducible rfl
    try simp only [Act.put, List.setIfInBounds_toArray, List.set_cons_zero, List.set_cons_succ]
    refine wpAnyH_ready (rs := [12]) (by kernel_rfl) (by simp) ?_
    refine AllReadyH.cons rfl (fun K hK => ?_) AllReadyH.nil
    have hOld := hHeld; clear hHeld
    go_simp
    (go_at_call 15; (with_reducible refine (cAwake6 _).mono ?_); rintro e w1 ⟨rfl, hM⟩)
    (try go_wp2_with (fail))
    refine hK.out _ _ ⟨(by first | exact mv_cell hM (by first | (dsimp only; omega) | (simp; omega)) hOld.1 | exact cell_later hM hOld.1 | exact HT.cb | exact HT.cc | (simp (maxDischargeDepth := 6) [go_sem, *]; done)), (by first | exact mv_cell hM (by first | (dsimp only; omega) | (simp; omega)) hOld.2.1 | exact cell_later hM hOld.2.1 | exact HT.cb | exact HT.cc | (simp (maxDischargeDepth := 6) [go_sem, *]; done)), (by first | exact mv_cell hM (by first | (dsimp only; omega) | (simp; omega)) hOld.2.2.1 | exact cell_later hM hOld.2.2.1 | exact HT.cb | exact HT.cc | (simp (maxDischargeDepth := 6) [go_sem, *]; done)), (by first | exact mv_cell hM (by first | (dsimp only; omega) | (simp; omega)) hOld.2.2.2 | exact cell_later hM hOld.2.2.2 | exact HT.cb | exact HT.cc | (simp (maxDischargeDepth := 6) [go_sem, *]; done))⟩ (fun hHeld => ?_)
    clear hK K hOld
    try simp only [Act.put, List.setIfInBounds_toArray, List.set_cons_zero, List.set_cons_succ]
    have HB := below_step HB hM
    refine wpAnyH_take (i := 13) (v := ?_) (by simp only [List.getElem?_toArray, List.getElem?_cons_succ, List.getElem?_cons_zero]; rfl) (by kernel_rfl) (by kernel_rfl) (by kernel_rfl) (fun _ _ _ h => h) (Or.inl ⟨by rfl, ?_⟩) (by assumption) ?_
    rotate_left
    · intro w hSw; (try dsimp only at hSw); go_simp; try with_reducible rfl
    try simp only [Act.put, List.setIfInBounds_toArray, List.set_cons_zero, List.set_cons_succ]
    refine wpAnyH_take (i := 14) (v := ?_) (by simp only [List.getElem?_toArray, List.getElem?_cons_succ, List.getElem?_cons_zero]; rfl) (by kernel_rfl) (by kernel_rfl) (by kernel_rfl) (fun _ _ _ h => h) (Or.inl ⟨by rfl, ?_⟩) (by assumption) ?_
    rotate_left
    · intro w hSw; (try dsimp only at hSw); go_simp; try with_reducible rfl
    try simp only [Act.put, List.setIfInBounds_toArray, List.set_cons_zero, List.set_cons_succ]
    refine wpAnyH_done (by kernel_rfl) ?_ _
    (try refine NoPanic.normal ?_)
    (try clear q0); (try clear q1); (try clear q2); (try clear q3); obtain ⟨q0, q1, q2, q3⟩ := hHeld
    go_wp2
    go_ret
    exact ⟨rfl, by first | exact HB | (repeat (first | with_reducible assumption | with_reducible exact Below.refl _ _ | ((with_reducible refine Below.setCell ?_ ?_ _); rotate_left; (first | exact Nat.le_refl _ | (dsimp only; omega) | (simp; done) | (simp; omega))) | with_reducible refine below_alloc ?_ _ | with_reducible apply below_drewN | with_reducible apply Below.drew | with_reducible refine below_step ?_ (by assumption)))⟩
end
end Go.Proofs.Ytjpkkpflamkjkaa
