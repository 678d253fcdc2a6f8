/- The walk of QuatKeeps: for every attitude and every vector the law returns true: turning by a unit attitude keeps the length, but for 2^-14 (what lies outside the bounds of the law meets the example alone). (Y0, Y1, Y2, Y3, Y4, Y5, Y6, L6g in one text.) -/
import Derived.Test.YtjpkkpflamkjkaaA0
import Derived.Test.YtjpkkpflamkjkaaX1
import Derived.Test.YtjpkkpflamkjkaaV2
import Derived.Test.YtjpkkpflamkjkaaX5
import Derived.Test.YtjpkkpflamkjkaaV6
import Derived.Test.YtjpkkpflamkjkaaX7
set_option linter.unusedSimpArgs false
set_option linter.unusedVariables false
namespace Go.Proofs.Ytjpkkpflamkjkaa
open Go.RowKit
section
theorem turn_sq (D w x y z a b c : Int) :
    ((D - 2 * (y * y + z * z)) * a + 2 * (x * y - w * z) * b + 2 * (x * z + w * y) * c) * ((D - 2 * (y * y + z * z)) * a + 2 * (x * y - w * z) * b + 2 * (x * z + w * y) * c)
    + (2 * (x * y + w * z) * a + (D - 2 * (x * x + z * z)) * b + 2 * (y * z - w * x) * c) * (2 * (x * y + w * z) * a + (D - 2 * (x * x + z * z)) * b + 2 * (y * z - w * x) * c)
    + (2 * (x * z - w * y) * a + 2 * (y * z + w * x) * b + (D - 2 * (x * x + y * y)) * c) * (2 * (x * z - w * y) * a + 2 * (y * z + w * x) * b + (D - 2 * (x * x + y * y)) * c)
    = D * D * (a * a + b * b + c * c) + 4 * (w * w + x * x + y * y + z * z - D) * ((y * c - z * b) * (y * c - z * b) + (z * a - x * c) * (z * a - x * c) + (x * b - y * a) * (x * b - y * a)) := by
  grind
theorem turn_back0 (D w x y z a b c : Int) :
    (D - 2 * (y * y + z * z)) * ((D - 2 * (y * y + z * z)) * a + 2 * (x * y - w * z) * b + 2 * (x * z + w * y) * c)
    + 2 * (x * y + w * z) * (2 * (x * y + w * z) * a + (D - 2 * (x * x + z * z)) * b + 2 * (y * z - w * x) * c)
    + 2 * (x * z - w * y) * (2 * (x * z - w * y) * a + 2 * (y * z + w * x) * b + (D - 2 * (x * x + y * y)) * c)
    = D * D * a - 4 * (w * w + x * x + y * y + z * z - D) * (x * (x * a + y * b + z * c) - (x * x + y * y + z * z) * a) := by
  grind
theorem turn_back1 (D w x y z a b c : Int) :
    2 * (x * y - w * z) * ((D - 2 * (y * y + z * z)) * a + 2 * (x * y - w * z) * b + 2 * (x * z + w * y) * c)
    + (D - 2 * (x * x + z * z)) * (2 * (x * y + w * z) * a + (D - 2 * (x * x + z * z)) * b + 2 * (y * z - w * x) * c)
    + 2 * (y * z + w * x) * (2 * (x * z - w * y) * a + 2 * (y * z + w * x) * b + (D - 2 * (x * x + y * y)) * c)
    = D * D * b - 4 * (w * w + x * x + y * y + z * z - D) * (y * (x * a + y * b + z * c) - (x * x + y * y + z * z) * b) := by
  grind
theorem turn_back2 (D w x y z a b c : Int) :
    2 * (x * z + w * y) * ((D - 2 * (y * y + z * z)) * a + 2 * (x * y - w * z) * b + 2 * (x * z + w * y) * c)
    + 2 * (y * z - w * x) * (2 * (x * y + w * z) * a + (D - 2 * (x * x + z * z)) * b + 2 * (y * z - w * x) * c)
    + (D - 2 * (x * x + y * y)) * (2 * (x * z - w * y) * a + 2 * (y * z + w * x) * b + (D - 2 * (x * x + y * y)) * c)
    = D * D * c - 4 * (w * w + x * x + y * y + z * z - D) * (z * (x * a + y * b + z * c) - (x * x + y * y + z * z) * c) := by
  grind
end
section
theorem mul_bd2 (a b A B : Int) (a0 : -A ≤ a) (a1 : a ≤ A) (b0 : -B ≤ b) (b1 : b ≤ B) : -(A * B) ≤ a * b ∧ a * b ≤ A * B := by
  have hA : 0 ≤ A := by omega
  have hB : 0 ≤ B := by omega
  have e1 : 0 ≤ (A - a) * (B + b) := Int.mul_nonneg (by omega) (by omega)
  have e2 : 0 ≤ (A + a) * (B - b) := Int.mul_nonneg (by omega) (by omega)
  have e3 : 0 ≤ (A - a) * (B - b) := Int.mul_nonneg (by omega) (by omega)
  have e4 : 0 ≤ (A + a) * (B + b) := Int.mul_nonneg (by omega) (by omega)
  have f1 : (A - a) * (B + b) = A * B + A * b - a * B - a * b := by grind
  have f2 : (A + a) * (B - b) = A * B - A * b + a * B - a * b := by grind
  have f3 : (A - a) * (B - b) = A * B - A * b - a * B + a * b := by grind
  have f4 : (A + a) * (B + b) = A * B + A * b + a * B + a * b := by grind
  omega
theorem sq_nn6 (a : Int) : 0 ≤ a * a := by
  rcases Int.le_total 0 a with h | h
  · exact Int.mul_nonneg h h
  · have := Int.mul_nonneg (a := -a) (b := -a) (by omega) (by omega); rwa [Int.neg_mul_neg] at this
theorem abs_of_sq (a n : Int) (hn : 0 ≤ n) (h : a * a < (n + 1) * (n + 1)) : -n ≤ a ∧ a ≤ n := by
  constructor
  · rcases Int.lt_or_le a (-n) with h1 | h1
    · have := Int.mul_le_mul (a := n + 1) (b := n + 1) (c := -a) (d := -a) (by omega) (by omega) (by omega) (by omega)
      rw [Int.neg_mul_neg] at this; omega
    · exact h1
  · rcases Int.lt_or_le n a with h1 | h1
    · have := Int.mul_le_mul (a := n + 1) (b := n + 1) (c := a) (d := a) (by omega) (by omega) (by omega) (by omega)
      omega
    · exact h1
/-- How long an attitude is, whose parts are from 1 to 2^8 long together. -/
theorem un_n (L W A S n : Int) (hL : 0 ≤ L) (hW : 0 ≤ W) (h1 : L * L ≤ A) (h2 : A < (L + 1) * (L + 1)) (hS : S = A + W * W) (hn : 0 ≤ n) (h3 : n * n ≤ S) (h4 : S < (n + 1) * (n + 1))
    (h5 : 4294967296 ≤ L + W) (h6 : L + W ≤ 1099511627776) : 3037000499 ≤ n ∧ n ≤ 1099511627776 := by
  constructor
  · rcases Int.lt_or_le n 3037000499 with h | h
    · exfalso
      have e1 : (n + 1) * (n + 1) ≤ 3037000499 * 3037000499 := Int.mul_le_mul (by omega) (by omega) (by omega) (by omega)
      have e2 := sq_nn6 (L - W)
      have e3 : 4294967296 * 4294967296 ≤ (L + W) * (L + W) := Int.mul_le_mul h5 h5 (by omega) (by omega)
      have e4 : (L + W) * (L + W) + (L - W) * (L - W) = 2 * (L * L) + 2 * (W * W) := by grind
      omega
    · exact h
  · rcases Int.lt_or_le 1099511627776 n with h | h
    · exfalso
      have e1 : (L + W + 1) * (L + W + 1) ≤ n * n := Int.mul_le_mul (by omega) (by omega) (by omega) (by omega)
      have e2 : (L + W + 1) * (L + W + 1) = (L + 1) * (L + 1) + 2 * ((L + 1) * W) + W * W := by grind
      have e3 : 0 ≤ (L + 1) * W := Int.mul_nonneg (by omega) hW
      omega
    · exact h
/-- The square of an attitude made one is 1, but for 2^-29. -/
theorem un_s (q0 q1 q2 q3 u0 u1 u2 u3 n : Int) (hn : 3037000499 ≤ n) (h3 : n * n ≤ q0 * q0 + q1 * q1 + q2 * q2 + q3 * q3) (h4 : q0 * q0 + q1 * q1 + q2 * q2 + q3 * q3 < (n + 1) * (n + 1))
    (f0 : -n ≤ 2 * (u0 * n - q0 * 4294967296) ∧ 2 * (u0 * n - q0 * 4294967296) ≤ n) (f1 : -n ≤ 2 * (u1 * n - q1 * 4294967296) ∧ 2 * (u1 * n - q1 * 4294967296) ≤ n)
    (f2 : -n ≤ 2 * (u2 * n - q2 * 4294967296) ∧ 2 * (u2 * n - q2 * 4294967296) ≤ n) (f3 : -n ≤ 2 * (u3 * n - q3 * 4294967296) ∧ 2 * (u3 * n - q3 * 4294967296) ≤ n) :
    -34359738368 ≤ u0 * u0 + u1 * u1 + u2 * u2 + u3 * u3 - 18446744073709551616 ∧ u0 * u0 + u1 * u1 + u2 * u2 + u3 * u3 - 18446744073709551616 ≤ 34359738368 := by
  have s0 := sq_nn6 q0
  have s1 := sq_nn6 q1
  have s2 := sq_nn6 q2
  have s3 := sq_nn6 q3
  have a0 := abs_of_sq q0 n (by omega) (by omega)
  have a1 := abs_of_sq q1 n (by omega) (by omega)
  have a2 := abs_of_sq q2 n (by omega) (by omega)
  have a3 := abs_of_sq q3 n (by omega) (by omega)
  have key : ∀ q u : Int, (-n ≤ 2 * (u * n - q * 4294967296) ∧ 2 * (u * n - q * 4294967296) ≤ n) → (-n ≤ q ∧ q ≤ n) →
      ∃ x : Int, n * n * (u * u) = 18446744073709551616 * (q * q) + x ∧ -4294967296 * (n * n) ≤ x ∧ 4 * x ≤ 17179869184 * (n * n) + n * n := by
    intro q u ⟨g1, g2⟩ ⟨g3, g4⟩
    obtain ⟨e, he⟩ : ∃ e, u * n - q * 4294967296 = e := ⟨_, rfl⟩
    rw [he] at g1 g2
    have m1 := mul_bd2 q (2 * e) n n g3 g4 g1 g2
    have m2 := mul_bd2 (2 * e) (2 * e) n n g1 g2 g1 g2
    have m3 := sq_nn6 (2 * e)
    have r1 : q * (2 * e) = 2 * (q * e) := by grind
    have r2 : (2 * e) * (2 * e) = 4 * (e * e) := by grind
    refine ⟨8589934592 * (q * e) + e * e, ?_, ?_, ?_⟩
    · have : u * n = q * 4294967296 + e := by omega
      have h : n * n * (u * u) = (u * n) * (u * n) := by grind
      rw [h, this]; grind
    · omega
    · omega
  obtain ⟨x0, y0, z0, t0⟩ := key q0 u0 f0 a0
  obtain ⟨x1, y1, z1, t1⟩ := key q1 u1 f1 a1
  obtain ⟨x2, y2, z2, t2⟩ := key q2 u2 f2 a2
  obtain ⟨x3, y3, z3, t3⟩ := key q3 u3 f3 a3
  have hS : n * n * (u0 * u0 + u1 * u1 + u2 * u2 + u3 * u3 - 18446744073709551616) = 18446744073709551616 * (q0 * q0 + q1 * q1 + q2 * q2 + q3 * q3 - n * n) + (x0 + x1 + x2 + x3) := by
    have : n * n * (u0 * u0 + u1 * u1 + u2 * u2 + u3 * u3 - 18446744073709551616) = n * n * (u0 * u0) + n * n * (u1 * u1) + n * n * (u2 * u2) + n * n * (u3 * u3) - 18446744073709551616 * (n * n) := by grind
    omega
  have hp : (n + 1) * (n + 1) = n * n + 2 * n + 1 := by grind
  have hN : 3037000499 * n ≤ n * n := Int.mul_le_mul_of_nonneg_right hn (by omega)
  generalize u0 * u0 + u1 * u1 + u2 * u2 + u3 * u3 - 18446744073709551616 = E at *
  clear key y0 y1 y2 y3 f0 f1 f2 f3 a0 a1 a2 a3
  constructor
  · rcases Int.lt_or_le E (-34359738368) with h | h
    · exfalso
      have := Int.mul_le_mul_of_nonneg_left (c := n * n) (show E ≤ -34359738368 by omega) (by omega)
      omega
    · exact h
  · rcases Int.lt_or_le 34359738368 E with h | h
    · exfalso
      have := Int.mul_le_mul_of_nonneg_left (c := n * n) (show 34359738368 ≤ E by omega) (by omega)
      omega
    · exact h
end
section
theorem rsh_near6 (p : Int) : -2147483648 ≤ 4294967296 * rsh p - p ∧ 4294967296 * rsh p - p ≤ 2147483648 := by unfold rsh; split <;> omega
theorem sat_id6 (n : Int) (h0 : -9223372036854775808 ≤ n) (h1 : n ≤ 9223372036854775807) : sat n = n := by unfold sat; rw [if_neg (by omega), if_neg (by omega)]
theorem fx_id6 (n : Int) (h0 : -9223372036854775808 ≤ n) (h1 : n ≤ 9223372036854775807) : fx n = true := by unfold fx; exact decide_eq_true ⟨h0, h1⟩
/-- A product, as a reckoner keeps it. -/
theorem ml_e (a b : Int) (a0 : -8589934592 ≤ a) (a1 : a ≤ 8589934592) (b0 : -8589934592 ≤ b) (b1 : b ≤ 8589934592) :
    (∃ e, 4294967296 * ml a b = a * b + e ∧ -2147483648 ≤ e ∧ e ≤ 2147483648) ∧ mlok a b = true ∧ -17179869185 ≤ ml a b ∧ ml a b ≤ 17179869185 := by
  have m := mul_bd2 a b 8589934592 8589934592 a0 a1 b0 b1
  have r := rsh_near6 (a * b)
  unfold ml mlok
  generalize a * b = p at *
  generalize rsh p = q at *
  rw [sat_id6 q (by omega) (by omega), fx_id6 q (by omega) (by omega)]
  exact ⟨⟨4294967296 * q - p, by omega, by omega, by omega⟩, rfl, by omega, by omega⟩
theorem mp_e (a b c d : Int) (a0 : -8589934592 ≤ a) (a1 : a ≤ 8589934592) (b0 : -8589934592 ≤ b) (b1 : b ≤ 8589934592) (c0 : -8589934592 ≤ c) (c1 : c ≤ 8589934592) (d0 : -8589934592 ≤ d) (d1 : d ≤ 8589934592) :
    (∃ e, 4294967296 * mp a b c d = 2 * (a * b + c * d) + e ∧ -8589934592 ≤ e ∧ e ≤ 8589934592) ∧ mpk a b c d = true ∧ -68719476740 ≤ mp a b c d ∧ mp a b c d ≤ 68719476740 := by
  obtain ⟨⟨e, h1, h2, h3⟩, h4, h5, h6⟩ := ml_e a b a0 a1 b0 b1
  obtain ⟨⟨f, g1, g2, g3⟩, g4, g5, g6⟩ := ml_e c d c0 c1 d0 d1
  unfold mp mpk tw
  rw [h4, g4]
  generalize ml a b = p at *
  generalize ml c d = q at *
  rw [sat_id6 (p + q) (by omega) (by omega), fx_id6 (p + q) (by omega) (by omega), sat_id6 (p + q + (p + q)) (by omega) (by omega), fx_id6 (p + q + (p + q)) (by omega) (by omega)]
  exact ⟨⟨2 * e + 2 * f, by omega, by omega, by omega⟩, rfl, by omega, by omega⟩
theorem mn_e (a b c d : Int) (a0 : -8589934592 ≤ a) (a1 : a ≤ 8589934592) (b0 : -8589934592 ≤ b) (b1 : b ≤ 8589934592) (c0 : -8589934592 ≤ c) (c1 : c ≤ 8589934592) (d0 : -8589934592 ≤ d) (d1 : d ≤ 8589934592) :
    (∃ e, 4294967296 * mn a b c d = 2 * (a * b - c * d) + e ∧ -8589934592 ≤ e ∧ e ≤ 8589934592) ∧ mnk a b c d = true ∧ -68719476740 ≤ mn a b c d ∧ mn a b c d ≤ 68719476740 := by
  obtain ⟨⟨e, h1, h2, h3⟩, h4, h5, h6⟩ := ml_e a b a0 a1 b0 b1
  obtain ⟨⟨f, g1, g2, g3⟩, g4, g5, g6⟩ := ml_e c d c0 c1 d0 d1
  unfold mn mnk tw
  rw [h4, g4]
  generalize ml a b = p at *
  generalize ml c d = q at *
  rw [sat_id6 (p - q) (by omega) (by omega), fx_id6 (p - q) (by omega) (by omega), sat_id6 (p - q + (p - q)) (by omega) (by omega), fx_id6 (p - q + (p - q)) (by omega) (by omega)]
  exact ⟨⟨2 * e - 2 * f, by omega, by omega, by omega⟩, rfl, by omega, by omega⟩
theorem mo_e (a b : Int) (a0 : -8589934592 ≤ a) (a1 : a ≤ 8589934592) (b0 : -8589934592 ≤ b) (b1 : b ≤ 8589934592) :
    (∃ e, 4294967296 * mo a b = 18446744073709551616 - 2 * (a * a + b * b) + e ∧ -8589934592 ≤ e ∧ e ≤ 8589934592) ∧ mok a b = true ∧ -73014444036 ≤ mo a b ∧ mo a b ≤ 73014444036 := by
  obtain ⟨⟨e, h1, h2, h3⟩, h4, h5, h6⟩ := mp_e a a b b a0 a1 a0 a1 b0 b1 b0 b1
  unfold mo mok
  rw [h4]
  generalize mp a a b b = p at *
  rw [sat_id6 (4294967296 - p) (by omega) (by omega), fx_id6 (4294967296 - p) (by omega) (by omega)]
  exact ⟨⟨-e, by omega, by omega, by omega⟩, rfl, by omega, by omega⟩
/-- A row on a vector. -/
theorem dt_e (r0 r1 r2 v0 v1 v2 : Int) (a0 : -73014444036 ≤ r0 ∧ r0 ≤ 73014444036) (a1 : -73014444036 ≤ r1 ∧ r1 ≤ 73014444036) (a2 : -73014444036 ≤ r2 ∧ r2 ≤ 73014444036)
    (b0 : -70368744177664 ≤ v0 ∧ v0 ≤ 70368744177664) (b1 : -70368744177664 ≤ v1 ∧ v1 ≤ 70368744177664) (b2 : -70368744177664 ≤ v2 ∧ v2 ≤ 70368744177664) :
    (∃ e, 4294967296 * dt r0 r1 r2 v0 v1 v2 = r0 * v0 + r1 * v1 + r2 * v2 + e ∧ -6442450944 ≤ e ∧ e ≤ 6442450944) ∧ dtok r0 r1 r2 v0 v1 v2 = true := by
  have m0 := mul_bd2 r0 v0 73014444036 70368744177664 a0.1 a0.2 b0.1 b0.2
  have m1 := mul_bd2 r1 v1 73014444036 70368744177664 a1.1 a1.2 b1.1 b1.2
  have m2 := mul_bd2 r2 v2 73014444036 70368744177664 a2.1 a2.2 b2.1 b2.2
  have n0 := rsh_near6 (r0 * v0)
  have n1 := rsh_near6 (r1 * v1)
  have n2 := rsh_near6 (r2 * v2)
  unfold dt dtok
  generalize r0 * v0 = p0 at *
  generalize r1 * v1 = p1 at *
  generalize r2 * v2 = p2 at *
  generalize rsh p0 = q0 at *
  generalize rsh p1 = q1 at *
  generalize rsh p2 = q2 at *
  rw [fx_id6 q0 (by omega) (by omega), fx_id6 q1 (by omega) (by omega), fx_id6 q2 (by omega) (by omega), sat_id6 q0 (by omega) (by omega), sat_id6 q1 (by omega) (by omega), sat_id6 q2 (by omega) (by omega),
    fx_id6 (q0 + q1) (by omega) (by omega), sat_id6 (q0 + q1) (by omega) (by omega), fx_id6 (q0 + q1 + q2) (by omega) (by omega), sat_id6 (q0 + q1 + q2) (by omega) (by omega)]
  exact ⟨⟨4294967296 * (q0 + q1 + q2) - (p0 + p1 + p2), by omega, by omega, by omega⟩, rfl⟩
end
section
theorem row_e (R0 R1 R2 r0 r1 r2 v0 v1 v2 t e0 e1 e2 f N : Int) (h0 : 4294967296 * r0 = R0 + e0) (h1 : 4294967296 * r1 = R1 + e1) (h2 : 4294967296 * r2 = R2 + e2)
    (a0 : -8589934592 ≤ e0 ∧ e0 ≤ 8589934592) (a1 : -8589934592 ≤ e1 ∧ e1 ≤ 8589934592) (a2 : -8589934592 ≤ e2 ∧ e2 ≤ 8589934592)
    (b0 : -N ≤ v0 ∧ v0 ≤ N) (b1 : -N ≤ v1 ∧ v1 ≤ N) (b2 : -N ≤ v2 ∧ v2 ≤ N) (ht : 4294967296 * t = r0 * v0 + r1 * v1 + r2 * v2 + f) (hf : -6442450944 ≤ f ∧ f ≤ 6442450944) :
    ∃ d, 18446744073709551616 * t = R0 * v0 + R1 * v1 + R2 * v2 + d ∧ -(25769803776 * N + 27670116110564327424) ≤ d ∧ d ≤ 25769803776 * N + 27670116110564327424 := by
  have m0 := mul_bd2 e0 v0 8589934592 N a0.1 a0.2 b0.1 b0.2
  have m1 := mul_bd2 e1 v1 8589934592 N a1.1 a1.2 b1.1 b1.2
  have m2 := mul_bd2 e2 v2 8589934592 N a2.1 a2.2 b2.1 b2.2
  refine ⟨e0 * v0 + e1 * v1 + e2 * v2 + 4294967296 * f, ?_, by omega, by omega⟩
  have g : 18446744073709551616 * t = (4294967296 * r0) * v0 + (4294967296 * r1) * v1 + (4294967296 * r2) * v2 + 4294967296 * f := by grind
  rw [g, h0, h1, h2]; grind
theorem kp_q (V Q l T0 T1 T2 d0 d1 d2 t0 t1 t2 E C : Int) (hE0 : -34359738368 ≤ E) (hE1 : E ≤ 34359738368) (hC0 : 0 ≤ C) (hC : C ≤ (E + 18446744073709551616) * V) (hV0 : 0 ≤ V)
    (hT : T0 * T0 + T1 * T1 + T2 * T2 = 340282366920938463463374607431768211456 * V + 4 * E * C) (h0 : 18446744073709551616 * t0 = T0 + d0) (h1 : 18446744073709551616 * t1 = T1 + d1) (h2 : 18446744073709551616 * t2 = T2 + d2)
    (a0 : -113373689077018904231936 ≤ d0 ∧ d0 ≤ 113373689077018904231936) (a1 : -113373689077018904231936 ≤ d1 ∧ d1 ≤ 113373689077018904231936) (a2 : -113373689077018904231936 ≤ d2 ∧ d2 ≤ 113373689077018904231936) (hl : 0 ≤ l) (hV : V < (l + 1) * (l + 1)) (hQ : Q = t0 * t0 + t1 * t1 + t2 * t2) :
    (67108864 * (Q - V) ≤ V + 67108864 * (73752 * (l + 1) + 113319948) ∧ -(V + 67108864 * (73752 * (l + 1) + 113319948)) ≤ 67108864 * (Q - V)) ∧
      (-(36893488147419103232 * (l + 1)) ≤ T0 ∧ T0 ≤ 36893488147419103232 * (l + 1)) ∧ (-(36893488147419103232 * (l + 1)) ≤ T1 ∧ T1 ≤ 36893488147419103232 * (l + 1)) ∧ (-(36893488147419103232 * (l + 1)) ≤ T2 ∧ T2 ≤ 36893488147419103232 * (l + 1)) := by
  -- what the square of the attitude does
  have c1 : C ≤ 18446744108069289984 * V := Int.le_trans hC (Int.mul_le_mul_of_nonneg_right (by omega) hV0)
  have c2 := mul_bd2 E C 34359738368 C hE0 hE1 (by omega) (by omega)
  have c3 : 4 * E * C = 4 * (E * C) := by grind
  generalize 4 * E * C = X at *
  have s0 := sq_nn6 T0
  have s1 := sq_nn6 T1
  have s2 := sq_nn6 T2
  have hl2 : (36893488147419103232 * (l + 1) + 1) * (36893488147419103232 * (l + 1) + 1) = 1361129467683753853853498429727072845824 * ((l + 1) * (l + 1)) + 73786976294838206464 * (l + 1) + 1 := by grind
  have b0 := abs_of_sq T0 (36893488147419103232 * (l + 1)) (by omega) (by omega)
  have b1 := abs_of_sq T1 (36893488147419103232 * (l + 1)) (by omega) (by omega)
  have b2 := abs_of_sq T2 (36893488147419103232 * (l + 1)) (by omega) (by omega)
  refine ⟨?_, b0, b1, b2⟩
  have p0 := mul_bd2 T0 d0 (36893488147419103232 * (l + 1)) 113373689077018904231936 b0.1 b0.2 a0.1 a0.2
  have p1 := mul_bd2 T1 d1 (36893488147419103232 * (l + 1)) 113373689077018904231936 b1.1 b1.2 a1.1 a1.2
  have p2 := mul_bd2 T2 d2 (36893488147419103232 * (l + 1)) 113373689077018904231936 b2.1 b2.2 a2.1 a2.2
  have q0 := mul_bd2 d0 d0 113373689077018904231936 113373689077018904231936 a0.1 a0.2 a0.1 a0.2
  have q1 := mul_bd2 d1 d1 113373689077018904231936 113373689077018904231936 a1.1 a1.2 a1.1 a1.2
  have q2 := mul_bd2 d2 d2 113373689077018904231936 113373689077018904231936 a2.1 a2.2 a2.1 a2.2
  have n0 := sq_nn6 d0
  have n1 := sq_nn6 d1
  have n2 := sq_nn6 d2
  have e : 340282366920938463463374607431768211456 * Q = (T0 * T0 + T1 * T1 + T2 * T2) + 2 * (T0 * d0) + 2 * (T1 * d1) + 2 * (T2 * d2) + d0 * d0 + d1 * d1 + d2 * d2 := by
    have g0 : 340282366920938463463374607431768211456 * (t0 * t0) = (T0 + d0) * (T0 + d0) := by rw [← h0]; grind
    have g1 : 340282366920938463463374607431768211456 * (t1 * t1) = (T1 + d1) * (T1 + d1) := by rw [← h1]; grind
    have g2 : 340282366920938463463374607431768211456 * (t2 * t2) = (T2 + d2) * (T2 + d2) := by rw [← h2]; grind
    have g : 340282366920938463463374607431768211456 * Q = 340282366920938463463374607431768211456 * (t0 * t0) + 340282366920938463463374607431768211456 * (t1 * t1) + 340282366920938463463374607431768211456 * (t2 * t2) := by rw [hQ]; grind
    rw [g, g0, g1, g2]; grind
  rw [hT] at e
  generalize T0 * d0 = x0 at *
  generalize T1 * d1 = x1 at *
  generalize T2 * d2 = x2 at *
  generalize d0 * d0 = y0 at *
  generalize d1 * d1 = y1 at *
  generalize d2 * d2 = y2 at *
  generalize E * C = EC at *
  constructor <;> omega
theorem kp_fin (V Q l m : Int) (hl : 0 ≤ l) (hm : 0 ≤ m) (hV0 : l * l ≤ V) (hV : V < (l + 1) * (l + 1)) (hQ0 : m * m ≤ Q) (hQ : Q < (m + 1) * (m + 1)) (hN : V ≤ 58028439341502200385896448)
    (h1 : 67108864 * (Q - V) ≤ V + 67108864 * (73752 * (l + 1) + 113319948)) (h2 : -(V + 67108864 * (73752 * (l + 1) + 113319948)) ≤ 67108864 * (Q - V)) :
    -262144 < m - l ∧ m - l < 262144 := by
  have hl1 : l < 8796093022208 := by
    rcases Int.lt_or_le l 8796093022208 with h | h
    · exact h
    · have := Int.mul_le_mul (a := 8796093022208) (b := 8796093022208) (c := l) (d := l) h h (by omega) hl; omega
  have w1 : (l + 1) * (l + 1) ≤ 8796093022208 * (l + 1) := Int.mul_le_mul_of_nonneg_right (by omega) (by omega)
  constructor
  · rcases Int.lt_or_le (-262144) (m - l) with h | h
    · exact h
    · exfalso
      have u1 : (m + 1) * (m + 1) ≤ (l - 262143) * (l - 262143) := Int.mul_le_mul (by omega) (by omega) (by omega) (by omega)
      have u2 : (l - 262143) * (l - 262143) = l * l - 524286 * l + 68718952449 := by grind
      have u3 : (l + 1) * (l + 1) = l * l + 2 * l + 1 := by grind
      omega
  · rcases Int.lt_or_le (m - l) 262144 with h | h
    · exact h
    · exfalso
      have u1 : (l + 262144) * (l + 262144) ≤ m * m := Int.mul_le_mul (by omega) (by omega) (by omega) (by omega)
      have u2 : (l + 262144) * (l + 262144) = l * l + 524288 * l + 68719476736 := by grind
      have u3 : (l + 1) * (l + 1) = l * l + 2 * l + 1 := by grind
      omega
end
section
theorem rdiv_err6 (a n : Int) (hn : 0 < n) : -n ≤ 2 * (rdiv a n * n - a) ∧ 2 * (rdiv a n * n - a) ≤ n := by
  unfold rdiv
  have hD : (n.natAbs : Int) = n := by omega
  rw [hD, decide_eq_false (show ¬ n < 0 by omega)]
  have key : ∀ m : Int, 0 ≤ m → -n ≤ 2 * (qn m n * n - m) ∧ 2 * (qn m n * n - m) ≤ n := by
    intro m _
    have e := Int.mul_ediv_add_emod m n
    have r0 := Int.emod_nonneg m (Int.ne_of_gt hn)
    have r1 := Int.emod_lt_of_pos m hn
    rw [Int.mul_comm] at e
    unfold qn
    split
    · rw [Int.add_mul, Int.one_mul]
      generalize m / n * n = p at *
      generalize m % n = r at *
      omega
    · generalize m / n * n = p at *
      generalize m % n = r at *
      omega
  rcases Int.lt_or_le a 0 with h | h
  · rw [decide_eq_true h, if_pos (by decide)]
    have k := key (a.natAbs : Int) (by omega)
    rw [Int.neg_mul]
    generalize qn (a.natAbs : Int) n * n = p at *
    omega
  · rw [decide_eq_false (show ¬ a < 0 by omega), if_neg (by decide)]
    have k := key (a.natAbs : Int) (by omega)
    generalize qn (a.natAbs : Int) n * n = p at *
    omega
theorem rt_at_least6 (c T : Int) (h0 : 0 ≤ c) (h : c * c ≤ T) : c ≤ rt T := by
  have hT : 0 ≤ T := by have := Int.mul_nonneg h0 h0; omega
  have h1 := rt_gt T hT
  have h2 := rt_nonneg T
  rcases Int.lt_or_le (rt T) c with h3 | h3
  · have := Int.mul_le_mul (a := rt T + 1) (b := rt T + 1) (c := c) (d := c) (by omega) (by omega) (by omega) h0; omega
  · exact h3
theorem ln_fits6 (S : Int) (h0 : 0 ≤ S) (h1 : S ≤ 85070591730234615847396907784232501248) : lnok S = true ∧ ln S = rt S := by
  have h2 : rt S ≤ 9223372036854775807 := by
    have e1 := rt_le S h0
    rcases Int.lt_or_le 9223372036854775807 (rt S) with h3 | h3
    · have := Int.mul_le_mul (a := 9223372036854775808) (b := 9223372036854775808) (c := rt S) (d := rt S) (by omega) (by omega) (by omega) (by omega); omega
    · exact h3
  have h3 : lnok S = true := by unfold lnok fw; simp; omega
  exact ⟨h3, by unfold ln; rw [h3]; rfl⟩
/-- One part, made one. -/
theorem un_part (x n : Int) (hn : 3037000499 ≤ n) (a0 : -n ≤ x) (a1 : x ≤ n) :
    (-n ≤ 2 * (fq x n * n - x * 4294967296) ∧ 2 * (fq x n * n - x * 4294967296) ≤ n) ∧ -4294967297 ≤ fq x n ∧ fq x n ≤ 4294967297 := by
  have r := rdiv_err6 (x * 4294967296) n (by omega)
  unfold fq
  rw [if_neg (by omega)]
  generalize rdiv (x * 4294967296) n = u at *
  have b0 : -4294967297 ≤ u := by
    rcases Int.lt_or_le u (-4294967297) with h | h
    · have := Int.mul_le_mul_of_nonneg_right (c := n) (show u ≤ -4294967298 by omega) (by omega); omega
    · exact h
  have b1 : u ≤ 4294967297 := by
    rcases Int.lt_or_le 4294967297 u with h | h
    · have := Int.mul_le_mul_of_nonneg_right (c := n) (show 4294967298 ≤ u by omega) (by omega); omega
    · exact h
  rw [sat_id6 u (by omega) (by omega)]
  exact ⟨r, b0, b1⟩
theorem un_all (x0 x1 x2 x3 W : Int) (hW : 0 ≤ W) (hWW : W * W = x0 * x0) (hA : lnok (x1 * x1 + x2 * x2 + x3 * x3) = true)
    (h5 : 4294967296 ≤ ln (x1 * x1 + x2 * x2 + x3 * x3) + W) (h6 : ln (x1 * x1 + x2 * x2 + x3 * x3) + W ≤ 1099511627776) :
    ∃ u0 u1 u2 u3 : Int, uw x0 (ln (x0 * x0 + x1 * x1 + x2 * x2 + x3 * x3)) = u0 ∧ uq x1 (ln (x0 * x0 + x1 * x1 + x2 * x2 + x3 * x3)) = u1 ∧ uq x2 (ln (x0 * x0 + x1 * x1 + x2 * x2 + x3 * x3)) = u2 ∧ uq x3 (ln (x0 * x0 + x1 * x1 + x2 * x2 + x3 * x3)) = u3 ∧
      (-4294967297 ≤ u0 ∧ u0 ≤ 4294967297) ∧ (-4294967297 ≤ u1 ∧ u1 ≤ 4294967297) ∧ (-4294967297 ≤ u2 ∧ u2 ≤ 4294967297) ∧ (-4294967297 ≤ u3 ∧ u3 ≤ 4294967297) ∧
      -34359738368 ≤ u0 * u0 + u1 * u1 + u2 * u2 + u3 * u3 - 18446744073709551616 ∧ u0 * u0 + u1 * u1 + u2 * u2 + u3 * u3 - 18446744073709551616 ≤ 34359738368 := by
  have s0 := sq_nn6 x0
  have s1 := sq_nn6 x1
  have s2 := sq_nn6 x2
  have s3 := sq_nn6 x3
  have hL : ln (x1 * x1 + x2 * x2 + x3 * x3) = rt (x1 * x1 + x2 * x2 + x3 * x3) := by unfold ln; rw [hA]; rfl
  rw [hL] at h5 h6
  have l0 := rt_nonneg (x1 * x1 + x2 * x2 + x3 * x3)
  have l1 := rt_le (x1 * x1 + x2 * x2 + x3 * x3) (by omega)
  have l2 := rt_gt (x1 * x1 + x2 * x2 + x3 * x3) (by omega)
  have n0 := rt_nonneg (x0 * x0 + x1 * x1 + x2 * x2 + x3 * x3)
  have n1 := rt_le (x0 * x0 + x1 * x1 + x2 * x2 + x3 * x3) (by omega)
  have n2 := rt_gt (x0 * x0 + x1 * x1 + x2 * x2 + x3 * x3) (by omega)
  obtain ⟨N0, N1⟩ := un_n _ W _ (x0 * x0 + x1 * x1 + x2 * x2 + x3 * x3) _ l0 hW l1 (by omega) (by omega) n0 n1 (by omega) h5 h6
  have hS : x0 * x0 + x1 * x1 + x2 * x2 + x3 * x3 < 1099511627777 * 1099511627777 := by
    have := Int.mul_le_mul (a := rt (x0 * x0 + x1 * x1 + x2 * x2 + x3 * x3) + 1) (b := rt (x0 * x0 + x1 * x1 + x2 * x2 + x3 * x3) + 1) (c := 1099511627777) (d := 1099511627777) (by omega) (by omega) (by omega) (by omega)
    omega
  obtain ⟨f1, f2⟩ := ln_fits6 (x0 * x0 + x1 * x1 + x2 * x2 + x3 * x3) (by omega) (by omega)
  rw [f2]
  generalize rt (x0 * x0 + x1 * x1 + x2 * x2 + x3 * x3) = n at *
  have hn : n ≠ 0 := by omega
  obtain ⟨a0, a1⟩ := abs_of_sq x0 n n0 (by omega)
  obtain ⟨b0, b1⟩ := abs_of_sq x1 n n0 (by omega)
  obtain ⟨c0, c1⟩ := abs_of_sq x2 n n0 (by omega)
  obtain ⟨d0, d1⟩ := abs_of_sq x3 n n0 (by omega)
  obtain ⟨p0, q0⟩ := un_part x0 n N0 a0 a1
  obtain ⟨p1, q1⟩ := un_part x1 n N0 b0 b1
  obtain ⟨p2, q2⟩ := un_part x2 n N0 c0 c1
  obtain ⟨p3, q3⟩ := un_part x3 n N0 d0 d1
  obtain ⟨r0, r1⟩ := un_s x0 x1 x2 x3 _ _ _ _ n N0 n1 (by omega) p0 p1 p2 p3
  exact ⟨fq x0 n, fq x1 n, fq x2 n, fq x3 n, uw_no _ _ hn, uq_no _ _ hn, uq_no _ _ hn, uq_no _ _ hn, q0, q1, q2, q3, r0, r1⟩
end
section
set_option maxHeartbeats 2000000 in
theorem kp_all (w x y z a b c : Int) (hw : -4294967297 ≤ w ∧ w ≤ 4294967297) (hx : -4294967297 ≤ x ∧ x ≤ 4294967297) (hy : -4294967297 ≤ y ∧ y ≤ 4294967297) (hz : -4294967297 ≤ z ∧ z ≤ 4294967297) (hE0 : -34359738368 ≤ w * w + x * x + y * y + z * z - 18446744073709551616) (hE1 : w * w + x * x + y * y + z * z - 18446744073709551616 ≤ 34359738368) (ha : -4398046511104 ≤ a ∧ a ≤ 4398046511104) (hb : -4398046511104 ≤ b ∧ b ≤ 4398046511104) (hc : -4398046511104 ≤ c ∧ c ≤ 4398046511104) :
    ∃ r0 r1 r2 r3 r4 r5 r6 r7 r8 t0 t1 t2 : Int, (mo y z = r0 ∧ mn x y w z = r1 ∧ mp x z w y = r2 ∧ mp x y w z = r3 ∧ mo x z = r4 ∧ mn y z w x = r5 ∧ mn x z w y = r6 ∧ mp y z w x = r7 ∧ mo x y = r8) ∧ (mok y z = true ∧ mnk x y w z = true ∧ mpk x z w y = true ∧ mpk x y w z = true ∧ mok x z = true ∧ mnk y z w x = true ∧ mnk x z w y = true ∧ mpk y z w x = true ∧ mok x y = true) ∧ ((-73014444036 ≤ r0 ∧ r0 ≤ 73014444036) ∧ (-73014444036 ≤ r1 ∧ r1 ≤ 73014444036) ∧ (-73014444036 ≤ r2 ∧ r2 ≤ 73014444036) ∧ (-73014444036 ≤ r3 ∧ r3 ≤ 73014444036) ∧ (-73014444036 ≤ r4 ∧ r4 ≤ 73014444036) ∧ (-73014444036 ≤ r5 ∧ r5 ≤ 73014444036) ∧ (-73014444036 ≤ r6 ∧ r6 ≤ 73014444036) ∧ (-73014444036 ≤ r7 ∧ r7 ≤ 73014444036) ∧ (-73014444036 ≤ r8 ∧ r8 ≤ 73014444036)) ∧
      (dt r0 r1 r2 a b c = t0 ∧ dt r3 r4 r5 a b c = t1 ∧ dt r6 r7 r8 a b c = t2) ∧ (dtok r0 r1 r2 a b c = true ∧ dtok r3 r4 r5 a b c = true ∧ dtok r6 r7 r8 a b c = true) ∧
      (lnok (a * a + b * b + c * c) = true ∧ lnok (t0 * t0 + t1 * t1 + t2 * t2) = true) ∧
      -262144 < ln (t0 * t0 + t1 * t1 + t2 * t2) - ln (a * a + b * b + c * c) ∧ ln (t0 * t0 + t1 * t1 + t2 * t2) - ln (a * a + b * b + c * c) < 262144 := by
  obtain ⟨⟨e0, g0, k0, m0⟩, f0, l0, u0⟩ := mo_e y z (by omega) (by omega) (by omega) (by omega)
  obtain ⟨⟨e1, g1, k1, m1⟩, f1, l1, u1⟩ := mn_e x y w z (by omega) (by omega) (by omega) (by omega) (by omega) (by omega) (by omega) (by omega)
  obtain ⟨⟨e2, g2, k2, m2⟩, f2, l2, u2⟩ := mp_e x z w y (by omega) (by omega) (by omega) (by omega) (by omega) (by omega) (by omega) (by omega)
  obtain ⟨⟨e3, g3, k3, m3⟩, f3, l3, u3⟩ := mp_e x y w z (by omega) (by omega) (by omega) (by omega) (by omega) (by omega) (by omega) (by omega)
  obtain ⟨⟨e4, g4, k4, m4⟩, f4, l4, u4⟩ := mo_e x z (by omega) (by omega) (by omega) (by omega)
  obtain ⟨⟨e5, g5, k5, m5⟩, f5, l5, u5⟩ := mn_e y z w x (by omega) (by omega) (by omega) (by omega) (by omega) (by omega) (by omega) (by omega)
  obtain ⟨⟨e6, g6, k6, m6⟩, f6, l6, u6⟩ := mn_e x z w y (by omega) (by omega) (by omega) (by omega) (by omega) (by omega) (by omega) (by omega)
  obtain ⟨⟨e7, g7, k7, m7⟩, f7, l7, u7⟩ := mp_e y z w x (by omega) (by omega) (by omega) (by omega) (by omega) (by omega) (by omega) (by omega)
  obtain ⟨⟨e8, g8, k8, m8⟩, f8, l8, u8⟩ := mo_e x y (by omega) (by omega) (by omega) (by omega)
  generalize mo y z = r0 at *
  generalize mn x y w z = r1 at *
  generalize mp x z w y = r2 at *
  generalize mp x y w z = r3 at *
  generalize mo x z = r4 at *
  generalize mn y z w x = r5 at *
  generalize mn x z w y = r6 at *
  generalize mp y z w x = r7 at *
  generalize mo x y = r8 at *
  obtain ⟨⟨o0, p0, q0, s0⟩, d0⟩ := dt_e r0 r1 r2 a b c ⟨by omega, by omega⟩ ⟨by omega, by omega⟩ ⟨by omega, by omega⟩ ⟨by omega, by omega⟩ ⟨by omega, by omega⟩ ⟨by omega, by omega⟩
  obtain ⟨⟨o1, p1, q1, s1⟩, d1⟩ := dt_e r3 r4 r5 a b c ⟨by omega, by omega⟩ ⟨by omega, by omega⟩ ⟨by omega, by omega⟩ ⟨by omega, by omega⟩ ⟨by omega, by omega⟩ ⟨by omega, by omega⟩
  obtain ⟨⟨o2, p2, q2, s2⟩, d2⟩ := dt_e r6 r7 r8 a b c ⟨by omega, by omega⟩ ⟨by omega, by omega⟩ ⟨by omega, by omega⟩ ⟨by omega, by omega⟩ ⟨by omega, by omega⟩ ⟨by omega, by omega⟩
  generalize ht0 : dt r0 r1 r2 a b c = t0 at *
  obtain ⟨c0, x0, y0, z0⟩ := row_e (18446744073709551616 - 2 * (y * y + z * z)) (2 * (x * y - w * z)) (2 * (x * z + w * y)) r0 r1 r2 a b c t0 e0 e1 e2 o0 4398046511104 g0 g1 g2 ⟨k0, m0⟩ ⟨k1, m1⟩ ⟨k2, m2⟩ ha hb hc p0 ⟨q0, s0⟩
  generalize ht1 : dt r3 r4 r5 a b c = t1 at *
  obtain ⟨c1, x1, y1, z1⟩ := row_e (2 * (x * y + w * z)) (18446744073709551616 - 2 * (x * x + z * z)) (2 * (y * z - w * x)) r3 r4 r5 a b c t1 e3 e4 e5 o1 4398046511104 g3 g4 g5 ⟨k3, m3⟩ ⟨k4, m4⟩ ⟨k5, m5⟩ ha hb hc p1 ⟨q1, s1⟩
  generalize ht2 : dt r6 r7 r8 a b c = t2 at *
  obtain ⟨c2, x2, y2, z2⟩ := row_e (2 * (x * z - w * y)) (2 * (y * z + w * x)) (18446744073709551616 - 2 * (x * x + y * y)) r6 r7 r8 a b c t2 e6 e7 e8 o2 4398046511104 g6 g7 g8 ⟨k6, m6⟩ ⟨k7, m7⟩ ⟨k8, m8⟩ ha hb hc p2 ⟨q2, s2⟩
  have sa := sq_nn6 a
  have sb := sq_nn6 b
  have sc := sq_nn6 c
  have ba := mul_bd2 a a 4398046511104 4398046511104 ha.1 ha.2 ha.1 ha.2
  have bb := mul_bd2 b b 4398046511104 4398046511104 hb.1 hb.2 hb.1 hb.2
  have bc := mul_bd2 c c 4398046511104 4398046511104 hc.1 hc.2 hc.1 hc.2
  have id := turn_sq 18446744073709551616 w x y z a b c
  have hC0 : 0 ≤ (y * c - z * b) * (y * c - z * b) + (z * a - x * c) * (z * a - x * c) + (x * b - y * a) * (x * b - y * a) := by
    have := sq_nn6 (y * c - z * b); have := sq_nn6 (z * a - x * c); have := sq_nn6 (x * b - y * a); omega
  have hC : (y * c - z * b) * (y * c - z * b) + (z * a - x * c) * (z * a - x * c) + (x * b - y * a) * (x * b - y * a) ≤ (w * w + x * x + y * y + z * z - 18446744073709551616 + 18446744073709551616) * (a * a + b * b + c * c) := by
    have e1 := sq_nn6 (x * a + y * b + z * c)
    have e2 : 0 ≤ (w * w) * (a * a + b * b + c * c) := Int.mul_nonneg (sq_nn6 w) (by omega)
    have e3 : (w * w + x * x + y * y + z * z - 18446744073709551616 + 18446744073709551616) * (a * a + b * b + c * c) = (w * w) * (a * a + b * b + c * c) + ((y * c - z * b) * (y * c - z * b) + (z * a - x * c) * (z * a - x * c) + (x * b - y * a) * (x * b - y * a)) + (x * a + y * b + z * c) * (x * a + y * b + z * c) := by grind
    omega
  have n0 := rt_nonneg (a * a + b * b + c * c)
  have n1 := rt_le (a * a + b * b + c * c) (by omega)
  have n2 := rt_gt (a * a + b * b + c * c) (by omega)
  have hT := id.trans (show _ = 18446744073709551616 * 18446744073709551616 * (a * a + b * b + c * c) + 4 * (w * w + x * x + y * y + z * z - 18446744073709551616) * ((y * c - z * b) * (y * c - z * b) + (z * a - x * c) * (z * a - x * c) + (x * b - y * a) * (x * b - y * a)) from rfl)
  obtain ⟨⟨h1, h2⟩, _⟩ := kp_q (a * a + b * b + c * c) (t0 * t0 + t1 * t1 + t2 * t2) (rt (a * a + b * b + c * c)) _ _ _ c0 c1 c2 t0 t1 t2 _ _ hE0 hE1 hC0 hC (by omega) hT x0 x1 x2 ⟨by omega, by omega⟩ ⟨by omega, by omega⟩ ⟨by omega, by omega⟩ n0 n2 rfl
  have st0 := sq_nn6 t0
  have st1 := sq_nn6 t1
  have st2 := sq_nn6 t2
  clear id hT hC hC0
  have hl : rt (a * a + b * b + c * c) < 8796093022208 := by
    rcases Int.lt_or_le (rt (a * a + b * b + c * c)) 8796093022208 with h | h
    · exact h
    · have := Int.mul_le_mul (a := 8796093022208) (b := 8796093022208) h h (by omega) n0; omega
  obtain ⟨v1, v2⟩ := ln_fits6 (a * a + b * b + c * c) (by omega) (by omega)
  obtain ⟨v3, v4⟩ := ln_fits6 (t0 * t0 + t1 * t1 + t2 * t2) (by omega) (by omega)
  have m0 := rt_nonneg (t0 * t0 + t1 * t1 + t2 * t2)
  have m1 := rt_le (t0 * t0 + t1 * t1 + t2 * t2) (by omega)
  have m2 := rt_gt (t0 * t0 + t1 * t1 + t2 * t2) (by omega)
  obtain ⟨w1, w2⟩ := kp_fin (a * a + b * b + c * c) (t0 * t0 + t1 * t1 + t2 * t2) _ _ n0 m0 n1 n2 m1 m2 (by omega) h1 h2
  refine ⟨r0, r1, r2, r3, r4, r5, r6, r7, r8, t0, t1, t2, ⟨rfl, rfl, rfl, rfl, rfl, rfl, rfl, rfl, rfl⟩, ⟨f0, f1, f2, f3, f4, f5, f6, f7, f8⟩, ⟨⟨by omega, by omega⟩, ⟨by omega, by omega⟩, ⟨by omega, by omega⟩, ⟨by omega, by omega⟩, ⟨by omega, by omega⟩, ⟨by omega, by omega⟩, ⟨by omega, by omega⟩, ⟨by omega, by omega⟩, ⟨by omega, by omega⟩⟩, ⟨ht0, ht1, ht2⟩, ⟨d0, d1, d2⟩, ⟨v1, v3⟩, ?_, ?_⟩
  · rw [v2, v4]; omega
  · rw [v2, v4]; omega
end
section
set_option linter.unusedVariables false
/-- What the law's unit attitude is like. -/
def unl6 (u0 u1 u2 u3 : Int) : Prop := (-4294967297 ≤ u0 ∧ u0 ≤ 4294967297) ∧ (-4294967297 ≤ u1 ∧ u1 ≤ 4294967297) ∧ (-4294967297 ≤ u2 ∧ u2 ≤ 4294967297) ∧ (-4294967297 ≤ u3 ∧ u3 ≤ 4294967297) ∧
  -34359738368 ≤ u0 * u0 + u1 * u1 + u2 * u2 + u3 * u3 - 18446744073709551616 ∧ u0 * u0 + u1 * u1 + u2 * u2 + u3 * u3 - 18446744073709551616 ≤ 34359738368
theorem un_case (x0 x1 x2 x3 : Int) (h0 : -9223372036854775808 ≤ x0) (h1 : x0 ≤ 9223372036854775807) (hA : lnok (x1 * x1 + x2 * x2 + x3 * x3) = true) (hw : fx (x0.natAbs : Int) = true)
    (hs : fx (ln (x1 * x1 + x2 * x2 + x3 * x3) + sat (x0.natAbs : Int)) = true) (h5 : 4294967296 ≤ sat (ln (x1 * x1 + x2 * x2 + x3 * x3) + sat (x0.natAbs : Int))) (h6 : sat (ln (x1 * x1 + x2 * x2 + x3 * x3) + sat (x0.natAbs : Int)) ≤ 1099511627776) :
    unl6 (uw x0 (ln (x0 * x0 + x1 * x1 + x2 * x2 + x3 * x3))) (uq x1 (ln (x0 * x0 + x1 * x1 + x2 * x2 + x3 * x3))) (uq x2 (ln (x0 * x0 + x1 * x1 + x2 * x2 + x3 * x3))) (uq x3 (ln (x0 * x0 + x1 * x1 + x2 * x2 + x3 * x3))) := by
  have e1 : sat (x0.natAbs : Int) = x0.natAbs := by
    unfold fx at hw; have := of_decide_eq_true hw; exact sat_id6 _ this.1 this.2
  rw [e1] at hs h5 h6
  have e2 : sat (ln (x1 * x1 + x2 * x2 + x3 * x3) + (x0.natAbs : Int)) = ln (x1 * x1 + x2 * x2 + x3 * x3) + x0.natAbs := by
    unfold fx at hs; have := of_decide_eq_true hs; exact sat_id6 _ this.1 this.2
  rw [e2] at h5 h6
  have hWW : (x0.natAbs : Int) * x0.natAbs = x0 * x0 := Int.natAbs_mul_self
  obtain ⟨u0, u1, u2, u3, a0, a1, a2, a3, h⟩ := un_all x0 x1 x2 x3 x0.natAbs (by omega) hWW hA h5 h6
  rw [a0, a1, a2, a3]
  exact h
set_option maxHeartbeats 8000000 in
set_option maxRecDepth 20000 in
theorem cUnit6 (x0 x1 x2 x3 : Int) (w : World) (x0_0 : -9223372036854775808 ≤ x0) (x0_1 : x0 ≤ 9223372036854775807) (x1_0 : -9223372036854775808 ≤ x1) (x1_1 : x1 ≤ 9223372036854775807) (x2_0 : -9223372036854775808 ≤ x2) (x2_1 : x2 ≤ 9223372036854775807) (x3_0 : -9223372036854775808 ≤ x3) (x3_1 : x3 ≤ 9223372036854775807) :
    Calls Try.prog 20 #[.agg #[.int .i64 x0, .int .i64 x1, .int .i64 x2, .int .i64 x3]] w fun e w' => ∃ (ok : Bool) (u0 u1 u2 u3 : Int), e = .returned (.tuple #[.agg #[.int .i64 u0, .int .i64 u1, .int .i64 u2, .int .i64 u3], .bool ok]) ∧ Below w.heap.size w w' ∧ (ok = true → unl6 u0 u1 u2 u3) := by
  have hu := un_case x0 x1 x2 x3 x0_0 x0_1
  have k1 := fun O W => cVLen x1 x2 x3 (w.heap.size + 1 + 1) O W x1_0 x1_1 x2_0 x2_1 x3_0 x3_1
  have k2 := fun O W => cFAbs x0 (w.heap.size + 1 + 1) O W x0_0 x0_1
  have k3 := fun O W => cFAdd (ln (x1 * x1 + x2 * x2 + x3 * x3)) (sat (x0.natAbs : Int)) (w.heap.size + 1 + 1) O W (by have := ln_lo (x1 * x1 + x2 * x2 + x3 * x3); omega) (ln_hi _) (sat_lo _) (sat_hi _)
  have k4 := fun O W => cUnit4 x0 x1 x2 x3 (w.heap.size + 1 + 1) O W x0_0 x0_1 x1_0 x1_1 x2_0 x2_1 x3_0 x3_1
  generalize sat (ln (x1 * x1 + x2 * x2 + x3 * x3) + sat (x0.natAbs : Int)) = n1 at *
  generalize fx (ln (x1 * x1 + x2 * x2 + x3 * x3) + sat (x0.natAbs : Int)) = g3 at *
  generalize sat (x0.natAbs : Int) = aw at *
  generalize fx (x0.natAbs : Int) = g2 at *
  generalize lnok (x1 * x1 + x2 * x2 + x3 * x3) = g1 at *
  generalize ln (x1 * x1 + x2 * x2 + x3 * x3) = l at *
  generalize uw x0 (ln (x0 * x0 + x1 * x1 + x2 * x2 + x3 * x3)) = u0 at *
  generalize uq x1 (ln (x0 * x0 + x1 * x1 + x2 * x2 + x3 * x3)) = u1 at *
  generalize uq x2 (ln (x0 * x0 + x1 * x1 + x2 * x2 + x3 * x3)) = u2 at *
  generalize uq x3 (ln (x0 * x0 + x1 * x1 + x2 * x2 + x3 * x3)) = u3 at *
  go_enter Try.func20, Try.ntmps20
  go_upto_region 3 with (fail)
  generalize hW : World.alloc _ _ = W1
  have R : Bk (w.heap.size + 1) 0 [.int .i64 0, .int .i64 0, .int .i64 0, .int .i64 0] W1 := by rw [← hW]; simp [Bk, go_sem]
  have c0 : W1.cell? ⟨w.heap.size, 0, none⟩ = some (.int .i64 x0) := by rw [← hW]; simp [go_sem]
  have c1 : W1.cell? ⟨w.heap.size, 1, none⟩ = some (.int .i64 x1) := by rw [← hW]; simp [go_sem]
  have c2 : W1.cell? ⟨w.heap.size, 2, none⟩ = some (.int .i64 x2) := by rw [← hW]; simp [go_sem]
  have c3 : W1.cell? ⟨w.heap.size, 3, none⟩ = some (.int .i64 x3) := by rw [← hW]; simp [go_sem]
  have c4 : W1.cell? ⟨w.heap.size + 1 + 1 + 1, 0, none⟩ = some (.int .i64 x1) := by rw [← hW]; simp [go_sem]
  have c5 : W1.cell? ⟨w.heap.size + 1 + 1 + 1, 1, none⟩ = some (.int .i64 x2) := by rw [← hW]; simp [go_sem]
  have c6 : W1.cell? ⟨w.heap.size + 1 + 1 + 1, 2, none⟩ = some (.int .i64 x3) := by rw [← hW]; simp [go_sem]
  have HM : Mv (w.heap.size + 1 + 1) false W1 W1 := by rw [← hW]; exact Mv.refl (by simp [go_sem]) (by simp [go_sem])
  have HB : Below w.heap.size w W1 := by rw [← hW]; (repeat (first | with_reducible assumption | with_reducible exact Below.refl _ _ | ((with_reducible refine Below.setCell ?_ ?_ _); rotate_left; (first | exact Nat.le_refl _ | (dsimp only; omega) | (simp; done) | (simp; omega))) | with_reducible refine below_alloc ?_ _ | with_reducible apply below_drewN | with_reducible apply Below.drew | with_reducible refine below_step ?_ (by assumption)))
  have hz : W1.heap.size = w.heap.size + 4 := by rw [← hW]; simp
  clear hW
  (try refine wp_region_noPanic ?_)
  refine wp_region_ssa (S := (fun (w' : World) => w'.cell? ⟨w.heap.size, 0, none⟩ = some (.int .i64 x0) ∧ w'.cell? ⟨w.heap.size, 1, none⟩ = some (.int .i64 x1) ∧ w'.cell? ⟨w.heap.size, 2, none⟩ = some (.int .i64 x2) ∧ w'.cell? ⟨w.heap.size, 3, none⟩ = some (.int .i64 x3) ∧ w'.cell? ⟨w.heap.size + 1 + 1 + 1, 0, none⟩ = some (.int .i64 x1) ∧ w'.cell? ⟨w.heap.size + 1 + 1 + 1, 1, none⟩ = some (.int .i64 x2) ∧ w'.cell? ⟨w.heap.size + 1 + 1 + 1, 2, none⟩ = some (.int .i64 x3))) (#[none, none, none, none, none, none, some 9, none, none, none, none, none, none, none, none, none, some 0, some 1, some 2, some 3, some 4, some 5, some 6, some 7, some 8] : Array (Option Nat)) (by kernel_rfl) (by kernel_rfl) (by kernel_rfl) ⟨(by first | (simp (maxDischargeDepth := 6) [go_sem, *]; done)), (by first | (simp (maxDischargeDepth := 6) [go_sem, *]; done)), (by first | (simp (maxDischargeDepth := 6) [go_sem, *]; done)), (by first | (simp (maxDischargeDepth := 6) [go_sem, *]; done)), (by first | (simp (maxDischargeDepth := 6) [go_sem, *]; done)), (by first | (simp (maxDischargeDepth := 6) [go_sem, *]; done)), (by first | (simp (maxDischargeDepth := 6) [go_sem, *]; done))⟩ (fun hSSA hHeld => ?_)
  refine wpAnyH_sl (n := 5) (l' := (#[true, true, true, false, true, true, false, false, false, false] : Array Bool)) [0, 1, 2, 4, 5] [some 16, some 17, some 18, some 20, some 21] hSSA (
    LvY.take (by rfl) (by intro w hSw; (try dsimp only at hSw); go_simp; try with_reducible rfl) <|
    LvY.take (by rfl) (by intro w hSw; (try dsimp only at hSw); go_simp; try with_reducible rfl) <|
    LvY.take (by rfl) (by intro w hSw; (try dsimp only at hSw); go_simp; try with_reducible rfl) <|
    LvY.skip <|
    LvY.take (by rfl) (by intro w hSw; (try dsimp only at hSw); go_simp; try with_reducible rfl) <|
    LvY.take (by rfl) (by intro w hSw; (try dsimp only at hSw); go_simp; try with_reducible rfl) <|
    LvY.skip <|
    LvY.skip <|
    LvY.skip <|
    LvY.skip <|
    LvY.nil) (by rfl) (by rfl) (by kernel_rfl) (fun _ _ _ _ _ h => h) (by kernel_rfl) (by kernel_rfl) (by kernel_rfl) (by assumption) ?_
  simp only [lvVs, putDs, Act.put, List.setIfInBounds_toArray, List.set_cons_zero, List.set_cons_succ]
  refine wpAnyH_sl (n := 4) (l' := (#[true, true, true, false, true, true, true, false, false, false] : Array Bool)) [6] [some 22] hSSA (
    LvY.skip <|
    LvY.skip <|
    LvY.skip <|
    LvY.skip <|
    LvY.skip <|
    LvY.skip <|
    LvY.take (by rfl) (by intro w hSw; (try dsimp only at hSw); go_simp; try with_reducible rfl) <|
    LvY.skip <|
    LvY.skip <|
    LvY.skip <|
    LvY.nil) (by rfl) (by rfl) (by kernel_rfl) (fun _ _ _ _ _ h => h) (by kernel_rfl) (by kernel_rfl) (by kernel_rfl) (by assumption) ?_
  simp only [lvVs, putDs, Act.put, List.setIfInBounds_toArray, List.set_cons_zero, List.set_cons_succ]
  have hOld := hHeld; clear hHeld
  refine wpAnyH_on (i := 3) (n := 3) (l' := (#[true, true, true, true, true, true, true, false, false, false] : Array Bool)) (by kernel_rfl) (by kernel_rfl) (by kernel_rfl) (by simp only [List.getElem?_toArray, List.getElem?_cons_succ, List.getElem?_cons_zero]; rfl) (by rfl) (fun K hK => ?_)
  go_simp
  (go_at_call 23; (with_reducible refine (mvCall (b := w.heap.size + 1 + 1) (w0 := W1) (by (repeat (first | with_reducible assumption | with_reducible exact Mv.refl (by assumption) (by assumption) | with_reducible apply Mv.alloc | with_reducible apply Mv.drew | with_reducible apply Mv.drewN | ((with_reducible apply Mv.setCell); rotate_left; (first | (dsimp only; omega) | omega | (simp; omega)); (first | (dsimp only; omega) | omega | (simp; omega))) | ((with_reducible apply Mv.below); rotate_left; (with_reducible assumption)) | ((with_reducible apply Mv.trans); rotate_left; (with_reducible assumption))))) (k1 _ _)).mono ?_); rintro e w1 ⟨rfl, hM, HM⟩)
  (try go_wp2_with (fail))
  refine hK.out _ _ ⟨(by first | exact mv_cell hM (by first | (dsimp only; omega) | (simp; omega)) hOld.1 | exact cell_later hM hOld.1 | exact HT.cb | exact HT.cc | (simp (maxDischargeDepth := 6) [go_sem, *]; done)), (by first | exact mv_cell hM (by first | (dsimp only; omega) | (simp; omega)) hOld.2.1 | exact cell_later hM hOld.2.1 | exact HT.cb | exact HT.cc | (simp (maxDischargeDepth := 6) [go_sem, *]; done)), (by first | exact mv_cell hM (by first | (dsimp only; omega) | (simp; omega)) hOld.2.2.1 | exact cell_later hM hOld.2.2.1 | exact HT.cb | exact HT.cc | (simp (maxDischargeDepth := 6) [go_sem, *]; done)), (by first | exact mv_cell hM (by first | (dsimp only; omega) | (simp; omega)) hOld.2.2.2.1 | exact cell_later hM hOld.2.2.2.1 | exact HT.cb | exact HT.cc | (simp (maxDischargeDepth := 6) [go_sem, *]; done)), (by first | exact mv_cell hM (by first | (dsimp only; omega) | (simp; omega)) hOld.2.2.2.2.1 | exact cell_later hM hOld.2.2.2.2.1 | exact HT.cb | exact HT.cc | (simp (maxDischargeDepth := 6) [go_sem, *]; done)), (by first | exact mv_cell hM (by first | (dsimp only; omega) | (simp; omega)) hOld.2.2.2.2.2.1 | exact cell_later hM hOld.2.2.2.2.2.1 | exact HT.cb | exact HT.cc | (simp (maxDischargeDepth := 6) [go_sem, *]; done)), (by first | exact mv_cell hM (by first | (dsimp only; omega) | (simp; omega)) hOld.2.2.2.2.2.2 | exact cell_later hM hOld.2.2.2.2.2.2 | exact HT.cb | exact HT.cc | (simp (maxDischargeDepth := 6) [go_sem, *]; done))⟩ (fun hHeld => ?_)
  clear hK K hOld
  try simp only [Act.put, List.setIfInBounds_toArray, List.set_cons_zero, List.set_cons_succ]
  (first | have R := Bk.mv hM (by omega) R | have R := Bk.mv hM (by omega) (Bk.drew R) | have R := Bk.mv hM (by omega) (Bk.drew (Bk.alloc R _))); clear hM
  have hOld := hHeld; clear hHeld
  refine wpAnyH_on (i := 7) (n := 2) (l' := (#[true, true, true, true, true, true, true, true, false, false] : Array Bool)) (by kernel_rfl) (by kernel_rfl) (by kernel_rfl) (by simp only [List.getElem?_toArray, List.getElem?_cons_succ, List.getElem?_cons_zero]; rfl) (by rfl) (fun K hK => ?_)
  go_simp
  (go_at_call 24; (with_reducible refine (mvCall (b := w.heap.size + 1 + 1) (w0 := W1) (by (repeat (first | with_reducible assumption | with_reducible exact Mv.refl (by assumption) (by assumption) | with_reducible apply Mv.alloc | with_reducible apply Mv.drew | with_reducible apply Mv.drewN | ((with_reducible apply Mv.setCell); rotate_left; (first | (dsimp only; omega) | omega | (simp; omega)); (first | (dsimp only; omega) | omega | (simp; omega))) | ((with_reducible apply Mv.below); rotate_left; (with_reducible assumption)) | ((with_reducible apply Mv.trans); rotate_left; (with_reducible assumption))))) (k2 _ _)).mono ?_); rintro e w1 ⟨rfl, hM, HM⟩)
  (try go_wp2_with (fail))
  refine hK.out _ _ ⟨(by first | exact mv_cell hM (by first | (dsimp only; omega) | (simp; omega)) hOld.1 | exact cell_later hM hOld.1 | exact HT.cb | exact HT.cc | (simp (maxDischargeDepth := 6) [go_sem, *]; done)), (by first | exact mv_cell hM (by first | (dsimp only; omega) | (simp; omega)) hOld.2.1 | exact cell_later hM hOld.2.1 | exact HT.cb | exact HT.cc | (simp (maxDischargeDepth := 6) [go_sem, *]; done)), (by first | exact mv_cell hM (by first | (dsimp only; omega) | (simp; omega)) hOld.2.2.1 | exact cell_later hM hOld.2.2.1 | exact HT.cb | exact HT.cc | (simp (maxDischargeDepth := 6) [go_sem, *]; done)), (by first | exact mv_cell hM (by first | (dsimp only; omega) | (simp; omega)) hOld.2.2.2.1 | exact cell_later hM hOld.2.2.2.1 | exact HT.cb | exact HT.cc | (simp (maxDischargeDepth := 6) [go_sem, *]; done)), (by first | exact mv_cell hM (by first | (dsimp only; omega) | (simp; omega)) hOld.2.2.2.2.1 | exact cell_later hM hOld.2.2.2.2.1 | exact HT.cb | exact HT.cc | (simp (maxDischargeDepth := 6) [go_sem, *]; done)), (by first | exact mv_cell hM (by first | (dsimp only; omega) | (simp; omega)) hOld.2.2.2.2.2.1 | exact cell_later hM hOld.2.2.2.2.2.1 | exact HT.cb | exact HT.cc | (simp (maxDischargeDepth := 6) [go_sem, *]; done)), (by first | exact mv_cell hM (by first | (dsimp only; omega) | (simp; omega)) hOld.2.2.2.2.2.2 | exact cell_later hM hOld.2.2.2.2.2.2 | exact HT.cb | exact HT.cc | (simp (maxDischargeDepth := 6) [go_sem, *]; done))⟩ (fun hHeld => ?_)
  clear hK K hOld
  try simp only [Act.put, List.setIfInBounds_toArray, List.set_cons_zero, List.set_cons_succ]
  (first | have R := Bk.mv hM (by omega) R | have R := Bk.mv hM (by omega) (Bk.drew R) | have R := Bk.mv hM (by omega) (Bk.drew (Bk.alloc R _))); clear hM
  have hOld := hHeld; clear hHeld
  refine wpAnyH_on (i := 8) (n := 1) (l' := (#[true, true, true, true, true, true, true, true, true, false] : Array Bool)) (by kernel_rfl) (by kernel_rfl) (by kernel_rfl) (by simp only [List.getElem?_toArray, List.getElem?_cons_succ, List.getElem?_cons_zero]; rfl) (by rfl) (fun K hK => ?_)
  go_simp
  (go_at_call 31; (with_reducible refine (mvCall (b := w.heap.size + 1 + 1) (w0 := W1) (by (repeat (first | with_reducible assumption | with_reducible exact Mv.refl (by assumption) (by assumption) | with_reducible apply Mv.alloc | with_reducible apply Mv.drew | with_reducible apply Mv.drewN | ((with_reducible apply Mv.setCell); rotate_left; (first | (dsimp only; omega) | omega | (simp; omega)); (first | (dsimp only; omega) | omega | (simp; omega))) | ((with_reducible apply Mv.below); rotate_left; (with_reducible assumption)) | ((with_reducible apply Mv.trans); rotate_left; (with_reducible assumption))))) (k3 _ _)).mono ?_); rintro e w1 ⟨rfl, hM, HM⟩)
  (try go_wp2_with (fail))
  refine hK.out _ _ ⟨(by first | exact mv_cell hM (by first | (dsimp only; omega) | (simp; omega)) hOld.1 | exact cell_later hM hOld.1 | exact HT.cb | exact HT.cc | (simp (maxDischargeDepth := 6) [go_sem, *]; done)), (by first | exact mv_cell hM (by first | (dsimp only; omega) | (simp; omega)) hOld.2.1 | exact cell_later hM hOld.2.1 | exact HT.cb | exact HT.cc | (simp (maxDischargeDepth := 6) [go_sem, *]; done)), (by first | exact mv_cell hM (by first | (dsimp only; omega) | (simp; omega)) hOld.2.2.1 | exact cell_later hM hOld.2.2.1 | exact HT.cb | exact HT.cc | (simp (maxDischargeDepth := 6) [go_sem, *]; done)), (by first | exact mv_cell hM (by first | (dsimp only; omega) | (simp; omega)) hOld.2.2.2.1 | exact cell_later hM hOld.2.2.2.1 | exact HT.cb | exact HT.cc | (simp (maxDischargeDepth := 6) [go_sem, *]; done)), (by first | exact mv_cell hM (by first | (dsimp only; omega) | (simp; omega)) hOld.2.2.2.2.1 | exact cell_later hM hOld.2.2.2.2.1 | exact HT.cb | exact HT.cc | (simp (maxDischargeDepth := 6) [go_sem, *]; done)), (by first | exact mv_cell hM (by first | (dsimp only; omega) | (simp; omega)) hOld.2.2.2.2.2.1 | exact cell_later hM hOld.2.2.2.2.2.1 | exact HT.cb | exact HT.cc | (simp (maxDischargeDepth := 6) [go_sem, *]; done)), (by first | exact mv_cell hM (by first | (dsimp only; omega) | (simp; omega)) hOld.2.2.2.2.2.2 | exact cell_later hM hOld.2.2.2.2.2.2 | exact HT.cb | exact HT.cc | (simp (maxDischargeDepth := 6) [go_sem, *]; done))⟩ (fun hHeld => ?_)
  clear hK K hOld
  try simp only [Act.put, List.setIfInBounds_toArray, List.set_cons_zero, List.set_cons_succ]
  (first | have R := Bk.mv hM (by omega) R | have R := Bk.mv hM (by omega) (Bk.drew R) | have R := Bk.mv hM (by omega) (Bk.drew (Bk.alloc R _))); clear hM
  refine wpAnyH_sl (n := 0) (l' := (#[true, true, true, true, true, true, true, true, true, true] : Array Bool)) [9] [some 6] hSSA (
    LvY.skip <|
    LvY.skip <|
    LvY.skip <|
    LvY.skip <|
    LvY.skip <|
    LvY.skip <|
    LvY.skip <|
    LvY.skip <|
    LvY.skip <|
    LvY.take (by rfl) (by intro w hSw; (try dsimp only at hSw); go_simp; try with_reducible rfl) <|
    LvY.nil) (by rfl) (by rfl) (by kernel_rfl) (fun _ _ _ _ _ h => h) (by kernel_rfl) (by kernel_rfl) (by kernel_rfl) (by assumption) ?_
  simp only [lvVs, putDs, Act.put, List.setIfInBounds_toArray, List.set_cons_zero, List.set_cons_succ]
  refine wpAnyH_done (by kernel_rfl) ?_ _
  (try refine NoPanic.normal ?_)
  (try clear q0); (try clear q1); (try clear q2); (try clear q3); (try clear q4); (try clear q5); (try clear q6); obtain ⟨q0, q1, q2, q3, q4, q5, q6⟩ := hHeld
  obtain ⟨G, hG⟩ : ∃ G, (false || !g1 || !g2 || !g3) = G := ⟨_, rfl⟩
  rw [hG] at HM
  have hcm := HM.cell
  have hfm := HM.free
  have C_R := R
  simp only [Bk] at C_R
  clear k1 k2 k3
  have HB := below_mv HB HM (by omega)
  have hz1 := HM.size
  clear hSSA
  cases G with
  | true =>
    clear k4 hu
    go_wp2
    simp (maxDischargeDepth := 8) [bodyPost, results, Try.results20, go_sem, *]
    exact (by (repeat (first | with_reducible assumption | with_reducible exact Below.refl _ _ | ((with_reducible refine Below.setCell ?_ ?_ _); rotate_left; (first | exact Nat.le_refl _ | (dsimp only; omega) | (simp; done) | (simp; omega))) | with_reducible refine below_alloc ?_ _ | with_reducible apply below_drewN | with_reducible apply Below.drew | with_reducible refine below_step ?_ (by assumption))))
  | false =>
    have hg : g1 = true ∧ g2 = true ∧ g3 = true := by revert hG; cases g1 <;> cases g2 <;> cases g3 <;> simp
    have hu := hu hg.1 hg.2.1 hg.2.2
    clear hG hg
    by_cases h5 : n1 < 4294967296
    · have d5 := decide_eq_true h5
      clear k4 hu
      go_wp2
      simp (maxDischargeDepth := 8) [bodyPost, results, Try.results20, go_sem, *]
      exact (by (repeat (first | with_reducible assumption | with_reducible exact Below.refl _ _ | ((with_reducible refine Below.setCell ?_ ?_ _); rotate_left; (first | exact Nat.le_refl _ | (dsimp only; omega) | (simp; done) | (simp; omega))) | with_reducible refine below_alloc ?_ _ | with_reducible apply below_drewN | with_reducible apply Below.drew | with_reducible refine below_step ?_ (by assumption))))
    · have d5 := decide_eq_false h5
      by_cases h6 : 1099511627776 < n1
      · have d6 := decide_eq_true h6
        clear k4 hu
        go_wp2
        simp (maxDischargeDepth := 8) [bodyPost, results, Try.results20, go_sem, *]
        exact (by (repeat (first | with_reducible assumption | with_reducible exact Below.refl _ _ | ((with_reducible refine Below.setCell ?_ ?_ _); rotate_left; (first | exact Nat.le_refl _ | (dsimp only; omega) | (simp; done) | (simp; omega))) | with_reducible refine below_alloc ?_ _ | with_reducible apply below_drewN | with_reducible apply Below.drew | with_reducible refine below_step ?_ (by assumption))))
      · have d6 := decide_eq_false h6
        have hu := hu (by omega) (by omega)
        generalize lnok (x0 * x0 + x1 * x1 + x2 * x2 + x3 * x3) = o1 at *
        generalize ln (x0 * x0 + x1 * x1 + x2 * x2 + x3 * x3) = n at *
        go_wp2_with (go_at_call 18; (with_reducible refine (k4 _ _ hcm hfm).mono ?_); rintro e w4 ⟨rfl, hM⟩; have R := Bk.mv hM (by omega) R; have C_R := R; simp only [Bk] at C_R; have HB := below_mv HB hM (by omega))
        clear k4
        simp (maxDischargeDepth := 8) [bodyPost, results, Try.results20, go_sem, *]
        exact ⟨u0, u1, u2, u3, ⟨rfl, rfl, rfl, rfl⟩, by (repeat (first | with_reducible assumption | with_reducible exact Below.refl _ _ | ((with_reducible refine Below.setCell ?_ ?_ _); rotate_left; (first | exact Nat.le_refl _ | (dsimp only; omega) | (simp; done) | (simp; omega))) | with_reducible refine below_alloc ?_ _ | with_reducible apply below_drewN | with_reducible apply Below.drew | with_reducible refine below_step ?_ (by assumption))), hu⟩
end
section
set_option linter.unusedVariables false
set_option maxHeartbeats 16000000 in
set_option maxRecDepth 20000 in
theorem walk_QuatKeeps (x0 x1 x2 x3 a b c : Int) (w : World) (x0_0 : -9223372036854775808 ≤ x0) (x0_1 : x0 ≤ 9223372036854775807) (x1_0 : -9223372036854775808 ≤ x1) (x1_1 : x1 ≤ 9223372036854775807) (x2_0 : -9223372036854775808 ≤ x2) (x2_1 : x2 ≤ 9223372036854775807) (x3_0 : -9223372036854775808 ≤ x3) (x3_1 : x3 ≤ 9223372036854775807) (a_0 : -9223372036854775808 ≤ a) (a_1 : a ≤ 9223372036854775807) (b_0 : -9223372036854775808 ≤ b) (b_1 : b ≤ 9223372036854775807) (c_0 : -9223372036854775808 ≤ c) (c_1 : c ≤ 9223372036854775807) :
    Calls Try.prog 6 #[.agg #[.int .i64 x0, .int .i64 x1, .int .i64 x2, .int .i64 x3], .agg #[.int .i64 a, .int .i64 b, .int .i64 c]] w fun e w' => e = .returned (.bool true) ∧ Below w.heap.size w w' := by
  have k1 := fun W => cUnit6 x0 x1 x2 x3 W x0_0 x0_1 x1_0 x1_1 x2_0 x2_1 x3_0 x3_1
  have k2 := fun W => cVClamp a b c 4398046511104 W (by decide) (by decide)
  go_enter Try.func6, Try.ntmps6
  go_wp2_with (fail)
  (with_reducible refine (k1 _).mono ?_); rintro e w1 ⟨ok, u0, u1, u2, u3, rfl, hM, hu⟩
  have c0 := cell_later (a := ⟨w.heap.size + 1, 0, none⟩) (v := .int .i64 a) hM (by simp [go_sem])
  have c1 := cell_later (a := ⟨w.heap.size + 1, 1, none⟩) (v := .int .i64 b) hM (by simp [go_sem])
  have c2 := cell_later (a := ⟨w.heap.size + 1, 2, none⟩) (v := .int .i64 c) hM (by simp [go_sem])
  have HB : Below w.heap.size w w1 := below_step (by (repeat (first | with_reducible assumption | with_reducible exact Below.refl _ _ | ((with_reducible refine Below.setCell ?_ ?_ _); rotate_left; (first | exact Nat.le_refl _ | (dsimp only; omega) | (simp; done) | (simp; omega))) | with_reducible refine below_alloc ?_ _ | with_reducible apply below_drewN | with_reducible apply Below.drew | with_reducible refine below_step ?_ (by assumption)))) hM
  clear hM k1
  go_upto_region 2 with (fail)
  generalize hW : World.alloc _ _ = W2
  have c0 : W2.cell? ⟨w.heap.size + 1, 0, none⟩ = some (.int .i64 a) := by rw [← hW]; exact cell_later ((Below.refl _ _).alloc (Nat.le_refl _) _) c0
  have c1 : W2.cell? ⟨w.heap.size + 1, 1, none⟩ = some (.int .i64 b) := by rw [← hW]; exact cell_later ((Below.refl _ _).alloc (Nat.le_refl _) _) c1
  have c2 : W2.cell? ⟨w.heap.size + 1, 2, none⟩ = some (.int .i64 c) := by rw [← hW]; exact cell_later ((Below.refl _ _).alloc (Nat.le_refl _) _) c2
  have y0 : W2.cell? ⟨w1.heap.size, 0, none⟩ = some (.int .i64 u0) := by rw [← hW]; simp [go_sem]
  have y1 : W2.cell? ⟨w1.heap.size, 1, none⟩ = some (.int .i64 u1) := by rw [← hW]; simp [go_sem]
  have y2 : W2.cell? ⟨w1.heap.size, 2, none⟩ = some (.int .i64 u2) := by rw [← hW]; simp [go_sem]
  have y3 : W2.cell? ⟨w1.heap.size, 3, none⟩ = some (.int .i64 u3) := by rw [← hW]; simp [go_sem]
  have HB : Below w.heap.size w W2 := by rw [← hW]; exact HB.alloc HB.size _
  clear hW
  cases ok with
  | false =>
  (try refine wp_region_noPanic ?_)
  refine wp_region_held_drew (S := (fun (w' : World) => w'.cell? ⟨w.heap.size + 1, 0, none⟩ = some (.int .i64 a) ∧ w'.cell? ⟨w.heap.size + 1, 1, none⟩ = some (.int .i64 b) ∧ w'.cell? ⟨w.heap.size + 1, 2, none⟩ = some (.int .i64 c))) (by kernel_rfl) ⟨(by first | (simp (maxDischargeDepth := 6) [go_sem, *]; done)), (by first | (simp (maxDischargeDepth := 6) [go_sem, *]; done)), (by first | (simp (maxDischargeDepth := 6) [go_sem, *]; done))⟩ (fun hHeld => ?_)
  refine wpAnyH_take (i := 0) (v := ?_) (by simp only [List.getElem?_toArray, List.getElem?_cons_succ, List.getElem?_cons_zero]; rfl) (by kernel_rfl) (by kernel_rfl) (by kernel_rfl) (fun _ _ _ h => h) (Or.inl ⟨by rfl, ?_⟩) (by assumption) ?_
  rotate_left
  · intro w hSw; (try dsimp only at hSw); go_simp; try with_reducible rfl
  try simp only [Act.put, List.setIfInBounds_toArray, List.set_cons_zero, List.set_cons_succ]
  refine wpAnyH_take (i := 1) (v := ?_) (by simp only [List.getElem?_toArray, List.getElem?_cons_succ, List.getElem?_cons_zero]; rfl) (by kernel_rfl) (by kernel_rfl) (by kernel_rfl) (fun _ _ _ h => h) (Or.inl ⟨by rfl, ?_⟩) (by assumption) ?_
  rotate_left
  · intro w hSw; (try dsimp only at hSw); go_simp; try with_reducible rfl
  try simp only [Act.put, List.setIfInBounds_toArray, List.set_cons_zero, List.set_cons_succ]
  refine wpAnyH_take (i := 2) (v := ?_) (by simp only [List.getElem?_toArray, List.getElem?_cons_succ, List.getElem?_cons_zero]; rfl) (by kernel_rfl) (by kernel_rfl) (by kernel_rfl) (fun _ _ _ h => h) (Or.inl ⟨by rfl, ?_⟩) (by assumption) ?_
  rotate_left
  · intro w hSw; (try dsimp only at hSw); go_simp; try with_reducible rfl
  try simp only [Act.put, List.setIfInBounds_toArray, List.set_cons_zero, List.set_cons_succ]
  refine wpAnyH_take (i := 3) (v := ?_) (by simp only [List.getElem?_toArray, List.getElem?_cons_succ, List.getElem?_cons_zero]; rfl) (by kernel_rfl) (by kernel_rfl) (by kernel_rfl) (fun _ _ _ h => h) (Or.inr ⟨by rfl, by rfl⟩) (by assumption) ?_
  try simp only [Act.put, List.setIfInBounds_toArray, List.set_cons_zero, List.set_cons_succ]
  refine wpAnyH_take (i := 5) (v := ?_) (by simp only [List.getElem?_toArray, List.getElem?_cons_succ, List.getElem?_cons_zero]; rfl) (by kernel_rfl) (by kernel_rfl) (by kernel_rfl) (fun _ _ _ h => h) (Or.inr ⟨by rfl, by rfl⟩) (by assumption) ?_
  try simp only [Act.put, List.setIfInBounds_toArray, List.set_cons_zero, List.set_cons_succ]
  have hOld := hHeld; clear hHeld
  refine wpAnyH_ready (rs := [4]) (by kernel_rfl) (by simp) (AllReadyH.cons rfl (fun K hK => ?_) AllReadyH.nil)
  go_simp
  refine hK.out _ _ hOld (fun hHeld => ?_)
  clear hK K hOld
  try simp only [Act.put, List.setIfInBounds_toArray, List.set_cons_zero, List.set_cons_succ]
  refine wpAnyH_take (i := 6) (v := ?_) (by simp only [List.getElem?_toArray, List.getElem?_cons_succ, List.getElem?_cons_zero]; rfl) (by kernel_rfl) (by kernel_rfl) (by kernel_rfl) (fun _ _ _ h => h) (Or.inr ⟨by rfl, by rfl⟩) (by assumption) ?_
  try simp only [Act.put, List.setIfInBounds_toArray, List.set_cons_zero, List.set_cons_succ]
  refine wpAnyH_take (i := 7) (v := ?_) (by simp only [List.getElem?_toArray, List.getElem?_cons_succ, List.getElem?_cons_zero]; rfl) (by kernel_rfl) (by kernel_rfl) (by kernel_rfl) (fun _ _ _ h => h) (Or.inl ⟨by rfl, ?_⟩) (by assumption) ?_
  rotate_left
  · intro w hSw; (try dsimp only at hSw); go_simp; try with_reducible rfl
  try simp only [Act.put, List.setIfInBounds_toArray, List.set_cons_zero, List.set_cons_succ]
  refine wpAnyH_done (by kernel_rfl) ?_ _
  (try refine NoPanic.normal ?_)
  (try clear q0); (try clear q1); (try clear q2); obtain ⟨q0, q1, q2⟩ := hHeld
  go_wp2_with ((go_at_call 15; (with_reducible refine (cAwake6 _).mono ?_); rintro e w1 ⟨rfl, hM⟩))
  go_ret
  exact ⟨rfl, by first | exact below_step HB hM | (repeat (first | with_reducible assumption | with_reducible exact Below.refl _ _ | ((with_reducible refine Below.setCell ?_ ?_ _); rotate_left; (first | exact Nat.le_refl _ | (dsimp only; omega) | (simp; done) | (simp; omega))) | with_reducible refine below_alloc ?_ _ | with_reducible apply below_drewN | with_reducible apply Below.drew | with_reducible refine below_step ?_ (by assumption)))⟩
  | true =>
  have hu := hu rfl
  rcases Classical.em (clm a (-4398046511104) 4398046511104 = a ∧ clm b (-4398046511104) 4398046511104 = b ∧ clm c (-4398046511104) 4398046511104 = c) with hcl | hcl
  simp only [hcl.1, hcl.2.1, hcl.2.2] at k2
  (try refine wp_region_noPanic ?_)
  refine wp_region_held_drew (S := (fun (w' : World) => w'.cell? ⟨w.heap.size + 1, 0, none⟩ = some (.int .i64 a) ∧ w'.cell? ⟨w.heap.size + 1, 1, none⟩ = some (.int .i64 b) ∧ w'.cell? ⟨w.heap.size + 1, 2, none⟩ = some (.int .i64 c))) (by kernel_rfl) ⟨(by first | (simp (maxDischargeDepth := 6) [go_sem, *]; done)), (by first | (simp (maxDischargeDepth := 6) [go_sem, *]; done)), (by first | (simp (maxDischargeDepth := 6) [go_sem, *]; done))⟩ (fun hHeld => ?_)
  refine wpAnyH_take (i := 0) (v := ?_) (by simp only [List.getElem?_toArray, List.getElem?_cons_succ, List.getElem?_cons_zero]; rfl) (by kernel_rfl) (by kernel_rfl) (by kernel_rfl) (fun _ _ _ h => h) (Or.inl ⟨by rfl, ?_⟩) (by assumption) ?_
  rotate_left
  · intro w hSw; (try dsimp only at hSw); go_simp; try with_reducible rfl
  try simp only [Act.put, List.setIfInBounds_toArray, List.set_cons_zero, List.set_cons_succ]
  refine wpAnyH_take (i := 1) (v := ?_) (by simp only [List.getElem?_toArray, List.getElem?_cons_succ, List.getElem?_cons_zero]; rfl) (by kernel_rfl) (by kernel_rfl) (by kernel_rfl) (fun _ _ _ h => h) (Or.inl ⟨by rfl, ?_⟩) (by assumption) ?_
  rotate_left
  · intro w hSw; (try dsimp only at hSw); go_simp; try with_reducible rfl
  try simp only [Act.put, List.setIfInBounds_toArray, List.set_cons_zero, List.set_cons_succ]
  refine wpAnyH_take (i := 2) (v := ?_) (by simp only [List.getElem?_toArray, List.getElem?_cons_succ, List.getElem?_cons_zero]; rfl) (by kernel_rfl) (by kernel_rfl) (by kernel_rfl) (fun _ _ _ h => h) (Or.inl ⟨by rfl, ?_⟩) (by assumption) ?_
  rotate_left
  · intro w hSw; (try dsimp only at hSw); go_simp; try with_reducible rfl
  try simp only [Act.put, List.setIfInBounds_toArray, List.set_cons_zero, List.set_cons_succ]
  refine wpAnyH_take (i := 3) (v := ?_) (by simp only [List.getElem?_toArray, List.getElem?_cons_succ, List.getElem?_cons_zero]; rfl) (by kernel_rfl) (by kernel_rfl) (by kernel_rfl) (fun _ _ _ h => h) (Or.inl ⟨by rfl, ?_⟩) (by assumption) ?_
  rotate_left
  · intro w hSw; (try dsimp only at hSw); go_simp; try with_reducible rfl
  try simp only [Act.put, List.setIfInBounds_toArray, List.set_cons_zero, List.set_cons_succ]
  refine wpAnyH_take (i := 5) (v := ?_) (by simp only [List.getElem?_toArray, List.getElem?_cons_succ, List.getElem?_cons_zero]; rfl) (by kernel_rfl) (by kernel_rfl) (by kernel_rfl) (fun _ _ _ h => h) (Or.inl ⟨by rfl, ?_⟩) (by assumption) ?_
  rotate_left
  · intro w hSw; (try dsimp only at hSw); go_simp; try with_reducible rfl
  try simp only [Act.put, List.setIfInBounds_toArray, List.set_cons_zero, List.set_cons_succ]
  have hOld := hHeld; clear hHeld
  refine wpAnyH_ready (rs := [4]) (by kernel_rfl) (by simp) (AllReadyH.cons rfl (fun K hK => ?_) AllReadyH.nil)
  go_simp
  (go_at_call 21; (with_reducible refine (k2 _).mono ?_); rintro e w1 ⟨rfl, hM⟩)
  (try go_wp2_with (fail))
  refine hK.out _ _ ⟨(by first | exact mv_cell hM (by first | (dsimp only; omega) | (simp; omega)) hOld.1 | exact cell_later hM hOld.1 | exact HT.cb | exact HT.cc | (simp (maxDischargeDepth := 6) [go_sem, *]; done)), (by first | exact mv_cell hM (by first | (dsimp only; omega) | (simp; omega)) hOld.2.1 | exact cell_later hM hOld.2.1 | exact HT.cb | exact HT.cc | (simp (maxDischargeDepth := 6) [go_sem, *]; done)), (by first | exact mv_cell hM (by first | (dsimp only; omega) | (simp; omega)) hOld.2.2 | exact cell_later hM hOld.2.2 | exact HT.cb | exact HT.cc | (simp (maxDischargeDepth := 6) [go_sem, *]; done))⟩ (fun hHeld => ?_)
  clear hK K hOld
  try simp only [Act.put, List.setIfInBounds_toArray, List.set_cons_zero, List.set_cons_succ]
  have HB := below_step (HB.drew) hM
  refine wpAnyH_take (i := 6) (v := ?_) (by simp only [List.getElem?_toArray, List.getElem?_cons_succ, List.getElem?_cons_zero]; rfl) (by kernel_rfl) (by kernel_rfl) (by kernel_rfl) (fun _ _ _ h => h) (Or.inl ⟨by rfl, ?_⟩) (by assumption) ?_
  rotate_left
  · intro w hSw; (try dsimp only at hSw); go_simp; try with_reducible rfl
  try simp only [Act.put, List.setIfInBounds_toArray, List.set_cons_zero, List.set_cons_succ]
  refine wpAnyH_take (i := 7) (v := ?_) (by simp only [List.getElem?_toArray, List.getElem?_cons_succ, List.getElem?_cons_zero]; rfl) (by kernel_rfl) (by kernel_rfl) (by kernel_rfl) (fun _ _ _ h => h) (Or.inl ⟨by rfl, ?_⟩) (by assumption) ?_
  rotate_left
  · intro w hSw; (try dsimp only at hSw); go_simp; try with_reducible rfl
  try simp only [Act.put, List.setIfInBounds_toArray, List.set_cons_zero, List.set_cons_succ]
  refine wpAnyH_done (by kernel_rfl) ?_ _
  (try refine NoPanic.normal ?_)
  (try clear q0); (try clear q1); (try clear q2); obtain ⟨q0, q1, q2⟩ := hHeld
  have bd : ∀ v : Int, clm v (-4398046511104) 4398046511104 = v → -4398046511104 ≤ v ∧ v ≤ 4398046511104 := by intro v; unfold clm; split <;> (try split) <;> omega
  obtain ⟨p0, p1, p2, p3, E0, E1⟩ := hu trivial
  obtain ⟨r0, r1, r2, r3, r4, r5, r6, r7, r8, t0, t1, t2, ⟨m0, m1, m2, m3, m4, m5, m6, m7, m8⟩, ⟨f0, f1, f2, f3, f4, f5, f6, f7, f8⟩, hr, ⟨s0, s1, s2⟩, ⟨d0, d1, d2⟩, ⟨l0, l1⟩, g0, g1⟩ := kp_all u0 u1 u2 u3 a b c p0 p1 p2 p3 E0 E1 (bd a hcl.1) (bd b hcl.2.1) (bd c hcl.2.2)
  have y0 := cell_later (w := W2.drew) hM y0
  have y1 := cell_later (w := W2.drew) hM y1
  have y2 := cell_later (w := W2.drew) hM y2
  have y3 := cell_later (w := W2.drew) hM y3
  rename World => g
  clear hM k2 bd
  go_upto_region 5 with (fail)
  generalize hW : World.alloc _ _ = W4
  have HM : Mv g.heap.size false W4 W4 := by rw [← hW]; exact Mv.refl (by simp [go_sem]) (by simp [go_sem])
  have HB : Below w.heap.size w W4 := by rw [← hW]; exact HB.alloc HB.size _
  have hz : W4.heap.size = g.heap.size + 1 := by rw [← hW]; simp
  have hlt : w.heap.size + 1 < g.heap.size := World.block_lt_of_cell? g _ q0
  have hlt2 : w1.heap.size < g.heap.size := World.block_lt_of_cell? g _ y0
  have q0 : W4.cell? ⟨w.heap.size + 1, 0, none⟩ = some (.int .i64 a) := by rw [← hW]; exact cell_later ((Below.refl _ _).alloc (Nat.le_refl _) _) q0
  have q1 : W4.cell? ⟨w.heap.size + 1, 1, none⟩ = some (.int .i64 b) := by rw [← hW]; exact cell_later ((Below.refl _ _).alloc (Nat.le_refl _) _) q1
  have q2 : W4.cell? ⟨w.heap.size + 1, 2, none⟩ = some (.int .i64 c) := by rw [← hW]; exact cell_later ((Below.refl _ _).alloc (Nat.le_refl _) _) q2
  have y0 : W4.cell? ⟨w1.heap.size, 0, none⟩ = some (.int .i64 u0) := by rw [← hW]; exact cell_later ((Below.refl _ _).alloc (Nat.le_refl _) _) y0
  have y1 : W4.cell? ⟨w1.heap.size, 1, none⟩ = some (.int .i64 u1) := by rw [← hW]; exact cell_later ((Below.refl _ _).alloc (Nat.le_refl _) _) y1
  have y2 : W4.cell? ⟨w1.heap.size, 2, none⟩ = some (.int .i64 u2) := by rw [← hW]; exact cell_later ((Below.refl _ _).alloc (Nat.le_refl _) _) y2
  have y3 : W4.cell? ⟨w1.heap.size, 3, none⟩ = some (.int .i64 u3) := by rw [← hW]; exact cell_later ((Below.refl _ _).alloc (Nat.le_refl _) _) y3
  clear hW
  have t0_0 : -9223372036854775808 ≤ t0 := by rw [← s0]; unfold dt; exact sat_lo _
  have t0_1 : t0 ≤ 9223372036854775807 := by rw [← s0]; unfold dt; exact sat_hi _
  have t1_0 : -9223372036854775808 ≤ t1 := by rw [← s1]; unfold dt; exact sat_lo _
  have t1_1 : t1 ≤ 9223372036854775807 := by rw [← s1]; unfold dt; exact sat_hi _
  have t2_0 : -9223372036854775808 ≤ t2 := by rw [← s2]; unfold dt; exact sat_lo _
  have t2_1 : t2 ≤ 9223372036854775807 := by rw [← s2]; unfold dt; exact sat_hi _
  have k3 := fun O W => cMatrix u0 u1 u2 u3 g.heap.size O W (by omega) (by omega) (by omega) (by omega) (by omega) (by omega) (by omega) (by omega)
  simp only [m0, m1, m2, m3, m4, m5, m6, m7, m8, f0, f1, f2, f3, f4, f5, f6, f7, f8, Bool.not_true, Bool.or_false] at k3
  have k4 := fun O W => cApply r0 r1 r2 r3 r4 r5 r6 r7 r8 a b c g.heap.size O W (by omega) (by omega) (by omega) (by omega) (by omega) (by omega) (by omega) (by omega) (by omega) (by omega) (by omega) (by omega) (by omega) (by omega) (by omega) (by omega) (by omega) (by omega) a_0 a_1 b_0 b_1 c_0 c_1
  simp only [s0, s1, s2, d0, d1, d2, Bool.not_true, Bool.or_false] at k4
  have k5 := fun O W => cVLen t0 t1 t2 g.heap.size O W t0_0 t0_1 t1_0 t1_1 t2_0 t2_1
  have k6 := fun O W => cVLen a b c g.heap.size O W a_0 a_1 b_0 b_1 c_0 c_1
  simp only [l0, l1, Bool.not_true, Bool.or_false] at k5 k6
  have k7 := fun O W => cFSub (ln (t0 * t0 + t1 * t1 + t2 * t2)) (ln (a * a + b * b + c * c)) g.heap.size O W (by have := ln_lo (t0 * t0 + t1 * t1 + t2 * t2); omega) (ln_hi _) (by have := ln_lo (a * a + b * b + c * c); omega) (ln_hi _)
  generalize ln (t0 * t0 + t1 * t1 + t2 * t2) = lt at *
  generalize ln (a * a + b * b + c * c) = lv at *
  rw [sat_id6 (lt - lv) (by omega) (by omega), fx_id6 (lt - lv) (by omega) (by omega)] at k7
  generalize w1.heap.size = z9 at *
  (try refine wp_region_noPanic ?_)
  refine wp_region_ssa (S := (fun (w' : World) => w'.cell? ⟨w.heap.size + 1, 0, none⟩ = some (.int .i64 a) ∧ w'.cell? ⟨w.heap.size + 1, 1, none⟩ = some (.int .i64 b) ∧ w'.cell? ⟨w.heap.size + 1, 2, none⟩ = some (.int .i64 c) ∧ w'.cell? ⟨z9, 0, none⟩ = some (.int .i64 u0) ∧ w'.cell? ⟨z9, 1, none⟩ = some (.int .i64 u1) ∧ w'.cell? ⟨z9, 2, none⟩ = some (.int .i64 u2) ∧ w'.cell? ⟨z9, 3, none⟩ = some (.int .i64 u3))) (#[none, none, none, none, none, none, none, none, some 13, none, none, none, none, none, none, none, none, none, none, none, none, none, none, none, none, some 0, some 1, some 2, some 3, some 4, some 5, some 6, some 7, some 8, some 9, some 10, some 11, some 12] : Array (Option Nat)) (by kernel_rfl) (by kernel_rfl) (by kernel_rfl) ⟨(by first | (simp (maxDischargeDepth := 6) [go_sem, *]; done)), (by first | (simp (maxDischargeDepth := 6) [go_sem, *]; done)), (by first | (simp (maxDischargeDepth := 6) [go_sem, *]; done)), (by first | (simp (maxDischargeDepth := 6) [go_sem, *]; done)), (by first | (simp (maxDischargeDepth := 6) [go_sem, *]; done)), (by first | (simp (maxDischargeDepth := 6) [go_sem, *]; done)), (by first | (simp (maxDischargeDepth := 6) [go_sem, *]; done))⟩ (fun hSSA hHeld => ?_)
  refine wpAnyH_sl (n := 6) (l' := (#[true, true, true, true, true, false, true, false, false, true, true, false, false, false] : Array Bool)) [0, 1, 2, 3, 4, 6, 9, 10] [some 25, some 26, some 27, some 28, some 29, some 31, some 34, some 35] hSSA (
    LvY.take (by rfl) (by intro w hSw; (try dsimp only at hSw); go_simp; try with_reducible rfl) <|
    LvY.take (by rfl) (by intro w hSw; (try dsimp only at hSw); go_simp; try with_reducible rfl) <|
    LvY.take (by rfl) (by intro w hSw; (try dsimp only at hSw); go_simp; try with_reducible rfl) <|
    LvY.take (by rfl) (by intro w hSw; (try dsimp only at hSw); go_simp; try with_reducible rfl) <|
    LvY.take (by rfl) (by intro w hSw; (try dsimp only at hSw); go_simp; try with_reducible rfl) <|
    LvY.skip <|
    LvY.take (by rfl) (by intro w hSw; (try dsimp only at hSw); go_simp; try with_reducible rfl) <|
    LvY.skip <|
    LvY.skip <|
    LvY.take (by rfl) (by intro w hSw; (try dsimp only at hSw); go_simp; try with_reducible rfl) <|
    LvY.take (by rfl) (by intro w hSw; (try dsimp only at hSw); go_simp; try with_reducible rfl) <|
    LvY.skip <|
    LvY.skip <|
    LvY.skip <|
    LvY.nil) (by rfl) (by rfl) (by kernel_rfl) (fun _ _ _ _ _ h => h) (by kernel_rfl) (by kernel_rfl) (by kernel_rfl) (by assumption) ?_
  simp only [lvVs, putDs, Act.put, List.setIfInBounds_toArray, List.set_cons_zero, List.set_cons_succ]
  have hOld := hHeld; clear hHeld
  refine wpAnyH_on (i := 5) (n := 5) (l' := (#[true, true, true, true, true, true, true, false, false, true, true, false, false, false] : Array Bool)) (by kernel_rfl) (by kernel_rfl) (by kernel_rfl) (by simp only [List.getElem?_toArray, List.getElem?_cons_succ, List.getElem?_cons_zero]; rfl) (by rfl) (fun K hK => ?_)
  go_simp
  (go_at_call 9; (with_reducible refine (mvCall (b := g.heap.size) (w0 := W4) (by (repeat (first | with_reducible assumption | with_reducible exact Mv.refl (by assumption) (by assumption) | with_reducible apply Mv.alloc | with_reducible apply Mv.drew | with_reducible apply Mv.drewN | ((with_reducible apply Mv.setCell); rotate_left; (first | (dsimp only; omega) | omega | (simp; omega)); (first | (dsimp only; omega) | omega | (simp; omega))) | ((with_reducible apply Mv.below); rotate_left; (with_reducible assumption)) | ((with_reducible apply Mv.trans); rotate_left; (with_reducible assumption))))) (k3 _ _)).mono ?_); rintro e w1 ⟨rfl, hM, HM⟩)
  (try go_wp2_with (fail))
  refine hK.out _ _ ⟨(by first | exact mv_cell hM (by first | (dsimp only; omega) | (simp; omega)) hOld.1 | exact cell_later hM hOld.1 | exact HT.cb | exact HT.cc | (simp (maxDischargeDepth := 6) [go_sem, *]; done)), (by first | exact mv_cell hM (by first | (dsimp only; omega) | (simp; omega)) hOld.2.1 | exact cell_later hM hOld.2.1 | exact HT.cb | exact HT.cc | (simp (maxDischargeDepth := 6) [go_sem, *]; done)), (by first | exact mv_cell hM (by first | (dsimp only; omega) | (simp; omega)) hOld.2.2.1 | exact cell_later hM hOld.2.2.1 | exact HT.cb | exact HT.cc | (simp (maxDischargeDepth := 6) [go_sem, *]; done)), (by first | exact mv_cell hM (by first | (dsimp only; omega) | (simp; omega)) hOld.2.2.2.1 | exact cell_later hM hOld.2.2.2.1 | exact HT.cb | exact HT.cc | (simp (maxDischargeDepth := 6) [go_sem, *]; done)), (by first | exact mv_cell hM (by first | (dsimp only; omega) | (simp; omega)) hOld.2.2.2.2.1 | exact cell_later hM hOld.2.2.2.2.1 | exact HT.cb | exact HT.cc | (simp (maxDischargeDepth := 6) [go_sem, *]; done)), (by first | exact mv_cell hM (by first | (dsimp only; omega) | (simp; omega)) hOld.2.2.2.2.2.1 | exact cell_later hM hOld.2.2.2.2.2.1 | exact HT.cb | exact HT.cc | (simp (maxDischargeDepth := 6) [go_sem, *]; done)), (by first | exact mv_cell hM (by first | (dsimp only; omega) | (simp; omega)) hOld.2.2.2.2.2.2 | exact cell_later hM hOld.2.2.2.2.2.2 | exact HT.cb | exact HT.cc | (simp (maxDischargeDepth := 6) [go_sem, *]; done))⟩ (fun hHeld => ?_)
  clear hK K hOld
  try simp only [Act.put, List.setIfInBounds_toArray, List.set_cons_zero, List.set_cons_succ]
  have hOld := hHeld; clear hHeld
  refine wpAnyH_on (i := 7) (n := 4) (l' := (#[true, true, true, true, true, true, true, true, false, true, true, false, false, false] : Array Bool)) (by kernel_rfl) (by kernel_rfl) (by kernel_rfl) (by simp only [List.getElem?_toArray, List.getElem?_cons_succ, List.getElem?_cons_zero]; rfl) (by rfl) (fun K hK => ?_)
  go_simp
  (go_at_call 11; (with_reducible refine (mvCall (b := g.heap.size) (w0 := W4) (by (repeat (first | with_reducible assumption | with_reducible exact Mv.refl (by assumption) (by assumption) | with_reducible apply Mv.alloc | with_reducible apply Mv.drew | with_reducible apply Mv.drewN | ((with_reducible apply Mv.setCell); rotate_left; (first | (dsimp only; omega) | omega | (simp; omega)); (first | (dsimp only; omega) | omega | (simp; omega))) | ((with_reducible apply Mv.below); rotate_left; (with_reducible assumption)) | ((with_reducible apply Mv.trans); rotate_left; (with_reducible assumption))))) (k4 _ _)).mono ?_); rintro e w1 ⟨rfl, hM, HM⟩)
  (try go_wp2_with (fail))
  refine hK.out _ _ ⟨(by first | exact mv_cell hM (by first | (dsimp only; omega) | (simp; omega)) hOld.1 | exact cell_later hM hOld.1 | exact HT.cb | exact HT.cc | (simp (maxDischargeDepth := 6) [go_sem, *]; done)), (by first | exact mv_cell hM (by first | (dsimp only; omega) | (simp; omega)) hOld.2.1 | exact cell_later hM hOld.2.1 | exact HT.cb | exact HT.cc | (simp (maxDischargeDepth := 6) [go_sem, *]; done)), (by first | exact mv_cell hM (by first | (dsimp only; omega) | (simp; omega)) hOld.2.2.1 | exact cell_later hM hOld.2.2.1 | exact HT.cb | exact HT.cc | (simp (maxDischargeDepth := 6) [go_sem, *]; done)), (by first | exact mv_cell hM (by first | (dsimp only; omega) | (simp; omega)) hOld.2.2.2.1 | exact cell_later hM hOld.2.2.2.1 | exact HT.cb | exact HT.cc | (simp (maxDischargeDepth := 6) [go_sem, *]; done)), (by first | exact mv_cell hM (by first | (dsimp only; omega) | (simp; omega)) hOld.2.2.2.2.1 | exact cell_later hM hOld.2.2.2.2.1 | exact HT.cb | exact HT.cc | (simp (maxDischargeDepth := 6) [go_sem, *]; done)), (by first | exact mv_cell hM (by first | (dsimp only; omega) | (simp; omega)) hOld.2.2.2.2.2.1 | exact cell_later hM hOld.2.2.2.2.2.1 | exact HT.cb | exact HT.cc | (simp (maxDischargeDepth := 6) [go_sem, *]; done)), (by first | exact mv_cell hM (by first | (dsimp only; omega) | (simp; omega)) hOld.2.2.2.2.2.2 | exact cell_later hM hOld.2.2.2.2.2.2 | exact HT.cb | exact HT.cc | (simp (maxDischargeDepth := 6) [go_sem, *]; done))⟩ (fun hHeld => ?_)
  clear hK K hOld
  try simp only [Act.put, List.setIfInBounds_toArray, List.set_cons_zero, List.set_cons_succ]
  have hOld := hHeld; clear hHeld
  refine wpAnyH_on (i := 8) (n := 3) (l' := (#[true, true, true, true, true, true, true, true, true, true, true, false, false, false] : Array Bool)) (by kernel_rfl) (by kernel_rfl) (by kernel_rfl) (by simp only [List.getElem?_toArray, List.getElem?_cons_succ, List.getElem?_cons_zero]; rfl) (by rfl) (fun K hK => ?_)
  go_simp
  (go_at_call 23; (with_reducible refine (mvCall (b := g.heap.size) (w0 := W4) (by (repeat (first | with_reducible assumption | with_reducible exact Mv.refl (by assumption) (by assumption) | with_reducible apply Mv.alloc | with_reducible apply Mv.drew | with_reducible apply Mv.drewN | ((with_reducible apply Mv.setCell); rotate_left; (first | (dsimp only; omega) | omega | (simp; omega)); (first | (dsimp only; omega) | omega | (simp; omega))) | ((with_reducible apply Mv.below); rotate_left; (with_reducible assumption)) | ((with_reducible apply Mv.trans); rotate_left; (with_reducible assumption))))) (k5 _ _)).mono ?_); rintro e w1 ⟨rfl, hM, HM⟩)
  (try go_wp2_with (fail))
  refine hK.out _ _ ⟨(by first | exact mv_cell hM (by first | (dsimp only; omega) | (simp; omega)) hOld.1 | exact cell_later hM hOld.1 | exact HT.cb | exact HT.cc | (simp (maxDischargeDepth := 6) [go_sem, *]; done)), (by first | exact mv_cell hM (by first | (dsimp only; omega) | (simp; omega)) hOld.2.1 | exact cell_later hM hOld.2.1 | exact HT.cb | exact HT.cc | (simp (maxDischargeDepth := 6) [go_sem, *]; done)), (by first | exact mv_cell hM (by first | (dsimp only; omega) | (simp; omega)) hOld.2.2.1 | exact cell_later hM hOld.2.2.1 | exact HT.cb | exact HT.cc | (simp (maxDischargeDepth := 6) [go_sem, *]; done)), (by first | exact mv_cell hM (by first | (dsimp only; omega) | (simp; omega)) hOld.2.2.2.1 | exact cell_later hM hOld.2.2.2.1 | exact HT.cb | exact HT.cc | (simp (maxDischargeDepth := 6) [go_sem, *]; done)), (by first | exact mv_cell hM (by first | (dsimp only; omega) | (simp; omega)) hOld.2.2.2.2.1 | exact cell_later hM hOld.2.2.2.2.1 | exact HT.cb | exact HT.cc | (simp (maxDischargeDepth := 6) [go_sem, *]; done)), (by first | exact mv_cell hM (by first | (dsimp only; omega) | (simp; omega)) hOld.2.2.2.2.2.1 | exact cell_later hM hOld.2.2.2.2.2.1 | exact HT.cb | exact HT.cc | (simp (maxDischargeDepth := 6) [go_sem, *]; done)), (by first | exact mv_cell hM (by first | (dsimp only; omega) | (simp; omega)) hOld.2.2.2.2.2.2 | exact cell_later hM hOld.2.2.2.2.2.2 | exact HT.cb | exact HT.cc | (simp (maxDischargeDepth := 6) [go_sem, *]; done))⟩ (fun hHeld => ?_)
  clear hK K hOld
  try simp only [Act.put, List.setIfInBounds_toArray, List.set_cons_zero, List.set_cons_succ]
  have hOld := hHeld; clear hHeld
  refine wpAnyH_on (i := 11) (n := 2) (l' := (#[true, true, true, true, true, true, true, true, true, true, true, true, false, false] : Array Bool)) (by kernel_rfl) (by kernel_rfl) (by kernel_rfl) (by simp only [List.getElem?_toArray, List.getElem?_cons_succ, List.getElem?_cons_zero]; rfl) (by rfl) (fun K hK => ?_)
  go_simp
  (go_at_call 23; (with_reducible refine (mvCall (b := g.heap.size) (w0 := W4) (by (repeat (first | with_reducible assumption | with_reducible exact Mv.refl (by assumption) (by assumption) | with_reducible apply Mv.alloc | with_reducible apply Mv.drew | with_reducible apply Mv.drewN | ((with_reducible apply Mv.setCell); rotate_left; (first | (dsimp only; omega) | omega | (simp; omega)); (first | (dsimp only; omega) | omega | (simp; omega))) | ((with_reducible apply Mv.below); rotate_left; (with_reducible assumption)) | ((with_reducible apply Mv.trans); rotate_left; (with_reducible assumption))))) (k6 _ _)).mono ?_); rintro e w1 ⟨rfl, hM, HM⟩)
  (try go_wp2_with (fail))
  refine hK.out _ _ ⟨(by first | exact mv_cell hM (by first | (dsimp only; omega) | (simp; omega)) hOld.1 | exact cell_later hM hOld.1 | exact HT.cb | exact HT.cc | (simp (maxDischargeDepth := 6) [go_sem, *]; done)), (by first | exact mv_cell hM (by first | (dsimp only; omega) | (simp; omega)) hOld.2.1 | exact cell_later hM hOld.2.1 | exact HT.cb | exact HT.cc | (simp (maxDischargeDepth := 6) [go_sem, *]; done)), (by first | exact mv_cell hM (by first | (dsimp only; omega) | (simp; omega)) hOld.2.2.1 | exact cell_later hM hOld.2.2.1 | exact HT.cb | exact HT.cc | (simp (maxDischargeDepth := 6) [go_sem, *]; done)), (by first | exact mv_cell hM (by first | (dsimp only; omega) | (simp; omega)) hOld.2.2.2.1 | exact cell_later hM hOld.2.2.2.1 | exact HT.cb | exact HT.cc | (simp (maxDischargeDepth := 6) [go_sem, *]; done)), (by first | exact mv_cell hM (by first | (dsimp only; omega) | (simp; omega)) hOld.2.2.2.2.1 | exact cell_later hM hOld.2.2.2.2.1 | exact HT.cb | exact HT.cc | (simp (maxDischargeDepth := 6) [go_sem, *]; done)), (by first | exact mv_cell hM (by first | (dsimp only; omega) | (simp; omega)) hOld.2.2.2.2.2.1 | exact cell_later hM hOld.2.2.2.2.2.1 | exact HT.cb | exact HT.cc | (simp (maxDischargeDepth := 6) [go_sem, *]; done)), (by first | exact mv_cell hM (by first | (dsimp only; omega) | (simp; omega)) hOld.2.2.2.2.2.2 | exact cell_later hM hOld.2.2.2.2.2.2 | exact HT.cb | exact HT.cc | (simp (maxDischargeDepth := 6) [go_sem, *]; done))⟩ (fun hHeld => ?_)
  clear hK K hOld
  try simp only [Act.put, List.setIfInBounds_toArray, List.set_cons_zero, List.set_cons_succ]
  have hOld := hHeld; clear hHeld
  refine wpAnyH_on (i := 12) (n := 1) (l' := (#[true, true, true, true, true, true, true, true, true, true, true, true, true, false] : Array Bool)) (by kernel_rfl) (by kernel_rfl) (by kernel_rfl) (by simp only [List.getElem?_toArray, List.getElem?_cons_succ, List.getElem?_cons_zero]; rfl) (by rfl) (fun K hK => ?_)
  go_simp
  (go_at_call 22; (with_reducible refine (mvCall (b := g.heap.size) (w0 := W4) (by (repeat (first | with_reducible assumption | with_reducible exact Mv.refl (by assumption) (by assumption) | with_reducible apply Mv.alloc | with_reducible apply Mv.drew | with_reducible apply Mv.drewN | ((with_reducible apply Mv.setCell); rotate_left; (first | (dsimp only; omega) | omega | (simp; omega)); (first | (dsimp only; omega) | omega | (simp; omega))) | ((with_reducible apply Mv.below); rotate_left; (with_reducible assumption)) | ((with_reducible apply Mv.trans); rotate_left; (with_reducible assumption))))) (k7 _ _)).mono ?_); rintro e w1 ⟨rfl, hM, HM⟩)
  (try go_wp2_with (fail))
  refine hK.out _ _ ⟨(by first | exact mv_cell hM (by first | (dsimp only; omega) | (simp; omega)) hOld.1 | exact cell_later hM hOld.1 | exact HT.cb | exact HT.cc | (simp (maxDischargeDepth := 6) [go_sem, *]; done)), (by first | exact mv_cell hM (by first | (dsimp only; omega) | (simp; omega)) hOld.2.1 | exact cell_later hM hOld.2.1 | exact HT.cb | exact HT.cc | (simp (maxDischargeDepth := 6) [go_sem, *]; done)), (by first | exact mv_cell hM (by first | (dsimp only; omega) | (simp; omega)) hOld.2.2.1 | exact cell_later hM hOld.2.2.1 | exact HT.cb | exact HT.cc | (simp (maxDischargeDepth := 6) [go_sem, *]; done)), (by first | exact mv_cell hM (by first | (dsimp only; omega) | (simp; omega)) hOld.2.2.2.1 | exact cell_later hM hOld.2.2.2.1 | exact HT.cb | exact HT.cc | (simp (maxDischargeDepth := 6) [go_sem, *]; done)), (by first | exact mv_cell hM (by first | (dsimp only; omega) | (simp; omega)) hOld.2.2.2.2.1 | exact cell_later hM hOld.2.2.2.2.1 | exact HT.cb | exact HT.cc | (simp (maxDischargeDepth := 6) [go_sem, *]; done)), (by first | exact mv_cell hM (by first | (dsimp only; omega) | (simp; omega)) hOld.2.2.2.2.2.1 | exact cell_later hM hOld.2.2.2.2.2.1 | exact HT.cb | exact HT.cc | (simp (maxDischargeDepth := 6) [go_sem, *]; done)), (by first | exact mv_cell hM (by first | (dsimp only; omega) | (simp; omega)) hOld.2.2.2.2.2.2 | exact cell_later hM hOld.2.2.2.2.2.2 | exact HT.cb | exact HT.cc | (simp (maxDischargeDepth := 6) [go_sem, *]; done))⟩ (fun hHeld => ?_)
  clear hK K hOld
  try simp only [Act.put, List.setIfInBounds_toArray, List.set_cons_zero, List.set_cons_succ]
  refine wpAnyH_sl (n := 0) (l' := (#[true, true, true, true, true, true, true, true, true, true, true, true, true, true] : Array Bool)) [13] [some 8] hSSA (
    LvY.skip <|
    LvY.skip <|
    LvY.skip <|
    LvY.skip <|
    LvY.skip <|
    LvY.skip <|
    LvY.skip <|
    LvY.skip <|
    LvY.skip <|
    LvY.skip <|
    LvY.skip <|
    LvY.skip <|
    LvY.skip <|
    LvY.take (by rfl) (by intro w hSw; (try dsimp only at hSw); go_simp; try with_reducible rfl) <|
    LvY.nil) (by rfl) (by rfl) (by kernel_rfl) (fun _ _ _ _ _ h => h) (by kernel_rfl) (by kernel_rfl) (by kernel_rfl) (by assumption) ?_
  simp only [lvVs, putDs, Act.put, List.setIfInBounds_toArray, List.set_cons_zero, List.set_cons_succ]
  refine wpAnyH_done (by kernel_rfl) ?_ _
  (try refine NoPanic.normal ?_)
  (try clear q0); (try clear q1); (try clear q2); (try clear q3); (try clear q4); (try clear q5); (try clear q6); obtain ⟨q0, q1, q2, q3, q4, q5, q6⟩ := hHeld
  have k8 := fun O W => cFAbs (lt - lv) g.heap.size O W (by omega) (by omega)
  have e8 : sat ((lt - lv).natAbs : Int) = ((lt - lv).natAbs : Int) := sat_id6 _ (by omega) (by omega)
  have e9 : fx ((lt - lv).natAbs : Int) = true := fx_id6 _ (by omega) (by omega)
  simp only [e8, e9, Bool.not_true, Bool.or_false] at k8
  have hcm := HM.cell
  have hfm := HM.free
  have d9 : decide (((lt - lv).natAbs : Int) < 262144) = true := decide_eq_true (by omega)
  clear hSSA
  go_wp2_with (fail)
  (with_reducible refine (mvCall (b := g.heap.size) (w0 := W4) (by (repeat (first | with_reducible assumption | with_reducible exact Mv.refl (by assumption) (by assumption) | with_reducible apply Mv.alloc | with_reducible apply Mv.drew | with_reducible apply Mv.drewN | ((with_reducible apply Mv.setCell); rotate_left; (first | (dsimp only; omega) | omega | (simp; omega)); (first | (dsimp only; omega) | omega | (simp; omega))) | ((with_reducible apply Mv.below); rotate_left; (with_reducible assumption)) | ((with_reducible apply Mv.trans); rotate_left; (with_reducible assumption))))) (k8 _ _)).mono ?_); rintro e w9 ⟨rfl, hM, HM⟩
  have HB := below_mv HB HM (by omega)
  go_wp2_with (fail)
  (with_reducible refine (cAwake6 _).mono ?_); rintro e w10 ⟨rfl, hM⟩
  have HB := below_step HB hM
  go_wp2
  go_ret
  exact ⟨rfl, HB⟩
  generalize clm a (-4398046511104) 4398046511104 = a' at *
  generalize clm b (-4398046511104) 4398046511104 = b' at *
  generalize clm c (-4398046511104) 4398046511104 = c' at *
  rcases (show (¬ a' = a) ∨ (a' = a ∧ ¬ b' = b) ∨ (a' = a ∧ b' = b ∧ ¬ c' = c) by omega) with e1 | ⟨e1, e2⟩ | ⟨e1, e2, e3⟩
  (try refine wp_region_noPanic ?_)
  refine wp_region_held_drew (S := (fun (w' : World) => w'.cell? ⟨w.heap.size + 1, 0, none⟩ = some (.int .i64 a) ∧ w'.cell? ⟨w.heap.size + 1, 1, none⟩ = some (.int .i64 b) ∧ w'.cell? ⟨w.heap.size + 1, 2, none⟩ = some (.int .i64 c))) (by kernel_rfl) ⟨(by first | (simp (maxDischargeDepth := 6) [go_sem, *]; done)), (by first | (simp (maxDischargeDepth := 6) [go_sem, *]; done)), (by first | (simp (maxDischargeDepth := 6) [go_sem, *]; done))⟩ (fun hHeld => ?_)
  refine wpAnyH_take (i := 0) (v := ?_) (by simp only [List.getElem?_toArray, List.getElem?_cons_succ, List.getElem?_cons_zero]; rfl) (by kernel_rfl) (by kernel_rfl) (by kernel_rfl) (fun _ _ _ h => h) (Or.inl ⟨by rfl, ?_⟩) (by assumption) ?_
  rotate_left
  · intro w hSw; (try dsimp only at hSw); go_simp; try with_reducible rfl
  try simp only [Act.put, List.setIfInBounds_toArray, List.set_cons_zero, List.set_cons_succ]
  refine wpAnyH_take (i := 1) (v := ?_) (by simp only [List.getElem?_toArray, List.getElem?_cons_succ, List.getElem?_cons_zero]; rfl) (by kernel_rfl) (by kernel_rfl) (by kernel_rfl) (fun _ _ _ h => h) (Or.inl ⟨by rfl, ?_⟩) (by assumption) ?_
  rotate_left
  · intro w hSw; (try dsimp only at hSw); go_simp; try with_reducible rfl
  try simp only [Act.put, List.setIfInBounds_toArray, List.set_cons_zero, List.set_cons_succ]
  refine wpAnyH_take (i := 2) (v := ?_) (by simp only [List.getElem?_toArray, List.getElem?_cons_succ, List.getElem?_cons_zero]; rfl) (by kernel_rfl) (by kernel_rfl) (by kernel_rfl) (fun _ _ _ h => h) (Or.inl ⟨by rfl, ?_⟩) (by assumption) ?_
  rotate_left
  · intro w hSw; (try dsimp only at hSw); go_simp; try with_reducible rfl
  try simp only [Act.put, List.setIfInBounds_toArray, List.set_cons_zero, List.set_cons_succ]
  refine wpAnyH_take (i := 3) (v := ?_) (by simp only [List.getElem?_toArray, List.getElem?_cons_succ, List.getElem?_cons_zero]; rfl) (by kernel_rfl) (by kernel_rfl) (by kernel_rfl) (fun _ _ _ h => h) (Or.inl ⟨by rfl, ?_⟩) (by assumption) ?_
  rotate_left
  · intro w hSw; (try dsimp only at hSw); go_simp; try with_reducible rfl
  try simp only [Act.put, List.setIfInBounds_toArray, List.set_cons_zero, List.set_cons_succ]
  refine wpAnyH_take (i := 5) (v := ?_) (by simp only [List.getElem?_toArray, List.getElem?_cons_succ, List.getElem?_cons_zero]; rfl) (by kernel_rfl) (by kernel_rfl) (by kernel_rfl) (fun _ _ _ h => h) (Or.inl ⟨by rfl, ?_⟩) (by assumption) ?_
  rotate_left
  · intro w hSw; (try dsimp only at hSw); go_simp; try with_reducible rfl
  try simp only [Act.put, List.setIfInBounds_toArray, List.set_cons_zero, List.set_cons_succ]
  have hOld := hHeld; clear hHeld
  refine wpAnyH_ready (rs := [4]) (by kernel_rfl) (by simp) (AllReadyH.cons rfl (fun K hK => ?_) AllReadyH.nil)
  go_simp
  (go_at_call 21; (with_reducible refine (k2 _).mono ?_); rintro e w1 ⟨rfl, hM⟩)
  (try go_wp2_with (fail))
  refine hK.out _ _ ⟨(by first | exact mv_cell hM (by first | (dsimp only; omega) | (simp; omega)) hOld.1 | exact cell_later hM hOld.1 | exact HT.cb | exact HT.cc | (simp (maxDischargeDepth := 6) [go_sem, *]; done)), (by first | exact mv_cell hM (by first | (dsimp only; omega) | (simp; omega)) hOld.2.1 | exact cell_later hM hOld.2.1 | exact HT.cb | exact HT.cc | (simp (maxDischargeDepth := 6) [go_sem, *]; done)), (by first | exact mv_cell hM (by first | (dsimp only; omega) | (simp; omega)) hOld.2.2 | exact cell_later hM hOld.2.2 | exact HT.cb | exact HT.cc | (simp (maxDischargeDepth := 6) [go_sem, *]; done))⟩ (fun hHeld => ?_)
  clear hK K hOld
  try simp only [Act.put, List.setIfInBounds_toArray, List.set_cons_zero, List.set_cons_succ]
  have HB := below_step (HB.drew) hM
  refine wpAnyH_take (i := 6) (v := ?_) (by simp only [List.getElem?_toArray, List.getElem?_cons_succ, List.getElem?_cons_zero]; rfl) (by kernel_rfl) (by kernel_rfl) (by kernel_rfl) (fun _ _ _ h => h) (Or.inl ⟨by rfl, ?_⟩) (by assumption) ?_
  rotate_left
  · intro w hSw; (try dsimp only at hSw); go_simp; try with_reducible rfl
  try simp only [Act.put, List.setIfInBounds_toArray, List.set_cons_zero, List.set_cons_succ]
  refine wpAnyH_take (i := 7) (v := ?_) (by simp only [List.getElem?_toArray, List.getElem?_cons_succ, List.getElem?_cons_zero]; rfl) (by kernel_rfl) (by kernel_rfl) (by kernel_rfl) (fun _ _ _ h => h) (Or.inl ⟨by rfl, ?_⟩) (by assumption) ?_
  rotate_left
  · intro w hSw; (try dsimp only at hSw); go_simp; try with_reducible rfl
  try simp only [Act.put, List.setIfInBounds_toArray, List.set_cons_zero, List.set_cons_succ]
  refine wpAnyH_done (by kernel_rfl) ?_ _
  (try refine NoPanic.normal ?_)
  (try clear q0); (try clear q1); (try clear q2); obtain ⟨q0, q1, q2⟩ := hHeld
  go_wp2_with ((go_at_call 15; (with_reducible refine (cAwake6 _).mono ?_); rintro e w1 ⟨rfl, hM⟩))
  go_ret
  exact ⟨rfl, by first | exact below_step HB hM | (repeat (first | with_reducible assumption | with_reducible exact Below.refl _ _ | ((with_reducible refine Below.setCell ?_ ?_ _); rotate_left; (first | exact Nat.le_refl _ | (dsimp only; omega) | (simp; done) | (simp; omega))) | with_reducible refine below_alloc ?_ _ | with_reducible apply below_drewN | with_reducible apply Below.drew | with_reducible refine below_step ?_ (by assumption)))⟩
  (try refine wp_region_noPanic ?_)
  refine wp_region_held_drew (S := (fun (w' : World) => w'.cell? ⟨w.heap.size + 1, 0, none⟩ = some (.int .i64 a) ∧ w'.cell? ⟨w.heap.size + 1, 1, none⟩ = some (.int .i64 b) ∧ w'.cell? ⟨w.heap.size + 1, 2, none⟩ = some (.int .i64 c))) (by kernel_rfl) ⟨(by first | (simp (maxDischargeDepth := 6) [go_sem, *]; done)), (by first | (simp (maxDischargeDepth := 6) [go_sem, *]; done)), (by first | (simp (maxDischargeDepth := 6) [go_sem, *]; done))⟩ (fun hHeld => ?_)
  refine wpAnyH_take (i := 0) (v := ?_) (by simp only [List.getElem?_toArray, List.getElem?_cons_succ, List.getElem?_cons_zero]; rfl) (by kernel_rfl) (by kernel_rfl) (by kernel_rfl) (fun _ _ _ h => h) (Or.inl ⟨by rfl, ?_⟩) (by assumption) ?_
  rotate_left
  · intro w hSw; (try dsimp only at hSw); go_simp; try with_reducible rfl
  try simp only [Act.put, List.setIfInBounds_toArray, List.set_cons_zero, List.set_cons_succ]
  refine wpAnyH_take (i := 1) (v := ?_) (by simp only [List.getElem?_toArray, List.getElem?_cons_succ, List.getElem?_cons_zero]; rfl) (by kernel_rfl) (by kernel_rfl) (by kernel_rfl) (fun _ _ _ h => h) (Or.inl ⟨by rfl, ?_⟩) (by assumption) ?_
  rotate_left
  · intro w hSw; (try dsimp only at hSw); go_simp; try with_reducible rfl
  try simp only [Act.put, List.setIfInBounds_toArray, List.set_cons_zero, List.set_cons_succ]
  refine wpAnyH_take (i := 2) (v := ?_) (by simp only [List.getElem?_toArray, List.getElem?_cons_succ, List.getElem?_cons_zero]; rfl) (by kernel_rfl) (by kernel_rfl) (by kernel_rfl) (fun _ _ _ h => h) (Or.inl ⟨by rfl, ?_⟩) (by assumption) ?_
  rotate_left
  · intro w hSw; (try dsimp only at hSw); go_simp; try with_reducible rfl
  try simp only [Act.put, List.setIfInBounds_toArray, List.set_cons_zero, List.set_cons_succ]
  refine wpAnyH_take (i := 3) (v := ?_) (by simp only [List.getElem?_toArray, List.getElem?_cons_succ, List.getElem?_cons_zero]; rfl) (by kernel_rfl) (by kernel_rfl) (by kernel_rfl) (fun _ _ _ h => h) (Or.inl ⟨by rfl, ?_⟩) (by assumption) ?_
  rotate_left
  · intro w hSw; (try dsimp only at hSw); go_simp; try with_reducible rfl
  try simp only [Act.put, List.setIfInBounds_toArray, List.set_cons_zero, List.set_cons_succ]
  refine wpAnyH_take (i := 5) (v := ?_) (by simp only [List.getElem?_toArray, List.getElem?_cons_succ, List.getElem?_cons_zero]; rfl) (by kernel_rfl) (by kernel_rfl) (by kernel_rfl) (fun _ _ _ h => h) (Or.inl ⟨by rfl, ?_⟩) (by assumption) ?_
  rotate_left
  · intro w hSw; (try dsimp only at hSw); go_simp; try with_reducible rfl
  try simp only [Act.put, List.setIfInBounds_toArray, List.set_cons_zero, List.set_cons_succ]
  have hOld := hHeld; clear hHeld
  refine wpAnyH_ready (rs := [4]) (by kernel_rfl) (by simp) (AllReadyH.cons rfl (fun K hK => ?_) AllReadyH.nil)
  go_simp
  (go_at_call 21; (with_reducible refine (k2 _).mono ?_); rintro e w1 ⟨rfl, hM⟩)
  (try go_wp2_with (fail))
  refine hK.out _ _ ⟨(by first | exact mv_cell hM (by first | (dsimp only; omega) | (simp; omega)) hOld.1 | exact cell_later hM hOld.1 | exact HT.cb | exact HT.cc | (simp (maxDischargeDepth := 6) [go_sem, *]; done)), (by first | exact mv_cell hM (by first | (dsimp only; omega) | (simp; omega)) hOld.2.1 | exact cell_later hM hOld.2.1 | exact HT.cb | exact HT.cc | (simp (maxDischargeDepth := 6) [go_sem, *]; done)), (by first | exact mv_cell hM (by first | (dsimp only; omega) | (simp; omega)) hOld.2.2 | exact cell_later hM hOld.2.2 | exact HT.cb | exact HT.cc | (simp (maxDischargeDepth := 6) [go_sem, *]; done))⟩ (fun hHeld => ?_)
  clear hK K hOld
  try simp only [Act.put, List.setIfInBounds_toArray, List.set_cons_zero, List.set_cons_succ]
  have HB := below_step (HB.drew) hM
  refine wpAnyH_take (i := 6) (v := ?_) (by simp only [List.getElem?_toArray, List.getElem?_cons_succ, List.getElem?_cons_zero]; rfl) (by kernel_rfl) (by kernel_rfl) (by kernel_rfl) (fun _ _ _ h => h) (Or.inl ⟨by rfl, ?_⟩) (by assumption) ?_
  rotate_left
  · intro w hSw; (try dsimp only at hSw); go_simp; try with_reducible rfl
  try simp only [Act.put, List.setIfInBounds_toArray, List.set_cons_zero, List.set_cons_succ]
  refine wpAnyH_take (i := 7) (v := ?_) (by simp only [List.getElem?_toArray, List.getElem?_cons_succ, List.getElem?_cons_zero]; rfl) (by kernel_rfl) (by kernel_rfl) (by kernel_rfl) (fun _ _ _ h => h) (Or.inl ⟨by rfl, ?_⟩) (by assumption) ?_
  rotate_left
  · intro w hSw; (try dsimp only at hSw); go_simp; try with_reducible rfl
  try simp only [Act.put, List.setIfInBounds_toArray, List.set_cons_zero, List.set_cons_succ]
  refine wpAnyH_done (by kernel_rfl) ?_ _
  (try refine NoPanic.normal ?_)
  (try clear q0); (try clear q1); (try clear q2); obtain ⟨q0, q1, q2⟩ := hHeld
  go_wp2_with ((go_at_call 15; (with_reducible refine (cAwake6 _).mono ?_); rintro e w1 ⟨rfl, hM⟩))
  go_ret
  exact ⟨rfl, by first | exact below_step HB hM | (repeat (first | with_reducible assumption | with_reducible exact Below.refl _ _ | ((with_reducible refine Below.setCell ?_ ?_ _); rotate_left; (first | exact Nat.le_refl _ | (dsimp only; omega) | (simp; done) | (simp; omega))) | with_reducible refine below_alloc ?_ _ | with_reducible apply below_drewN | with_reducible apply Below.drew | with_reducible refine below_step ?_ (by assumption)))⟩
  (try refine wp_region_noPanic ?_)
  refine wp_region_held_drew (S := (fun (w' : World) => w'.cell? ⟨w.heap.size + 1, 0, none⟩ = some (.int .i64 a) ∧ w'.cell? ⟨w.heap.size + 1, 1, none⟩ = some (.int .i64 b) ∧ w'.cell? ⟨w.heap.size + 1, 2, none⟩ = some (.int .i64 c))) (by kernel_rfl) ⟨(by first | (simp (maxDischargeDepth := 6) [go_sem, *]; done)), (by first | (simp (maxDischargeDepth := 6) [go_sem, *]; done)), (by first | (simp (maxDischargeDepth := 6) [go_sem, *]; done))⟩ (fun hHeld => ?_)
  refine wpAnyH_take (i := 0) (v := ?_) (by simp only [List.getElem?_toArray, List.getElem?_cons_succ, List.getElem?_cons_zero]; rfl) (by kernel_rfl) (by kernel_rfl) (by kernel_rfl) (fun _ _ _ h => h) (Or.inl ⟨by rfl, ?_⟩) (by assumption) ?_
  rotate_left
  · intro w hSw; (try dsimp only at hSw); go_simp; try with_reducible rfl
  try simp only [Act.put, List.setIfInBounds_toArray, List.set_cons_zero, List.set_cons_succ]
  refine wpAnyH_take (i := 1) (v := ?_) (by simp only [List.getElem?_toArray, List.getElem?_cons_succ, List.getElem?_cons_zero]; rfl) (by kernel_rfl) (by kernel_rfl) (by kernel_rfl) (fun _ _ _ h => h) (Or.inl ⟨by rfl, ?_⟩) (by assumption) ?_
  rotate_left
  · intro w hSw; (try dsimp only at hSw); go_simp; try with_reducible rfl
  try simp only [Act.put, List.setIfInBounds_toArray, List.set_cons_zero, List.set_cons_succ]
  refine wpAnyH_take (i := 2) (v := ?_) (by simp only [List.getElem?_toArray, List.getElem?_cons_succ, List.getElem?_cons_zero]; rfl) (by kernel_rfl) (by kernel_rfl) (by kernel_rfl) (fun _ _ _ h => h) (Or.inl ⟨by rfl, ?_⟩) (by assumption) ?_
  rotate_left
  · intro w hSw; (try dsimp only at hSw); go_simp; try with_reducible rfl
  try simp only [Act.put, List.setIfInBounds_toArray, List.set_cons_zero, List.set_cons_succ]
  refine wpAnyH_take (i := 3) (v := ?_) (by simp only [List.getElem?_toArray, List.getElem?_cons_succ, List.getElem?_cons_zero]; rfl) (by kernel_rfl) (by kernel_rfl) (by kernel_rfl) (fun _ _ _ h => h) (Or.inl ⟨by rfl, ?_⟩) (by assumption) ?_
  rotate_left
  · intro w hSw; (try dsimp only at hSw); go_simp; try with_reducible rfl
  try simp only [Act.put, List.setIfInBounds_toArray, List.set_cons_zero, List.set_cons_succ]
  refine wpAnyH_take (i := 5) (v := ?_) (by simp only [List.getElem?_toArray, List.getElem?_cons_succ, List.getElem?_cons_zero]; rfl) (by kernel_rfl) (by kernel_rfl) (by kernel_rfl) (fun _ _ _ h => h) (Or.inl ⟨by rfl, ?_⟩) (by assumption) ?_
  rotate_left
  · intro w hSw; (try dsimp only at hSw); go_simp; try with_reducible rfl
  try simp only [Act.put, List.setIfInBounds_toArray, List.set_cons_zero, List.set_cons_succ]
  have hOld := hHeld; clear hHeld
  refine wpAnyH_ready (rs := [4]) (by kernel_rfl) (by simp) (AllReadyH.cons rfl (fun K hK => ?_) AllReadyH.nil)
  go_simp
  (go_at_call 21; (with_reducible refine (k2 _).mono ?_); rintro e w1 ⟨rfl, hM⟩)
  (try go_wp2_with (fail))
  refine hK.out _ _ ⟨(by first | exact mv_cell hM (by first | (dsimp only; omega) | (simp; omega)) hOld.1 | exact cell_later hM hOld.1 | exact HT.cb | exact HT.cc | (simp (maxDischargeDepth := 6) [go_sem, *]; done)), (by first | exact mv_cell hM (by first | (dsimp only; omega) | (simp; omega)) hOld.2.1 | exact cell_later hM hOld.2.1 | exact HT.cb | exact HT.cc | (simp (maxDischargeDepth := 6) [go_sem, *]; done)), (by first | exact mv_cell hM (by first | (dsimp only; omega) | (simp; omega)) hOld.2.2 | exact cell_later hM hOld.2.2 | exact HT.cb | exact HT.cc | (simp (maxDischargeDepth := 6) [go_sem, *]; done))⟩ (fun hHeld => ?_)
  clear hK K hOld
  try simp only [Act.put, List.setIfInBounds_toArray, List.set_cons_zero, List.set_cons_succ]
  have HB := below_step (HB.drew) hM
  refine wpAnyH_take (i := 6) (v := ?_) (by simp only [List.getElem?_toArray, List.getElem?_cons_succ, List.getElem?_cons_zero]; rfl) (by kernel_rfl) (by kernel_rfl) (by kernel_rfl) (fun _ _ _ h => h) (Or.inl ⟨by rfl, ?_⟩) (by assumption) ?_
  rotate_left
  · intro w hSw; (try dsimp only at hSw); go_simp; try with_reducible rfl
  try simp only [Act.put, List.setIfInBounds_toArray, List.set_cons_zero, List.set_cons_succ]
  refine wpAnyH_take (i := 7) (v := ?_) (by simp only [List.getElem?_toArray, List.getElem?_cons_succ, List.getElem?_cons_zero]; rfl) (by kernel_rfl) (by kernel_rfl) (by kernel_rfl) (fun _ _ _ h => h) (Or.inl ⟨by rfl, ?_⟩) (by assumption) ?_
  rotate_left
  · intro w hSw; (try dsimp only at hSw); go_simp; try with_reducible rfl
  try simp only [Act.put, List.setIfInBounds_toArray, List.set_cons_zero, List.set_cons_succ]
  refine wpAnyH_done (by kernel_rfl) ?_ _
  (try refine NoPanic.normal ?_)
  (try clear q0); (try clear q1); (try clear q2); obtain ⟨q0, q1, q2⟩ := hHeld
  go_wp2_with ((go_at_call 15; (with_reducible refine (cAwake6 _).mono ?_); rintro e w1 ⟨rfl, hM⟩))
  go_ret
  exact ⟨rfl, by first | exact below_step HB hM | (repeat (first | with_reducible assumption | with_reducible exact Below.refl _ _ | ((with_reducible refine Below.setCell ?_ ?_ _); rotate_left; (first | exact Nat.le_refl _ | (dsimp only; omega) | (simp; done) | (simp; omega))) | with_reducible refine below_alloc ?_ _ | with_reducible apply below_drewN | with_reducible apply Below.drew | with_reducible refine below_step ?_ (by assumption)))⟩
end
end Go.Proofs.Ytjpkkpflamkjkaa
