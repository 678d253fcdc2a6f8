/- Plain laws of a bump: both discs together keep their push; no energy comes; behind it they come no nearer. No Go in sight. -/
import Derived.Test.YtgdoaibgcjdklaaP1
set_option linter.unusedSimpArgs false
set_option linter.unusedVariables false
namespace Go.Proofs.Ytgdoaibgcjdklaa
theorem rsh_e (p : Int) : ∃ e, rsh p * 4294967296 = p + e ∧ -2147483648 ≤ e ∧ e ≤ 2147483648 := by
  have := rsh_err p
  exact ⟨4294967296 * rsh p - p, by omega, by omega, by omega⟩
theorem rdiv_e (a n : Int) (hn : 0 < n) : ∃ e, rdiv a n * n = a + e ∧ -n ≤ 2 * e ∧ 2 * e ≤ n := by
  have := rdiv_err a n hn
  exact ⟨rdiv a n * n - a, by omega, by omega, by omega⟩
theorem cauchy2 (p q x y : Int) : (p * x + q * y) * (p * x + q * y) ≤ (p * p + q * q) * (x * x + y * y) := by
  have h := sq_nn (p * y - q * x)
  have e : (p * p + q * q) * (x * x + y * y) = (p * x + q * y) * (p * x + q * y) + (p * y - q * x) * (p * y - q * x) := by grind
  rw [e]; exact Int.le_add_of_nonneg_right h
/-- How long a unit of two parts is. -/
theorem unit2_len (X Y x y e0 e1 n : Int) (hn : 268435456 ≤ n) (a0 : -n ≤ X) (a1 : X ≤ n) (a2 : -n ≤ Y) (a3 : Y ≤ n)
    (h0 : x * n = X * 4294967296 + e0) (h1 : y * n = Y * 4294967296 + e1)
    (b0 : -n ≤ 2 * e0) (b1 : 2 * e0 ≤ n) (b2 : -n ≤ 2 * e1) (b3 : 2 * e1 ≤ n)
    (s0 : n * n ≤ X * X + Y * Y) (s1 : X * X + Y * Y ≤ n * n + 2 * n) :
    18446744073709551616 - 8589934592 ≤ x * x + y * y ∧ x * x + y * y ≤ 18446744073709551616 + 137438953472 + 8589934592 := by
  have k0 := sq_part x X n e0 h0
  have k1 := sq_part y Y n e1 h1
  have c0 := mulb X (2 * e0) n n a0 a1 b0 b1
  have c1 := mulb Y (2 * e1) n n a2 a3 b2 b3
  have d0 := mulb (2 * e0) (2 * e0) n n b0 b1 b0 b1
  have d1 := mulb (2 * e1) (2 * e1) n n b2 b3 b2 b3
  have f0 := sq_nn e0
  have f1 := sq_nn e1
  rw [show X * (2 * e0) = 2 * (X * e0) by grind] at c0
  rw [show Y * (2 * e1) = 2 * (Y * e1) by grind] at c1
  rw [show 2 * e0 * (2 * e0) = 4 * (e0 * e0) by grind] at d0
  rw [show 2 * e1 * (2 * e1) = 4 * (e1 * e1) by grind] at d1
  have m1 : 268435456 * n ≤ n * n := Int.mul_le_mul_of_nonneg_right hn (by omega)
  have np : 0 < n * n := Int.mul_pos (by omega) (by omega)
  have t : (x * x + y * y) * (n * n) = x * x * (n * n) + y * y * (n * n) := by grind
  rw [k0, k1] at t
  generalize X * e0 = p0 at *
  generalize Y * e1 = p1 at *
  generalize e0 * e0 = q0 at *
  generalize e1 * e1 = q1 at *
  generalize X * X = w0 at *
  generalize Y * Y = w1 at *
  generalize n * n = N at *
  generalize x * x + y * y = T at *
  clear h0 h1
  refine ⟨?_, ?_⟩
  · rcases Int.lt_or_le T (18446744073709551616 - 8589934592) with h | h
    · have := Int.mul_le_mul_of_nonneg_right (show T ≤ 18446744073709551616 - 8589934592 - 1 by omega) (show 0 ≤ N by omega)
      omega
    · exact h
  · rcases Int.lt_or_le (18446744073709551616 + 137438953472 + 8589934592) T with h | h
    · have := Int.mul_le_mul_of_nonneg_right (show 18446744073709551616 + 137438953472 + 8589934592 + 1 ≤ T by omega) (show 0 ≤ N by omega)
      omega
    · exact h
/-- How fast both come nearer at most. -/
theorem closing_bd (p q ux uy c e : Int) (p0 : -137438953472 ≤ p) (p1 : p ≤ 137438953472) (q0 : -137438953472 ≤ q) (q1 : q ≤ 137438953472)
    (U1 : ux * ux + uy * uy ≤ 18446744073709551616 + 137438953472 + 8589934592) (hc : c * 4294967296 = p * ux + q * uy + e) (e1 : e ≤ 4294967296) : c ≤ 194368040000 := by
  rcases Int.lt_or_le 194368040000 c with h | h
  · have h1 := cauchy2 p q ux uy
    have h2 := mulb p p 137438953472 137438953472 p0 p1 p0 p1
    have h3 := mulb q q 137438953472 137438953472 q0 q1 q0 q1
    have h4 : (p * p + q * q) * (ux * ux + uy * uy) ≤ 37778931862957161709568 * (18446744073709551616 + 137438953472 + 8589934592) :=
      Int.mul_le_mul (by omega) U1 (Int.add_nonneg (sq_nn _) (sq_nn _)) (by decide)
    have hC : 194368040000 * 4294967296 ≤ p * ux + q * uy := by omega
    have h5 := Int.mul_le_mul hC hC (by decide) (by omega)
    have h6 := Int.le_trans h5 (Int.le_trans h1 h4)
    exact absurd h6 (by decide)
  · exact h
/-- A push: what both get is the same, but for the rounding. -/
theorem push_near (m1 m2 s u v w : Int) (a0 : 0 ≤ m1) (a1 : m1 ≤ 35184372088832) (a2 : 0 ≤ m2) (a3 : m2 ≤ 35184372088832) (u0 : -4294967296 ≤ u) (u1 : u ≤ 4294967296) :
    -268435456 < rsh (m1 * v) + rsh (m2 * w) - (rsh (m1 * (v - rsh (u * rsh (s * m2)))) + rsh (m2 * (w + rsh (u * rsh (s * m1))))) ∧
    rsh (m1 * v) + rsh (m2 * w) - (rsh (m1 * (v - rsh (u * rsh (s * m2)))) + rsh (m2 * (w + rsh (u * rsh (s * m1))))) < 268435456 := by
  obtain ⟨η1, hn1, j0, j1⟩ := rsh_e (s * m2)
  obtain ⟨η2, hn2, j2, j3⟩ := rsh_e (s * m1)
  generalize rsh (s * m2) = n1 at *
  generalize rsh (s * m1) = n2 at *
  obtain ⟨α1, hb1, i0, i1⟩ := rsh_e (u * n1)
  obtain ⟨α2, hb2, i2, i3⟩ := rsh_e (u * n2)
  generalize rsh (u * n1) = b1 at *
  generalize rsh (u * n2) = b2 at *
  have r1 := rsh_err (m1 * v)
  have r2 := rsh_err (m2 * w)
  have r3 := rsh_err (m1 * (v - b1))
  have r4 := rsh_err (m2 * (w + b2))
  rw [show m1 * (v - b1) = m1 * v - m1 * b1 by grind] at *
  rw [show m2 * (w + b2) = m2 * w + m2 * b2 by grind] at *
  have e1 : (m1 * n1 - m2 * n2) * 4294967296 = m1 * η1 - m2 * η2 := by grind
  have e2 : (m1 * b1 - m2 * b2) * 4294967296 = u * (m1 * n1 - m2 * n2) + (m1 * α1 - m2 * α2) := by grind
  have k1 := mulb m1 η1 35184372088832 2147483648 (by omega) a1 j0 j1
  have k2 := mulb m2 η2 35184372088832 2147483648 (by omega) a3 j2 j3
  have k3 := mulb m1 α1 35184372088832 2147483648 (by omega) a1 i0 i1
  have k4 := mulb m2 α2 35184372088832 2147483648 (by omega) a3 i2 i3
  generalize hM : m1 * n1 - m2 * n2 = M at *
  have k5 := mulb u M 4294967296 35184372088832 u0 u1 (by omega) (by omega)
  generalize m1 * b1 = B1 at *
  generalize m2 * b2 = B2 at *
  generalize rsh (m1 * v) = R1 at *
  generalize rsh (m2 * w) = R2 at *
  generalize rsh (m1 * v - B1) = R3 at *
  generalize rsh (m2 * w + B2) = R4 at *
  omega
theorem en_less (D m v a u P A : Int) (h : a * D = u * P + A) :
    D * D * (m * ((v - a) * (v - a)) - m * (v * v)) = -(2 * D * (m * P * (v * u))) - 2 * D * (m * (v * A)) + m * P * (P * (u * u)) + 2 * (m * P * (u * A)) + m * (A * A) := by
  have e : D * D * (m * ((v - a) * (v - a)) - m * (v * v)) = m * ((a * D) * (a * D)) - 2 * D * (m * (v * (a * D))) := by grind
  rw [e, h]; grind
theorem en_more (D m v a u P A : Int) (h : a * D = u * P + A) :
    D * D * (m * ((v + a) * (v + a)) - m * (v * v)) = 2 * D * (m * P * (v * u)) + 2 * D * (m * (v * A)) + m * P * (P * (u * u)) + 2 * (m * P * (u * A)) + m * (A * A) := by
  have e : D * D * (m * ((v + a) * (v + a)) - m * (v * v)) = m * ((a * D) * (a * D)) + 2 * D * (m * (v * (a * D))) := by grind
  rw [e, h]; grind
/-- Twice the energy, turned by a bump, in terms of what both nearing and push are. -/
theorem en_sum (D m1 m2 s ux uy vx vy wx wy a1 b1 a2 b2 A1 B1 A2 B2 : Int)
    (h1 : a1 * D = ux * (s * m2) + A1) (h2 : b1 * D = uy * (s * m2) + B1) (h3 : a2 * D = ux * (s * m1) + A2) (h4 : b2 * D = uy * (s * m1) + B2) :
    D * D * (m1 * ((vx - a1) * (vx - a1) + (vy - b1) * (vy - b1)) + m2 * ((wx + a2) * (wx + a2) + (wy + b2) * (wy + b2)) - (m1 * (vx * vx + vy * vy) + m2 * (wx * wx + wy * wy))) =
      m1 * (s * m2) * (-(2 * D * ((vx - wx) * ux + (vy - wy) * uy)) + s * (m1 + m2) * (ux * ux + uy * uy) + 2 * (ux * A1 + uy * B1 + ux * A2 + uy * B2)) +
      2 * D * (m2 * (wx * A2 + wy * B2) - m1 * (vx * A1 + vy * B1)) + (m1 * (A1 * A1 + B1 * B1) + m2 * (A2 * A2 + B2 * B2)) := by
  have k1 := en_less D m1 vx a1 ux (s * m2) A1 h1
  have k2 := en_less D m1 vy b1 uy (s * m2) B1 h2
  have k3 := en_more D m2 wx a2 ux (s * m1) A2 h3
  have k4 := en_more D m2 wy b2 uy (s * m1) B2 h4
  have e : D * D * (m1 * ((vx - a1) * (vx - a1) + (vy - b1) * (vy - b1)) + m2 * ((wx + a2) * (wx + a2) + (wy + b2) * (wy + b2)) - (m1 * (vx * vx + vy * vy) + m2 * (wx * wx + wy * wy))) =
      D * D * (m1 * ((vx - a1) * (vx - a1)) - m1 * (vx * vx)) + D * D * (m1 * ((vy - b1) * (vy - b1)) - m1 * (vy * vy)) +
      (D * D * (m2 * ((wx + a2) * (wx + a2)) - m2 * (wx * wx)) + D * D * (m2 * ((wy + b2) * (wy + b2)) - m2 * (wy * wy))) := by grind
  rw [e, k1, k2, k3, k4]; clear e k1 k2 k3 k4 h1 h2 h3 h4; grind
/-- No energy comes, but for less than 1. -/
theorem bump_energy (m1 m2 s ux uy vx vy wx wy a1 b1 a2 b2 A1 B1 A2 B2 c t δ ε : Int)
    (h1 : a1 * 18446744073709551616 = ux * (s * m2) + A1) (h2 : b1 * 18446744073709551616 = uy * (s * m2) + B1) (h3 : a2 * 18446744073709551616 = ux * (s * m1) + A2) (h4 : b2 * 18446744073709551616 = uy * (s * m1) + B2)
    (i0 : -18446744073709551616 ≤ A1) (i1 : A1 ≤ 18446744073709551616) (i2 : -18446744073709551616 ≤ B1) (i3 : B1 ≤ 18446744073709551616) (i4 : -18446744073709551616 ≤ A2) (i5 : A2 ≤ 18446744073709551616) (i6 : -18446744073709551616 ≤ B2) (i7 : B2 ≤ 18446744073709551616)
    (n0 : 0 < m1) (n1 : m1 ≤ 35184372088832) (n2 : 0 < m2) (n3 : m2 ≤ 35184372088832) (u0 : -4294967296 ≤ ux) (u1 : ux ≤ 4294967296) (u2 : -4294967296 ≤ uy) (u3 : uy ≤ 4294967296)
    (U1 : ux * ux + uy * uy ≤ 18446744073709551616 + 137438953472 + 8589934592)
    (x0 : -68719476736 ≤ vx) (x1 : vx ≤ 68719476736) (x2 : -68719476736 ≤ vy) (x3 : vy ≤ 68719476736) (y0 : -68719476736 ≤ wx) (y1 : wx ≤ 68719476736) (y2 : -68719476736 ≤ wy) (y3 : wy ≤ 68719476736)
    (hc : c * 4294967296 = (vx - wx) * ux + (vy - wy) * uy + ε) (c0 : 0 ≤ c) (c1 : c ≤ 194368040000) (ε1 : ε ≤ 4294967296) (t1 : t ≤ 8589934592)
    (hs : s * (m1 + m2) = c * t + δ) (s0 : 0 ≤ s) (δ1 : 2 * δ ≤ 4294967296 + (m1 + m2)) :
    m1 * ((vx - a1) * (vx - a1) + (vy - b1) * (vy - b1)) + m2 * ((wx + a2) * (wx + a2) + (wy + b2) * (wy + b2)) ≤ m1 * (vx * vx + vy * vy) + m2 * (wx * wx + wy * wy) + (79228162514264337593543950336 - 1237940039285380274899124224) := by
  have key := en_sum 18446744073709551616 m1 m2 s ux uy vx vy wx wy a1 b1 a2 b2 A1 B1 A2 B2 h1 h2 h3 h4
  clear h1 h2 h3 h4
  -- the push by both masses
  have ct : c * t ≤ c * 8589934592 := Int.mul_le_mul_of_nonneg_left t1 c0
  have sS0 : 0 ≤ s * (m1 + m2) := Int.mul_nonneg s0 (by omega)
  have z0 : 0 ≤ m1 * (s * m2) := Int.mul_nonneg (by omega) (Int.mul_nonneg s0 (by omega))
  have z1 : 4 * (m1 * (s * m2)) ≤ s * (m1 + m2) * (m1 + m2) := by
    have e : s * (m1 + m2) * (m1 + m2) = 4 * (m1 * (s * m2)) + s * ((m1 - m2) * (m1 - m2)) := by grind
    have := Int.mul_nonneg s0 (sq_nn (m1 - m2))
    omega
  have z2 : s * (m1 + m2) * (m1 + m2) ≤ (194368040000 * 8589934592 + 70368744177664) * 70368744177664 := Int.mul_le_mul (by omega) (by omega) (by omega) (by decide)
  have b0 : s * (m1 + m2) * (ux * ux + uy * uy) ≤ s * (m1 + m2) * (18446744073709551616 + 137438953472 + 8589934592) := Int.mul_le_mul_of_nonneg_left U1 sS0
  have w1 := mulb ux A1 4294967296 18446744073709551616 u0 u1 i0 i1
  have w2 := mulb uy B1 4294967296 18446744073709551616 u2 u3 i2 i3
  have w3 := mulb ux A2 4294967296 18446744073709551616 u0 u1 i4 i5
  have w4 := mulb uy B2 4294967296 18446744073709551616 u2 u3 i6 i7
  have v1 := mulb vx A1 68719476736 18446744073709551616 x0 x1 i0 i1
  have v2 := mulb vy B1 68719476736 18446744073709551616 x2 x3 i2 i3
  have v3 := mulb wx A2 68719476736 18446744073709551616 y0 y1 i4 i5
  have v4 := mulb wy B2 68719476736 18446744073709551616 y2 y3 i6 i7
  have g1 := mulb m1 (vx * A1 + vy * B1) 35184372088832 2535301200456458802993406410752 (by omega) n1 (by omega) (by omega)
  have g2 := mulb m2 (wx * A2 + wy * B2) 35184372088832 2535301200456458802993406410752 (by omega) n3 (by omega) (by omega)
  have q1 := mulb A1 A1 18446744073709551616 18446744073709551616 i0 i1 i0 i1
  have q2 := mulb B1 B1 18446744073709551616 18446744073709551616 i2 i3 i2 i3
  have q3 := mulb A2 A2 18446744073709551616 18446744073709551616 i4 i5 i4 i5
  have q4 := mulb B2 B2 18446744073709551616 18446744073709551616 i6 i7 i6 i7
  have g3 := mulb m1 (A1 * A1 + B1 * B1) 35184372088832 680564733841876926926749214863536422912 (by omega) n1 (by omega) (by omega)
  have g4 := mulb m2 (A2 * A2 + B2 * B2) 35184372088832 680564733841876926926749214863536422912 (by omega) n3 (by omega) (by omega)
  generalize hBr : -(2 * 18446744073709551616 * ((vx - wx) * ux + (vy - wy) * uy)) + s * (m1 + m2) * (ux * ux + uy * uy) + 2 * (ux * A1 + uy * B1 + ux * A2 + uy * B2) = Br at key
  have hB : Br ≤ 158456325028528675187087900672 + 194368040000 * 8589934592 * (137438953472 + 8589934592) + (2147483648 + 35184372088832) * (18446744073709551616 + 137438953472 + 8589934592) + 633825300114114700748351602688 := by
    clear key z0 z1 z2 v1 v2 v3 v4 g1 g2 g3 g4 q1 q2 q3 q4 U1
    generalize s * (m1 + m2) * (ux * ux + uy * uy) = X at *
    generalize s * (m1 + m2) = sS at *
    generalize ux * A1 = k1 at *
    generalize uy * B1 = k2 at *
    generalize ux * A2 = k3 at *
    generalize uy * B2 = k4 at *
    generalize (vx - wx) * ux + (vy - wy) * uy = C at *
    generalize c * t = ctt at *
    omega
  clear hBr b0 w1 w2 w3 w4 v1 v2 v3 v4 q1 q2 q3 q4 hc ε1 U1
  have zB : m1 * (s * m2) * Br ≤ ((194368040000 * 8589934592 + 70368744177664) * 17592186044416) * (158456325028528675187087900672 + 194368040000 * 8589934592 * (137438953472 + 8589934592) + (2147483648 + 35184372088832) * (18446744073709551616 + 137438953472 + 8589934592) + 633825300114114700748351602688) := by
    refine Int.le_trans (Int.mul_le_mul_of_nonneg_left hB z0) (Int.mul_le_mul_of_nonneg_right ?_ (by decide))
    generalize s * (m1 + m2) * (m1 + m2) = X at *
    generalize m1 * (s * m2) = Z at *
    omega
  generalize m1 * (s * m2) * Br = ZB at *
  generalize m1 * (vx * A1 + vy * B1) = G1 at *
  generalize m2 * (wx * A2 + wy * B2) = G2 at *
  generalize m1 * (A1 * A1 + B1 * B1) = G3 at *
  generalize m2 * (A2 * A2 + B2 * B2) = G4 at *
  generalize m1 * ((vx - a1) * (vx - a1) + (vy - b1) * (vy - b1)) + m2 * ((wx + a2) * (wx + a2) + (wy + b2) * (wy + b2)) = E1 at *
  generalize m1 * (vx * vx + vy * vy) + m2 * (wx * wx + wy * wy) = E0 at *
  clear z0 z1 z2 hs δ1 ct sS0 hB
  omega
/-- How far a disc's energy, as it is reckoned, is off. -/
theorem en_err (m x y : Int) (m0 : 0 ≤ m) (m1 : m ≤ 35184372088832) :
    -(151115727451828646838272 + 9223372036854775808) ≤ 18446744073709551616 * rsh (m * (rsh (x * x) + rsh (y * y))) - m * (x * x + y * y) ∧ 18446744073709551616 * rsh (m * (rsh (x * x) + rsh (y * y))) - m * (x * x + y * y) ≤ 151115727451828646838272 + 9223372036854775808 := by
  have r1 := rsh_err (x * x)
  have r2 := rsh_err (y * y)
  generalize rsh (x * x) = a at *
  generalize rsh (y * y) = b at *
  have r3 := rsh_err (m * (a + b))
  have e : m * (4294967296 * a - x * x + (4294967296 * b - y * y)) = 4294967296 * (m * (a + b)) - m * (x * x + y * y) := by grind
  have k := mulb m (4294967296 * a - x * x + (4294967296 * b - y * y)) 35184372088832 4294967296 (by omega) m1 (by omega) (by omega)
  rw [e] at k
  generalize m * (x * x + y * y) = Y at *
  generalize m * (a + b) = X at *
  omega
/-- Behind a bump: how fast both come nearer. -/
theorem bump_after (m1 m2 s ux uy p q a1 b1 a2 b2 A1 B1 A2 B2 c t δ ε c' ε' : Int)
    (h1 : a1 * 18446744073709551616 = ux * (s * m2) + A1) (h2 : b1 * 18446744073709551616 = uy * (s * m2) + B1) (h3 : a2 * 18446744073709551616 = ux * (s * m1) + A2) (h4 : b2 * 18446744073709551616 = uy * (s * m1) + B2)
    (i0 : -18446744073709551616 ≤ A1) (i1 : A1 ≤ 18446744073709551616) (i2 : -18446744073709551616 ≤ B1) (i3 : B1 ≤ 18446744073709551616) (i4 : -18446744073709551616 ≤ A2) (i5 : A2 ≤ 18446744073709551616) (i6 : -18446744073709551616 ≤ B2) (i7 : B2 ≤ 18446744073709551616)
    (n0 : 0 < m1) (n1 : m1 ≤ 35184372088832) (n2 : 0 < m2) (n3 : m2 ≤ 35184372088832) (u0 : -4294967296 ≤ ux) (u1 : ux ≤ 4294967296) (u2 : -4294967296 ≤ uy) (u3 : uy ≤ 4294967296)
    (U0 : 18446744073709551616 - 8589934592 ≤ ux * ux + uy * uy)
    (hc : c * 4294967296 = p * ux + q * uy + ε) (c0 : 0 ≤ c) (c1 : c ≤ 194368040000) (ε0 : -4294967296 ≤ ε) (t0 : 4294967296 ≤ t)
    (hs : s * (m1 + m2) = c * t + δ) (s0 : 0 ≤ s) (δ0 : -(4294967296 + (m1 + m2)) ≤ 2 * δ)
    (hc' : c' * 4294967296 = (p - a1 - a2) * ux + (q - b1 - b2) * uy + ε') (ε1 : ε' ≤ 4294967296) : c' ≤ 65536 := by
  have ct : c * 4294967296 ≤ c * t := Int.mul_le_mul_of_nonneg_left t0 c0
  have sS0 : 0 ≤ s * (m1 + m2) := Int.mul_nonneg s0 (by omega)
  have b0 : s * (m1 + m2) * (18446744073709551616 - 8589934592) ≤ s * (m1 + m2) * (ux * ux + uy * uy) := Int.mul_le_mul_of_nonneg_left U0 sS0
  have w1 := mulb ux A1 4294967296 18446744073709551616 u0 u1 i0 i1
  have w2 := mulb uy B1 4294967296 18446744073709551616 u2 u3 i2 i3
  have w3 := mulb ux A2 4294967296 18446744073709551616 u0 u1 i4 i5
  have w4 := mulb uy B2 4294967296 18446744073709551616 u2 u3 i6 i7
  have key : ((p - a1 - a2) * ux + (q - b1 - b2) * uy) * 18446744073709551616 = (p * ux + q * uy) * 18446744073709551616 - s * (m1 + m2) * (ux * ux + uy * uy) - (ux * A1 + uy * B1 + ux * A2 + uy * B2) := by
    have e : ((p - a1 - a2) * ux + (q - b1 - b2) * uy) * 18446744073709551616 = (p * ux + q * uy) * 18446744073709551616 - (ux * (a1 * 18446744073709551616) + ux * (a2 * 18446744073709551616) + uy * (b1 * 18446744073709551616) + uy * (b2 * 18446744073709551616)) := by grind
    rw [e, h1, h2, h3, h4]; grind
  clear h1 h2 h3 h4 U0
  generalize (p - a1 - a2) * ux + (q - b1 - b2) * uy = C' at *
  generalize p * ux + q * uy = C at *
  generalize s * (m1 + m2) * (ux * ux + uy * uy) = X at *
  generalize s * (m1 + m2) = sS at *
  generalize ux * A1 = k1 at *
  generalize uy * B1 = k2 at *
  generalize ux * A2 = k3 at *
  generalize uy * B2 = k4 at *
  generalize c * t = ctt at *
  omega
end Go.Proofs.Ytgdoaibgcjdklaa
