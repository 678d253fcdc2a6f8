/- Plain law: a vector product, exchanged, is opposite, and square to both. -/
import Derived.Test.YtfmihddcfmhonaaV2
import Derived.Test.YtfmihddcfmhonaaP0
namespace Go.Proofs.Ytfmihddcfmhonaa
/-- One part of a vector product of small numbers. -/
theorem cr_small (a b c d : Int) (a0 : -2199023255552 ≤ a) (a1 : a ≤ 2199023255552) (b0 : -2199023255552 ≤ b) (b1 : b ≤ 2199023255552) (c0 : -2199023255552 ≤ c) (c1 : c ≤ 2199023255552) (d0 : -2199023255552 ≤ d) (d1 : d ≤ 2199023255552) :
    crok a b c d = true ∧ cr a b c d = rsh (a * b) - rsh (c * d) ∧ -4503599627370496 ≤ cr a b c d ∧ cr a b c d ≤ 4503599627370496 ∧
      -4294967296 ≤ 4294967296 * cr a b c d - (a * b - c * d) ∧ 4294967296 * cr a b c d - (a * b - c * d) ≤ 4294967296 := by
  obtain ⟨p0, p1⟩ := mulb a b 2199023255552 2199023255552 a0 a1 b0 b1
  obtain ⟨q0, q1⟩ := mulb c d 2199023255552 2199023255552 c0 c1 d0 d1
  obtain ⟨e0, e1⟩ := rsh_err (a * b)
  obtain ⟨f0, f1⟩ := rsh_err (c * d)
  unfold crok cr
  generalize a * b = p at *
  generalize c * d = q at *
  generalize rsh p = r at *
  generalize rsh q = s at *
  have hr : sat r = r := sat_id r (by omega) (by omega)
  have hs : sat s = s := sat_id s (by omega) (by omega)
  have ht : sat (r - s) = r - s := sat_id _ (by omega) (by omega)
  rw [hr, hs, ht, fx_yes r (by omega) (by omega), fx_yes s (by omega) (by omega), fx_yes (r - s) (by omega) (by omega)]
  exact ⟨rfl, rfl, by omega, by omega, by omega, by omega⟩
theorem dt_small (x0 x1 x2 y0 y1 y2 e0 e1 e2 : Int) (h0 : -4503599627370496 ≤ x0) (h1 : x0 ≤ 4503599627370496) (h2 : -4503599627370496 ≤ x1) (h3 : x1 ≤ 4503599627370496) (h4 : -4503599627370496 ≤ x2) (h5 : x2 ≤ 4503599627370496)
    (g0 : -2199023255552 ≤ y0) (g1 : y0 ≤ 2199023255552) (g2 : -2199023255552 ≤ y1) (g3 : y1 ≤ 2199023255552) (g4 : -2199023255552 ≤ y2) (g5 : y2 ≤ 2199023255552)
    (k0 : -4294967296 ≤ 4294967296 * x0 - e0) (k1 : 4294967296 * x0 - e0 ≤ 4294967296) (k2 : -4294967296 ≤ 4294967296 * x1 - e1) (k3 : 4294967296 * x1 - e1 ≤ 4294967296) (k4 : -4294967296 ≤ 4294967296 * x2 - e2) (k5 : 4294967296 * x2 - e2 ≤ 4294967296)
    (hs : e0 * y0 + e1 * y1 + e2 * y2 = 0) : dtok x0 x1 x2 y0 y1 y2 = true ∧ -8192 ≤ dt x0 x1 x2 y0 y1 y2 ∧ dt x0 x1 x2 y0 y1 y2 ≤ 8192 := by
  obtain ⟨a0, a1⟩ := mulb x0 y0 4503599627370496 2199023255552 h0 h1 g0 g1
  obtain ⟨b0, b1⟩ := mulb x1 y1 4503599627370496 2199023255552 h2 h3 g2 g3
  obtain ⟨c0, c1⟩ := mulb x2 y2 4503599627370496 2199023255552 h4 h5 g4 g5
  obtain ⟨r0, r1⟩ := rsh_err (x0 * y0)
  obtain ⟨s0, s1⟩ := rsh_err (x1 * y1)
  obtain ⟨t0, t1⟩ := rsh_err (x2 * y2)
  obtain ⟨u0, u1⟩ := mulb (4294967296 * x0 - e0) y0 4294967296 2199023255552 k0 k1 g0 g1
  obtain ⟨v0, v1⟩ := mulb (4294967296 * x1 - e1) y1 4294967296 2199023255552 k2 k3 g2 g3
  obtain ⟨w0, w1⟩ := mulb (4294967296 * x2 - e2) y2 4294967296 2199023255552 k4 k5 g4 g5
  rw [Int.sub_mul, Int.mul_assoc] at u0 u1 v0 v1 w0 w1
  unfold dtok dt
  generalize x0 * y0 = p at *
  generalize x1 * y1 = q at *
  generalize x2 * y2 = r at *
  generalize e0 * y0 = p' at *
  generalize e1 * y1 = q' at *
  generalize e2 * y2 = r' at *
  generalize rsh p = P at *
  generalize rsh q = Q at *
  generalize rsh r = R at *
  rw [sat_id P (by omega) (by omega), sat_id Q (by omega) (by omega), sat_id R (by omega) (by omega), sat_id (P + Q) (by omega) (by omega), sat_id (P + Q + R) (by omega) (by omega),
    fx_yes P (by omega) (by omega), fx_yes Q (by omega) (by omega), fx_yes R (by omega) (by omega), fx_yes (P + Q) (by omega) (by omega), fx_yes (P + Q + R) (by omega) (by omega)]
  exact ⟨rfl, by omega, by omega⟩
theorem sq_facts (a0 a1 a2 b0 b1 b2 : Int) (h0 : -2199023255552 ≤ a0) (h1 : a0 ≤ 2199023255552) (h2 : -2199023255552 ≤ a1) (h3 : a1 ≤ 2199023255552) (h4 : -2199023255552 ≤ a2) (h5 : a2 ≤ 2199023255552)
    (g0 : -2199023255552 ≤ b0) (g1 : b0 ≤ 2199023255552) (g2 : -2199023255552 ≤ b1) (g3 : b1 ≤ 2199023255552) (g4 : -2199023255552 ≤ b2) (g5 : b2 ≤ 2199023255552) :
    ∃ c0 c1 c2, cr a1 b2 a2 b1 = c0 ∧ cr a2 b0 a0 b2 = c1 ∧ cr a0 b1 a1 b0 = c2 ∧ xok a0 a1 a2 b0 b1 b2 = true ∧
      cr b1 a2 b2 a1 = -c0 ∧ cr b2 a0 b0 a2 = -c1 ∧ cr b0 a1 b1 a0 = -c2 ∧ xok b0 b1 b2 a0 a1 a2 = true ∧
      (-4503599627370496 ≤ c0 ∧ c0 ≤ 4503599627370496) ∧ (-4503599627370496 ≤ c1 ∧ c1 ≤ 4503599627370496) ∧ (-4503599627370496 ≤ c2 ∧ c2 ≤ 4503599627370496) ∧
      dtok c0 c1 c2 a0 a1 a2 = true ∧ (-8192 ≤ dt c0 c1 c2 a0 a1 a2 ∧ dt c0 c1 c2 a0 a1 a2 ≤ 8192) ∧ dtok c0 c1 c2 b0 b1 b2 = true ∧ (-8192 ≤ dt c0 c1 c2 b0 b1 b2 ∧ dt c0 c1 c2 b0 b1 b2 ≤ 8192) := by
  obtain ⟨p1, p2, p3, p4, p5, p6⟩ := cr_small a1 b2 a2 b1 h2 h3 g4 g5 h4 h5 g2 g3
  obtain ⟨q1, q2, q3, q4, q5, q6⟩ := cr_small a2 b0 a0 b2 h4 h5 g0 g1 h0 h1 g4 g5
  obtain ⟨r1, r2, r3, r4, r5, r6⟩ := cr_small a0 b1 a1 b0 h0 h1 g2 g3 h2 h3 g0 g1
  obtain ⟨s1, s2, -⟩ := cr_small b1 a2 b2 a1 g2 g3 h4 h5 g4 g5 h2 h3
  obtain ⟨t1, t2, -⟩ := cr_small b2 a0 b0 a2 g4 g5 h0 h1 g0 g1 h4 h5
  obtain ⟨u1, u2, -⟩ := cr_small b0 a1 b1 a0 g0 g1 h2 h3 g2 g3 h0 h1
  obtain ⟨d1, d2, d3⟩ := dt_small _ _ _ a0 a1 a2 (a1 * b2 - a2 * b1) (a2 * b0 - a0 * b2) (a0 * b1 - a1 * b0) p3 p4 q3 q4 r3 r4 h0 h1 h2 h3 h4 h5 p5 p6 q5 q6 r5 r6 (by grind)
  obtain ⟨e1, e2, e3⟩ := dt_small _ _ _ b0 b1 b2 (a1 * b2 - a2 * b1) (a2 * b0 - a0 * b2) (a0 * b1 - a1 * b0) p3 p4 q3 q4 r3 r4 g0 g1 g2 g3 g4 g5 p5 p6 q5 q6 r5 r6 (by grind)
  refine ⟨_, _, _, rfl, rfl, rfl, by unfold xok; rw [p1, q1, r1]; rfl, ?_, ?_, ?_, by unfold xok; rw [s1, t1, u1]; rfl, ⟨p3, p4⟩, ⟨q3, q4⟩, ⟨r3, r4⟩, d1, ⟨d2, d3⟩, e1, ⟨e2, e3⟩⟩
  · rw [s2, p2, Int.mul_comm b1 a2, Int.mul_comm b2 a1]; omega
  · rw [t2, q2, Int.mul_comm b2 a0, Int.mul_comm b0 a2]; omega
  · rw [u2, r2, Int.mul_comm b0 a1, Int.mul_comm b1 a0]; omega
/-- Is each part at most 2^9? -/
def sm9 (a0 a1 a2 : Int) : Bool := decide ((-2199023255552 ≤ a0 ∧ a0 ≤ 2199023255552) ∧ (-2199023255552 ≤ a1 ∧ a1 ≤ 2199023255552) ∧ (-2199023255552 ≤ a2 ∧ a2 ≤ 2199023255552))
end Go.Proofs.Ytfmihddcfmhonaa
