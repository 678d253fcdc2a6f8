/- What a bump of slow discs is, and what it leaves: push, energy, nearing. No Go in sight. -/
import Derived.Test.YtgdoaibgcjdklaaN3
import Derived.Test.YtgdoaibgcjdklaaN9
set_option linter.unusedSimpArgs false
set_option linter.unusedVariables false
namespace Go.Proofs.Ytgdoaibgcjdklaa
open Go.RowKit
theorem ml_in (a b A B C : Int) (a0 : -A ≤ a) (a1 : a ≤ A) (b0 : -B ≤ b) (b1 : b ≤ B) (hC : A * B ≤ C * 4294967296) (c1 : C ≤ 4611686018427387904) :
    ml a b = rsh (a * b) ∧ mlok a b = true ∧ -(C + 1) ≤ rsh (a * b) ∧ rsh (a * b) ≤ C + 1 := by
  have h := mulb a b A B a0 a1 b0 b1
  have e := rsh_err (a * b)
  unfold ml mlok
  generalize A * B = AB at *
  generalize rsh (a * b) = r at *
  generalize a * b = ab at *
  exact ⟨sat_id _ (by omega) (by omega), (fx_iff _).2 ⟨by omega, by omega⟩, by omega, by omega⟩
theorem fx_in (a : Int) (a0 : -4611686018427387904 ≤ a) (a1 : a ≤ 4611686018427387904) : sat a = a ∧ fx a = true := ⟨sat_id _ (by omega) (by omega), (fx_iff _).2 ⟨by omega, by omega⟩⟩
theorem unit_part (v n : Int) (hn : 0 < n) (hv0 : -n ≤ v) (hv1 : v ≤ n) :
    fqok v n = true ∧ ∃ e, fq v n * n = v * 4294967296 + e ∧ -n ≤ 2 * e ∧ 2 * e ≤ n ∧ -4294967296 ≤ fq v n ∧ fq v n ≤ 4294967296 := by
  have h := rdiv_err (v * 4294967296) n hn
  have hb : -4294967296 ≤ rdiv (v * 4294967296) n ∧ rdiv (v * 4294967296) n ≤ 4294967296 := by
    generalize rdiv (v * 4294967296) n = q at *
    refine ⟨?_, ?_⟩
    · rcases Int.lt_or_le q (-4294967296) with h1 | h1
      · have := Int.mul_le_mul_of_nonneg_right (show q ≤ -4294967296 - 1 by omega) (show 0 ≤ n by omega)
        omega
      · exact h1
    · rcases Int.lt_or_le 4294967296 q with h1 | h1
      · have := Int.mul_le_mul_of_nonneg_right (show 4294967296 + 1 ≤ q by omega) (show 0 ≤ n by omega)
        omega
      · exact h1
  have e1 : fq v n = rdiv (v * 4294967296) n := by
    unfold fq
    rw [if_neg (by omega), sat_id _ (by omega) (by omega)]
  refine ⟨?_, ?_⟩
  · unfold fqok
    rw [decide_eq_false (show ¬ n = 0 by omega), (fx_iff _).2 ⟨by omega, by omega⟩]; rfl
  · rw [e1]
    exact ⟨rdiv (v * 4294967296) n * n - v * 4294967296, by omega, by omega, by omega, hb.1, hb.2⟩
/-- Both discs' unit: all fits; how long it is. -/
theorem bump_unit (ax ay bx bY s1 s2 n ux uy : Int) (a0 : -281474976710656 ≤ ax) (a1 : ax ≤ 281474976710656) (a2 : -281474976710656 ≤ ay) (a3 : ay ≤ 281474976710656) (b0 : -281474976710656 ≤ bx) (b1 : bx ≤ 281474976710656) (b2 : -281474976710656 ≤ bY) (b3 : bY ≤ 281474976710656)
    (g0 : 0 ≤ s1) (g1 : s1 ≤ 17179869184) (g2 : 0 ≤ s2) (g3 : s2 ≤ 17179869184)
    (hn : sqs (sat (bx - ax)) (sat (bY - ay)) = n) (hn0 : 268435456 ≤ n) (eux : uq (sat (bx - ax)) n = ux) (euy : uq (sat (bY - ay)) n = uy) :
    apok ax ay bx bY s1 s2 = true ∧ (-4294967296 ≤ ux ∧ ux ≤ 4294967296 ∧ -4294967296 ≤ uy ∧ uy ≤ 4294967296) ∧ (18446744073709551616 - 8589934592 ≤ ux * ux + uy * uy ∧ ux * ux + uy * uy ≤ 18446744073709551616 + 137438953472 + 8589934592) := by
  obtain ⟨e1, f1⟩ := fx_in (bx - ax) (by omega) (by omega)
  obtain ⟨e2, f2⟩ := fx_in (bY - ay) (by omega) (by omega)
  unfold apok
  rw [e1, e2] at hn
  rw [e1] at eux
  rw [e2] at euy
  rw [e1, e2, f1, f2, hn]
  clear e1 e2 f1 f2
  have X0 : -562949953421312 ≤ bx - ax := by omega
  have X1 : bx - ax ≤ 562949953421312 := by omega
  have Y0 : -562949953421312 ≤ bY - ay := by omega
  have Y1 : bY - ay ≤ 562949953421312 := by omega
  generalize bx - ax = X at *
  generalize bY - ay = Y at *
  have q1 := mulb X X 562949953421312 562949953421312 X0 X1 X0 X1
  have q2 := mulb Y Y 562949953421312 562949953421312 Y0 Y1 Y0 Y1
  have p1 := sq_nn X
  have p2 := sq_nn Y
  have r0 := rt_nonneg (X * X + Y * Y)
  have r1 := rt_le (X * X + Y * Y) (by omega)
  have r2 := rt_gt (X * X + Y * Y) (by omega)
  have r3 : rt (X * X + Y * Y) ≤ 1125899906842624 := by
    rcases Int.lt_or_le 1125899906842624 (rt (X * X + Y * Y)) with h | h
    · have := Int.mul_le_mul (show 1125899906842624 + 1 ≤ rt (X * X + Y * Y) by omega) (show 1125899906842624 + 1 ≤ rt (X * X + Y * Y) by omega) (by decide) r0
      omega
    · exact h
  have hl : lnok (X * X + Y * Y) = true := by
    unfold lnok fw
    rw [decide_eq_true (show _ ∧ _ from ⟨by omega, by omega⟩), decide_eq_true (show rt (X * X + Y * Y) ≤ 9223372036854775807 by omega)]; rfl
  unfold sqs ln at hn
  rw [if_pos hl] at hn
  rw [hl]
  rw [hn] at r0 r1 r2 r3
  have k1 := abs_le_of_sq X n (by omega) (by rw [Int.add_mul, Int.mul_add] at r2; omega)
  have k2 := abs_le_of_sq Y n (by omega) (by rw [Int.add_mul, Int.mul_add] at r2; omega)
  obtain ⟨o1, ea, ha1, ha2, ha3, ha4, ha5⟩ := unit_part X n (by omega) k1.1 k1.2
  obtain ⟨o2, eb, hb1, hb2, hb3, hb4, hb5⟩ := unit_part Y n (by omega) k2.1 k2.2
  have hz : ¬ n = 0 := by omega
  unfold uq at eux euy
  rw [if_neg hz] at eux euy
  rw [eux] at ha1 ha4 ha5
  rw [euy] at hb1 hb4 hb5
  unfold uok tok
  rw [o1, o2, (fx_in (s1 + s2) (by omega) (by omega)).2]
  exact ⟨by simp only [Bool.or_true, Bool.and_true], ⟨ha4, ha5, hb4, hb5⟩, unit2_len X Y ux uy ea eb n hn0 k1.1 k1.2 k2.1 k2.2 ha1 hb1 ha2 ha3 hb2 hb3 r1 (by rw [Int.add_mul, Int.mul_add] at r2; omega)⟩
/-- What a bump leaves, and that all fits. -/
def Left (m1 m2 vx vy wx wy ux uy r1 r2 r3 r4 : Int) (t : Bool) : Prop :=
  ((-549755813888 ≤ r1 ∧ r1 ≤ 549755813888 ∧ -549755813888 ≤ r2 ∧ r2 ≤ 549755813888) ∧ (-549755813888 ≤ r3 ∧ r3 ≤ 549755813888 ∧ -549755813888 ≤ r4 ∧ r4 ≤ 549755813888)) ∧
  ((-268435456 < rsh (m1 * vx) + rsh (m2 * wx) - (rsh (m1 * r1) + rsh (m2 * r3)) ∧ rsh (m1 * vx) + rsh (m2 * wx) - (rsh (m1 * r1) + rsh (m2 * r3)) < 268435456) ∧
   (-268435456 < rsh (m1 * vy) + rsh (m2 * wy) - (rsh (m1 * r2) + rsh (m2 * r4)) ∧ rsh (m1 * vy) + rsh (m2 * wy) - (rsh (m1 * r2) + rsh (m2 * r4)) < 268435456)) ∧
  rsh (m1 * (rsh (r1 * r1) + rsh (r2 * r2))) + rsh (m2 * (rsh (r3 * r3) + rsh (r4 * r4))) ≤ rsh (m1 * (rsh (vx * vx) + rsh (vy * vy))) + rsh (m2 * (rsh (wx * wx) + rsh (wy * wy))) + 4294967296 ∧
  (t = true → rsh ((r1 - r3) * ux) + rsh ((r2 - r4) * uy) ≤ 65536)
theorem bump_left (m1 m2 vx vy wx wy ux uy bo : Int) (t : Bool) (n0 : 274877906944 ≤ m1) (n1 : m1 ≤ 35184372088832) (n2 : 274877906944 ≤ m2) (n3 : m2 ≤ 35184372088832) (b0 : 0 ≤ bo) (b1 : bo ≤ 4294967296)
    (u : -4294967296 ≤ ux ∧ ux ≤ 4294967296 ∧ -4294967296 ≤ uy ∧ uy ≤ 4294967296) (U : 18446744073709551616 - 8589934592 ≤ ux * ux + uy * uy ∧ ux * ux + uy * uy ≤ 18446744073709551616 + 137438953472 + 8589934592)
    (x0 : -68719476736 ≤ vx) (x1 : vx ≤ 68719476736) (x2 : -68719476736 ≤ vy) (x3 : vy ≤ 68719476736) (y0 : -68719476736 ≤ wx) (y1 : wx ≤ 68719476736) (y2 : -68719476736 ≤ wy) (y3 : wy ≤ 68719476736) :
    bclok ux uy vx vy wx wy = true ∧
    ((t && decide (0 < bcl ux uy vx vy wx wy)) = true → bshok (bcl ux uy vx vy wx wy) bo m1 m2 = true ∧ turnok (bsh (bcl ux uy vx vy wx wy) bo m1 m2) m1 m2 vx vy wx wy ux uy = true ∧
      Left m1 m2 vx vy wx wy ux uy (tn true vx ux (ml (bsh (bcl ux uy vx vy wx wy) bo m1 m2) m2)) (tn true vy uy (ml (bsh (bcl ux uy vx vy wx wy) bo m1 m2) m2))
        (tn false wx ux (ml (bsh (bcl ux uy vx vy wx wy) bo m1 m2) m1)) (tn false wy uy (ml (bsh (bcl ux uy vx vy wx wy) bo m1 m2) m1)) t) ∧
    ((t && decide (0 < bcl ux uy vx vy wx wy)) = false → Left m1 m2 vx vy wx wy ux uy vx vy wx wy t) := by
  obtain ⟨u0, u1, u2, u3⟩ := u
  obtain ⟨U0, U1⟩ := U
  obtain ⟨e1, f1⟩ := fx_in (vx - wx) (by omega) (by omega)
  obtain ⟨e2, f2⟩ := fx_in (vy - wy) (by omega) (by omega)
  obtain ⟨e3, f3, c3, c4⟩ := ml_in (vx - wx) ux 137438953472 4294967296 137438953472 (by omega) (by omega) u0 u1 (by decide) (by decide)
  obtain ⟨e4, f4, c5, c6⟩ := ml_in (vy - wy) uy 137438953472 4294967296 137438953472 (by omega) (by omega) u2 u3 (by decide) (by decide)
  obtain ⟨e5, f5⟩ := fx_in (rsh ((vx - wx) * ux) + rsh ((vy - wy) * uy)) (by omega) (by omega)
  have hcl : bcl ux uy vx vy wx wy = rsh ((vx - wx) * ux) + rsh ((vy - wy) * uy) := by unfold bcl; rw [e1, e2, e3, e4, e5]
  have hclok : bclok ux uy vx vy wx wy = true := by unfold bclok; rw [e1, e2, e3, e4, f1, f2, f3, f4, f5]; rfl
  refine ⟨hclok, ?_, ?_⟩
  · intro hgo
    rw [hcl] at hgo ⊢
    rw [Bool.and_eq_true, decide_eq_true_eq] at hgo
    obtain ⟨-, hc0⟩ := hgo
    obtain ⟨ε1, hε1, k0, k1⟩ := rsh_e ((vx - wx) * ux)
    obtain ⟨ε2, hε2, k2, k3⟩ := rsh_e ((vy - wy) * uy)
    clear e1 f1 e2 f2 e3 f3 c3 c4 e4 f4 c5 c6 e5 f5 hcl hclok
    have hcc : (rsh ((vx - wx) * ux) + rsh ((vy - wy) * uy)) * 4294967296 = (vx - wx) * ux + (vy - wy) * uy + (ε1 + ε2) := by rw [Int.add_mul, hε1, hε2]; omega
    clear hε1 hε2
    generalize rsh ((vx - wx) * ux) + rsh ((vy - wy) * uy) = c at *
    have c1 := closing_bd (vx - wx) (vy - wy) ux uy c (ε1 + ε2) (by omega) (by omega) (by omega) (by omega) U1 hcc (by omega)
    -- the push by mass and mass
    obtain ⟨e1, f1⟩ := fx_in (4294967296 + bo) (by omega) (by omega)
    obtain ⟨e2, f2⟩ := fx_in (m1 + m2) (by omega) (by omega)
    obtain ⟨e3, f3, c3, c4⟩ := ml_in c (4294967296 + bo) 274877906944 8589934592 549755813888 (by omega) (by omega) (by omega) (by omega) (by decide) (by decide)
    obtain ⟨γ, hγ, γ0, γ1⟩ := rsh_e (c * (4294967296 + bo))
    have ct0 : c * 4294967296 ≤ c * (4294967296 + bo) := Int.mul_le_mul_of_nonneg_left (by omega) (by omega)
    have ct1 : c * (4294967296 + bo) ≤ c * 8589934592 := Int.mul_le_mul_of_nonneg_left (by omega) (by omega)
    generalize hg : rsh (c * (4294967296 + bo)) = g at *
    have g0 : 0 ≤ g := by omega
    obtain ⟨κ, hκ, κ0, κ1⟩ := rdiv_e (g * 4294967296) (m1 + m2) (by omega)
    generalize hs : rdiv (g * 4294967296) (m1 + m2) = s at *
    have s0 : 0 ≤ s := by
      rcases Int.lt_or_le s 0 with h | h
      · have := Int.mul_le_mul_of_nonneg_right (show s ≤ -1 by omega) (show 0 ≤ m1 + m2 by omega)
        omega
      · exact h
    have hsS : s * (m1 + m2) = c * (4294967296 + bo) + (γ + κ) := by omega
    have s1 : s ≤ 549755813888 := by
      rcases Int.lt_or_le 549755813888 s with h | h
      · have := Int.mul_le_mul (show 549755813888 ≤ s by omega) (show 549755813888 ≤ m1 + m2 by omega) (by decide) s0
        omega
      · exact h
    have hbs : bsh c bo m1 m2 = s := by
      unfold bsh fq
      rw [e1, e2, e3, if_neg (by omega), hs, (fx_in s (by omega) (by omega)).1]
    have hbsok : bshok c bo m1 m2 = true := by
      unfold bshok fqok
      rw [e1, e2, e3, f1, f2, f3, hs, (fx_in s (by omega) (by omega)).2, decide_eq_false (by omega)]; rfl
    rw [hbs]
    refine ⟨hbsok, ?_⟩
    clear hbs hbsok hs hg e1 f1 e2 f2 e3 f3
    have sm : s * (m1 + m2) = s * m1 + s * m2 := Int.mul_add _ _ _
    have sp1 : 0 ≤ s * m1 := Int.mul_nonneg s0 (by omega)
    have sp2 : 0 ≤ s * m2 := Int.mul_nonneg s0 (by omega)
    have hM1 : ml s m2 = rsh (s * m2) ∧ mlok s m2 = true := by
      have := ml_in s m2 549755813888 35184372088832 4503599627370496 (by omega) s1 (by omega) n3 (by decide) (by decide); exact ⟨this.1, this.2.1⟩
    have hM2 : ml s m1 = rsh (s * m1) ∧ mlok s m1 = true := by
      have := ml_in s m1 549755813888 35184372088832 4503599627370496 (by omega) s1 (by omega) n1 (by decide) (by decide); exact ⟨this.1, this.2.1⟩
    rw [hM1.1, hM2.1]
    unfold turnok
    rw [hM1.1, hM2.1, hM1.2, hM2.2]
    clear hM1 hM2
    have P1 := push_near m1 m2 s ux vx wx (by omega) n1 (by omega) n3 u0 u1
    have P2 := push_near m1 m2 s uy vy wy (by omega) n1 (by omega) n3 u2 u3
    obtain ⟨η1, hη1, j0, j1⟩ := rsh_e (s * m2)
    obtain ⟨η2, hη2, j2, j3⟩ := rsh_e (s * m1)
    have N1 : 0 ≤ rsh (s * m2) ∧ rsh (s * m2) ≤ 388800000000 := by omega
    have N2 : 0 ≤ rsh (s * m1) ∧ rsh (s * m1) ≤ 388800000000 := by omega
    generalize rsh (s * m2) = p1 at *
    generalize rsh (s * m1) = p2 at *
    obtain ⟨ea, fa, ca, da⟩ := ml_in ux p1 4294967296 388800000000 388800000000 u0 u1 (by omega) N1.2 (by decide) (by decide)
    obtain ⟨eb, fb, cb, db⟩ := ml_in uy p1 4294967296 388800000000 388800000000 u2 u3 (by omega) N1.2 (by decide) (by decide)
    obtain ⟨ec, fc, cc, dc⟩ := ml_in ux p2 4294967296 388800000000 388800000000 u0 u1 (by omega) N2.2 (by decide) (by decide)
    obtain ⟨ed, fd, cd, dd⟩ := ml_in uy p2 4294967296 388800000000 388800000000 u2 u3 (by omega) N2.2 (by decide) (by decide)
    obtain ⟨α1, ha1, i0, i1⟩ := rsh_e (ux * p1)
    obtain ⟨β1, hb1, i2, i3⟩ := rsh_e (uy * p1)
    obtain ⟨α2, ha2, i4, i5⟩ := rsh_e (ux * p2)
    obtain ⟨β2, hb2, i6, i7⟩ := rsh_e (uy * p2)
    have T1 : ∀ (v a : Int), -68719476736 ≤ v → v ≤ 68719476736 → -(388800000000 + 1) ≤ a → a ≤ 388800000000 + 1 → clm (sat (ad true v a)) (-549755813888) 549755813888 = v - a ∧ fx (ad true v a) = true := by
      intro v a h0 h1 h2 h3
      have e : ad true v a = v - a := rfl
      rw [e]
      obtain ⟨g1, g2⟩ := fx_in (v - a) (by omega) (by omega)
      rw [g1]
      exact ⟨by unfold clm; rw [if_neg (by omega), if_neg (by omega)], g2⟩
    have T2 : ∀ (v a : Int), -68719476736 ≤ v → v ≤ 68719476736 → -(388800000000 + 1) ≤ a → a ≤ 388800000000 + 1 → clm (sat (ad false v a)) (-549755813888) 549755813888 = v + a ∧ fx (ad false v a) = true := by
      intro v a h0 h1 h2 h3
      have e : ad false v a = v + a := rfl
      rw [e]
      obtain ⟨g1, g2⟩ := fx_in (v + a) (by omega) (by omega)
      rw [g1]
      exact ⟨by unfold clm; rw [if_neg (by omega), if_neg (by omega)], g2⟩
    unfold tn tnok
    rw [ea, eb, ec, ed, fa, fb, fc, fd]
    generalize rsh (ux * p1) = a1 at *
    generalize rsh (uy * p1) = a2 at *
    generalize rsh (ux * p2) = a3 at *
    generalize rsh (uy * p2) = a4 at *
    have t1 := T1 vx a1 x0 x1 ca da
    have t2 := T1 vy a2 x2 x3 cb db
    have t3 := T2 wx a3 y0 y1 cc dc
    have t4 := T2 wy a4 y2 y3 cd dd
    rw [t1.1, t2.1, t3.1, t4.1, t1.2, t2.2, t3.2, t4.2]
    clear T1 T2 t1 t2 t3 t4 ea eb ec ed fa fb fc fd
    -- the parts' own rests
    have w1 := mulb ux η1 4294967296 2147483648 u0 u1 j0 j1
    have w2 := mulb uy η1 4294967296 2147483648 u2 u3 j0 j1
    have w3 := mulb ux η2 4294967296 2147483648 u0 u1 j2 j3
    have w4 := mulb uy η2 4294967296 2147483648 u2 u3 j2 j3
    have A1 : a1 * 18446744073709551616 = ux * (s * m2) + (ux * η1 + α1 * 4294967296) := by
      have : a1 * 18446744073709551616 = (a1 * 4294967296) * 4294967296 := by omega
      rw [this, ha1, Int.add_mul, Int.mul_assoc, hη1, Int.mul_add]; omega
    have A2 : a2 * 18446744073709551616 = uy * (s * m2) + (uy * η1 + β1 * 4294967296) := by
      have : a2 * 18446744073709551616 = (a2 * 4294967296) * 4294967296 := by omega
      rw [this, hb1, Int.add_mul, Int.mul_assoc, hη1, Int.mul_add]; omega
    have A3 : a3 * 18446744073709551616 = ux * (s * m1) + (ux * η2 + α2 * 4294967296) := by
      have : a3 * 18446744073709551616 = (a3 * 4294967296) * 4294967296 := by omega
      rw [this, ha2, Int.add_mul, Int.mul_assoc, hη2, Int.mul_add]; omega
    have A4 : a4 * 18446744073709551616 = uy * (s * m1) + (uy * η2 + β2 * 4294967296) := by
      have : a4 * 18446744073709551616 = (a4 * 4294967296) * 4294967296 := by omega
      rw [this, hb2, Int.add_mul, Int.mul_assoc, hη2, Int.mul_add]; omega
    clear ha1 hb1 ha2 hb2 hη1 hη2
    have I1 : -18446744073709551616 ≤ ux * η1 + α1 * 4294967296 ∧ ux * η1 + α1 * 4294967296 ≤ 18446744073709551616 := by omega
    have I2 : -18446744073709551616 ≤ uy * η1 + β1 * 4294967296 ∧ uy * η1 + β1 * 4294967296 ≤ 18446744073709551616 := by omega
    have I3 : -18446744073709551616 ≤ ux * η2 + α2 * 4294967296 ∧ ux * η2 + α2 * 4294967296 ≤ 18446744073709551616 := by omega
    have I4 : -18446744073709551616 ≤ uy * η2 + β2 * 4294967296 ∧ uy * η2 + β2 * 4294967296 ≤ 18446744073709551616 := by omega
    generalize ux * η1 + α1 * 4294967296 = R1 at *
    generalize uy * η1 + β1 * 4294967296 = R2 at *
    generalize ux * η2 + α2 * 4294967296 = R3 at *
    generalize uy * η2 + β2 * 4294967296 = R4 at *
    refine ⟨rfl, ⟨⟨by omega, by omega, by omega, by omega⟩, by omega, by omega, by omega, by omega⟩, ⟨P1, P2⟩, ?_, ?_⟩
    · have E := bump_energy m1 m2 s ux uy vx vy wx wy a1 a2 a3 a4 R1 R2 R3 R4 c (4294967296 + bo) (γ + κ) (ε1 + ε2) A1 A2 A3 A4 I1.1 I1.2 I2.1 I2.2 I3.1 I3.2 I4.1 I4.2 (by omega) n1 (by omega) n3 u0 u1 u2 u3 U1 x0 x1 x2 x3 y0 y1 y2 y3 hcc (by omega) c1 (by omega) (by omega) hsS s0 (by omega)
      have E1 := en_err m1 (vx - a1) (vy - a2) (by omega) n1
      have E2 := en_err m2 (wx + a3) (wy + a4) (by omega) n3
      have E3 := en_err m1 vx vy (by omega) n1
      have E4 := en_err m2 wx wy (by omega) n3
      clear A1 A2 A3 A4 P1 P2 hcc hsS U0 U1
      generalize m1 * ((vx - a1) * (vx - a1) + (vy - a2) * (vy - a2)) = z1 at *
      generalize m2 * ((wx + a3) * (wx + a3) + (wy + a4) * (wy + a4)) = z2 at *
      generalize m1 * (vx * vx + vy * vy) = z3 at *
      generalize m2 * (wx * wx + wy * wy) = z4 at *
      generalize rsh (m1 * (rsh ((vx - a1) * (vx - a1)) + rsh ((vy - a2) * (vy - a2)))) = y1 at *
      generalize rsh (m2 * (rsh ((wx + a3) * (wx + a3)) + rsh ((wy + a4) * (wy + a4)))) = y2 at *
      generalize rsh (m1 * (rsh (vx * vx) + rsh (vy * vy))) = y3 at *
      generalize rsh (m2 * (rsh (wx * wx) + rsh (wy * wy))) = y4 at *
      clear w1 w2 w3 w4 ct0 ct1 hγ hκ sm sp1 sp2
      omega
    · intro _
      obtain ⟨ε3, hε3, k4, k5⟩ := rsh_e ((vx - a1 - (wx + a3)) * ux)
      obtain ⟨ε4, hε4, k6, k7⟩ := rsh_e ((vy - a2 - (wy + a4)) * uy)
      refine bump_after m1 m2 s ux uy (vx - wx) (vy - wy) a1 a2 a3 a4 R1 R2 R3 R4 c (4294967296 + bo) (γ + κ) (ε1 + ε2) _ (ε3 + ε4) A1 A2 A3 A4 I1.1 I1.2 I2.1 I2.2 I3.1 I3.2 I4.1 I4.2 (by omega) n1 (by omega) n3 u0 u1 u2 u3 U0 hcc (by omega) c1 (by omega) (by omega) hsS s0 (by omega) ?_ (by omega)
      rw [Int.add_mul, hε3, hε4, show vx - wx - a1 - a3 = vx - a1 - (wx + a3) by omega, show vy - wy - a2 - a4 = vy - a2 - (wy + a4) by omega]
      omega
  · intro hno
    rw [hcl] at hno
    refine ⟨⟨⟨by omega, by omega, by omega, by omega⟩, by omega, by omega, by omega, by omega⟩, ⟨⟨by omega, by omega⟩, by omega, by omega⟩, by omega, ?_⟩
    intro ht
    rw [ht, Bool.true_and, decide_eq_false_iff_not] at hno
    omega
end Go.Proofs.Ytgdoaibgcjdklaa
