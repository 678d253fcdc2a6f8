/- Plain law: how far a place is behind a stretch, rounded up. No Go in sight. -/
import Derived.Test.YtcijddjfadcanaaH3
set_option linter.unusedSimpArgs false
set_option linter.unusedVariables false
namespace Go.Proofs.Ytcijddjfadcanaa
theorem sq_le_of {a b : Int} (hb : 0 ≤ b) (h : a * a ≤ b * b) : a ≤ b := by
  rcases Int.lt_or_le b a with h1 | h1
  · have := Int.mul_le_mul (show b + 1 ≤ a by omega) (show b + 1 ≤ a by omega) (by omega) (by omega)
    rw [Int.add_mul, Int.mul_add] at this
    omega
  · exact h1
theorem sq0 (e : Int) : 0 ≤ e * e := by
  rcases Int.le_total 0 e with h | h
  · exact Int.mul_nonneg h h
  · exact Int.mul_nonneg_of_nonpos_of_nonpos h h
/-- The quotient, rounded to the nearest, brought up. -/
theorem up_div (N D : Int) (hD : 1 ≤ D) (hN : 1 ≤ N) (hb : N ≤ D * 2251799813685248) :
    dok N D = true ∧ dq N D = qn N D ∧ (if qn N D * D < N then qn N D + 1 else qn N D) = -((-N) / D) ∧ 0 ≤ qn N D ∧ qn N D ≤ 2251799813685249 := by
  have e := Int.mul_ediv_add_emod N D
  have r0 := Int.emod_nonneg N (show D ≠ 0 by omega)
  have r1 := Int.emod_lt_of_pos N (show 0 < D by omega)
  have q0 : 0 ≤ N / D := Int.ediv_nonneg (by omega) (by omega)
  have q1 : N / D ≤ 2251799813685248 := Int.le_of_lt_add_one (Int.ediv_lt_of_lt_mul (by omega) (by rw [Int.add_mul, Int.mul_comm 2251799813685248 D]; omega))
  have qb : 0 ≤ qn N D ∧ qn N D ≤ 2251799813685249 := by unfold qn; split <;> omega
  have hr : rdiv N D = qn N D := by
    unfold rdiv
    rw [decide_eq_false (show ¬ N < 0 by omega), decide_eq_false (show ¬ D < 0 by omega), if_neg (by decide), show ((N.natAbs : Nat) : Int) = N by omega, show ((D.natAbs : Nat) : Int) = D by omega]
  have hk : dok N D = true := by
    unfold dok
    rw [hr, fx_yes _ (by omega) (by omega), decide_eq_false (by omega)]; rfl
  refine ⟨hk, by unfold dq; rw [hk, hr]; rfl, ?_, qb⟩
  have hc : (-N) / D = if N % D = 0 then -(N / D) else -(N / D) - 1 := by
    rw [Int.mul_comm] at e
    split
    · rename_i h
      have := (Int.ediv_emod_unique (a := -N) (b := D) (q := -(N / D)) (r := 0) (by omega)).mpr ⟨by rw [Int.mul_neg, Int.mul_comm]; omega, by omega, by omega⟩
      exact this.1
    · rename_i h
      have := (Int.ediv_emod_unique (a := -N) (b := D) (q := -(N / D) - 1) (r := D - N % D) (by omega)).mpr ⟨by rw [Int.mul_sub, Int.mul_neg, Int.mul_comm D]; omega, by omega, by omega⟩
      exact this.1
  rw [hc]
  rw [Int.mul_comm] at e
  unfold qn
  by_cases h : D < 2 * (N % D) ∨ (2 * (N % D) = D ∧ N / D % 2 = 1)
  · rw [if_pos h, if_neg (by rw [Int.add_mul]; omega), if_neg (by omega)]; omega
  · rw [if_neg h]
    by_cases h0 : N % D = 0
    · rw [if_pos h0, if_neg (by omega)]; omega
    · rw [if_neg h0, if_pos (by omega)]; omega
/-- The length of a stretch, as a whole number. -/
def lg (ax ay bx bY : Int) : Int := rt (dp ax ay bx bY bx bY)
/-- How far a place is behind a stretch. -/
def bh (ax ay bx bY px py : Int) : Int :=
  if ((pn ax ay && pn bx bY && pn px py) && (decide (ar ax ay bx bY px py < 0) && wn ax ay bx bY px py)) = true then -(ar ax ay bx bY px py / lg ax ay bx bY) else 0
theorem far_bd (ax ay bx bY px py : Int) (ha : pn ax ay = true) (hb : pn bx bY = true) (hp : pn px py = true) (h : ar ax ay bx bY px py < 0) :
    1 ≤ lg ax ay bx bY ∧ lg ax ay bx bY ≤ 1125899906842624 ∧ 0 ≤ dp ax ay bx bY bx bY ∧ dp ax ay bx bY bx bY ≤ 633825300114114700748351602688 ∧ -ar ax ay bx bY px py ≤ lg ax ay bx bY * 2251799813685248 := by
  obtain ⟨d0, d1⟩ := dp_bd ax ay bx bY bx bY ha hb hb
  obtain ⟨e0, e1⟩ := dp_bd ax ay px py px py ha hp hp
  have n1 := sq0 (bx - ax); have n2 := sq0 (bY - ay); have n3 := sq0 (dp ax ay bx bY px py)
  have n4 := sq0 (px - ax); have n5 := sq0 (py - ay)
  have hd0 : 0 ≤ dp ax ay bx bY bx bY := by unfold dp; omega
  have hv0 : 0 ≤ dp ax ay px py px py := by unfold dp; omega
  have lag : ar ax ay bx bY px py * ar ax ay bx bY px py + dp ax ay bx bY px py * dp ax ay bx bY px py = dp ax ay bx bY bx bY * dp ax ay px py px py := by unfold ar dp; grind
  have hpos : 1 ≤ dp ax ay bx bY bx bY := by
    rcases Int.lt_or_le 0 (dp ax ay bx bY bx bY) with h1 | h1
    · omega
    · have z : dp ax ay bx bY bx bY = 0 := by omega
      rw [z, Int.zero_mul] at lag
      have := Int.mul_pos_of_neg_of_neg h h
      omega
  have r1 := rt_le (dp ax ay bx bY bx bY) hd0
  have r2 := rt_gt (dp ax ay bx bY bx bY) hd0
  have r3 := rt_nonneg (dp ax ay bx bY bx bY)
  unfold lg
  generalize dp ax ay bx bY bx bY = D at *
  generalize dp ax ay px py px py = V at *
  generalize dp ax ay bx bY px py = G at *
  generalize ar ax ay bx bY px py = A at *
  generalize rt D = L at *
  have hL : 1 ≤ L := by
    rcases Int.lt_or_le 0 L with h1 | h1
    · omega
    · have : L = 0 := by omega
      subst this; omega
  have hL2 : L ≤ 1125899906842624 := sq_le_of (by decide) (by omega)
  refine ⟨hL, hL2, hd0, d1, ?_⟩
  refine sq_le_of (by omega) ?_
  have k1 : D ≤ 4 * (L * L) := by
    have := Int.mul_le_mul (show L + 1 ≤ 2 * L by omega) (show L + 1 ≤ 2 * L by omega) (by omega) (by omega)
    rw [show 2 * L * (2 * L) = 4 * (L * L) by grind] at this
    omega
  have k2 : D * V ≤ 4 * (L * L) * 633825300114114700748351602688 := Int.mul_le_mul k1 e1 hv0 (by have := sq0 L; omega)
  rw [show -A * -A = A * A by grind, show L * 2251799813685248 * (L * 2251799813685248) = L * L * 5070602400912917605986812821504 by grind]
  generalize L * L = q at *
  omega
end Go.Proofs.Ytcijddjfadcanaa
