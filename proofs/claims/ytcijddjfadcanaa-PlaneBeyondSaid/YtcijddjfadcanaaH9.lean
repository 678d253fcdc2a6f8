/- The plain law of PlaneOnce. -/
import Derived.Test.YtcijddjfadcanaaH4
set_option linter.unusedSimpArgs false
set_option linter.unusedVariables false
namespace Go.Proofs.Ytcijddjfadcanaa
open Go.RowKit
theorem sgn_pos (n : Int) : 0 < sgn n ↔ 0 < n := by unfold sgn cmp3; split <;> (try split) <;> omega
theorem sgn_neg' (n : Int) : sgn n < 0 ↔ n < 0 := by unfold sgn cmp3; split <;> (try split) <;> omega
theorem ar_on (ax ay bx bY px py u v k : Int) : ar ax ay bx bY (px + k * u) (py + k * v) = ar ax ay bx bY px py + k * ((bx - ax) * v - (bY - ay) * u) := by unfold ar; grind
theorem ar_way (ax ay px py u v k m : Int) : ar (px + k * u) (py + k * v) (px + m * u) (py + m * v) ax ay = (m - k) * (u * (ay - py) - v * (ax - px)) := by unfold ar; grind
theorem cxb_near (ax ay bx bY px py u v k m : Int) (hk : k < m) (ha : pn ax ay = true) (hb : pn bx bY = true) (hp : pn (px + k * u) (py + k * v) = true) (hq : pn (px + m * u) (py + m * v) = true) :
    cxb ax ay bx bY (px + k * u) (py + k * v) (px + m * u) (py + m * v) =
      (decide (ar ax ay bx bY px py + k * ((bx - ax) * v - (bY - ay) * u) ≤ 0) && decide (0 < ar ax ay bx bY px py + m * ((bx - ax) * v - (bY - ay) * u)) && (decide (0 ≤ u * (ay - py) - v * (ax - px)) && decide (u * (bY - py) - v * (bx - px) < 0))) := by
  unfold cxb sd
  rw [ha, hb, hp, hq]
  simp only [Bool.true_and, if_true, Bool.and_self]
  rw [ar_on, ar_on, ar_way, ar_way]
  generalize ar ax ay bx bY px py = s
  generalize (bx - ax) * v - (bY - ay) * u = c
  generalize u * (ay - py) - v * (ax - px) = e
  generalize u * (bY - py) - v * (bx - px) = f
  generalize k * c = kc
  generalize m * c = mc
  have he : sgn ((m - k) * e) < 0 ↔ e < 0 := by
    rw [sgn_neg']
    constructor
    · intro h
      apply Classical.byContradiction
      intro h2
      have := Int.mul_nonneg (a := m - k) (b := e) (by omega) (by omega)
      omega
    · intro h
      exact Int.mul_neg_of_pos_of_neg (by omega) h
  have hf : 0 ≤ sgn ((m - k) * f) ↔ 0 ≤ f := by
    constructor
    · intro h
      apply Classical.byContradiction
      intro h2
      have h3 := Int.mul_neg_of_pos_of_neg (a := m - k) (b := f) (by omega) (by omega)
      have := (sgn_neg' ((m - k) * f)).2 h3
      omega
    · intro h
      have := Int.mul_nonneg (a := m - k) (b := f) (by omega) h
      apply Classical.byContradiction
      intro h2
      have := (sgn_neg' ((m - k) * f)).1 (by omega)
      omega
  simp only [he, hf]
  rw [Bool.eq_iff_iff]
  simp only [Bool.and_eq_true, Bool.not_eq_true', Bool.or_eq_false_iff, decide_eq_true_eq, decide_eq_false_iff_not]
  omega
theorem once (ax ay bx bY px py u v : Int) (h : -1048576 ≤ ax ∧ ax ≤ 1048576 ∧ -1048576 ≤ ay ∧ ay ≤ 1048576 ∧ -1048576 ≤ bx ∧ bx ≤ 1048576 ∧ -1048576 ≤ bY ∧ bY ≤ 1048576 ∧ -1048576 ≤ px ∧ px ≤ 1048576 ∧ -1048576 ≤ py ∧ py ≤ 1048576 ∧ -1048576 ≤ u ∧ u ≤ 1048576 ∧ -1048576 ≤ v ∧ v ≤ 1048576) :
    ∃ a b : Bool, cxb ax ay bx bY px py (px + 3 * u) (py + 3 * v) = (a || b) ∧ cxb ax ay bx bY px py (px + u) (py + v) = a ∧ cxb ax ay bx bY (px + u) (py + v) (px + 3 * u) (py + 3 * v) = b ∧ (a && b) = false := by
  have ha : pn ax ay = true := (pn_iff _ _).2 (by omega)
  have hb : pn bx bY = true := (pn_iff _ _).2 (by omega)
  have h0 : pn (px + 0 * u) (py + 0 * v) = true := (pn_iff _ _).2 (by omega)
  have h1 : pn (px + 1 * u) (py + 1 * v) = true := (pn_iff _ _).2 (by omega)
  have h3 : pn (px + 3 * u) (py + 3 * v) = true := (pn_iff _ _).2 (by omega)
  have q1 := cxb_near ax ay bx bY px py u v 0 3 (by decide) ha hb h0 h3
  have q2 := cxb_near ax ay bx bY px py u v 0 1 (by decide) ha hb h0 h1
  have q3 := cxb_near ax ay bx bY px py u v 1 3 (by decide) ha hb h1 h3
  simp only [Int.zero_mul, Int.one_mul, Int.add_zero] at q1 q2 q3
  refine ⟨_, _, ?_, q2, q3, ?_⟩
  · rw [q1, Bool.eq_iff_iff]
    generalize ar ax ay bx bY px py = s
    generalize (bx - ax) * v - (bY - ay) * u = c
    generalize u * (ay - py) - v * (ax - px) = e
    generalize u * (bY - py) - v * (bx - px) = f
    simp only [Bool.and_eq_true, Bool.or_eq_true, decide_eq_true_eq]
    omega
  · generalize ar ax ay bx bY px py = s
    generalize (bx - ax) * v - (bY - ay) * u = c
    generalize u * (ay - py) - v * (ax - px) = e
    generalize u * (bY - py) - v * (bx - px) = f
    rw [Bool.eq_false_iff]
    simp only [ne_eq, Bool.and_eq_true, decide_eq_true_eq]
    omega
end Go.Proofs.Ytcijddjfadcanaa
