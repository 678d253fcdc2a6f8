/- Plain laws of directions. No Go in sight. -/
import Derived.Test.YtjpkkpflamkjkaaT1
set_option linter.unusedSimpArgs false
set_option linter.unusedVariables false
namespace Go.Proofs.Ytjpkkpflamkjkaa
open Go.RowKit
/-- Does a direction of the first quarter not lie beyond (x, y)? -/
def hd (x y t : Int) : Bool := decide (x * sinv t ≤ y * cosv t)
theorem hd_down (x y s t : Int) (x0 : 0 ≤ x) (y0 : 0 ≤ y) (h0 : 0 ≤ s) (h : s ≤ t) (h1 : t ≤ 1073741824) (ht : hd x y t = true) : hd x y s = true := by
  have m := sinv_rises s t h0 h h1
  unfold hd at *
  rw [decide_eq_true_eq] at *
  have a := Int.mul_le_mul_of_nonneg_left m.1 x0
  have b := Int.mul_le_mul_of_nonneg_left m.2 y0
  omega
theorem hd_0 (x y : Int) (y0 : 0 ≤ y) : hd x y 0 = true := by
  unfold hd
  rw [sinv_q0 0 (by decide) (by decide), gq_0, cosv_q0 0 (by decide) (by decide), show (1073741824 : Int) - 0 = 1073741824 by decide, gq_end, Int.mul_zero, decide_eq_true_eq]
  omega
/-- The last direction of the first quarter that does not lie beyond. -/
def IsF (x y a : Int) : Prop := 0 ≤ a ∧ a ≤ 1073741824 ∧ hd x y a = true ∧ (a < 1073741824 → hd x y (a + 1) = false)
theorem IsF.iff {x y a : Int} (h : IsF x y a) (x0 : 0 ≤ x) (y0 : 0 ≤ y) (t : Int) (t0 : 0 ≤ t) (t1 : t ≤ 1073741824) : hd x y t = true ↔ t ≤ a := by
  obtain ⟨a0, a1, ha, hn⟩ := h
  constructor
  · intro ht
    rcases Int.lt_or_le a t with h1 | h1
    · have := hd_down x y (a + 1) t x0 y0 (by omega) (by omega) t1 ht
      rw [hn (by omega)] at this; cases this
    · exact h1
  · intro h1
    exact hd_down x y t a x0 y0 t0 h1 a1 ha
theorem IsF.test {x y a : Int} (h : IsF x y a) (x0 : 0 ≤ x) (y0 : 0 ≤ y) (t : Int) (t0 : 0 ≤ t) (t1 : t ≤ 1073741824) : (0 ≤ cmp3 (y * cosv t) (x * sinv t)) ↔ t ≤ a := by
  rw [← h.iff x0 y0 t t0 t1]
  unfold hd cmp3
  rw [decide_eq_true_eq]
  split <;> (try split) <;> omega
theorem IsF.one {x y a b : Int} (ha : IsF x y a) (hb : IsF x y b) (x0 : 0 ≤ x) (y0 : 0 ≤ y) : a = b := by
  have h1 := (ha.iff x0 y0 b hb.1 hb.2.1).1 hb.2.2.1
  have h2 := (hb.iff x0 y0 a ha.1 ha.2.1).1 ha.2.2.1
  omega
theorem isF_upto (x y : Int) (y0 : 0 ≤ y) (n : Nat) : ∃ a : Int, 0 ≤ a ∧ a ≤ n ∧ hd x y a = true ∧ (a < n → hd x y (a + 1) = false) := by
  induction n with
  | zero => exact ⟨0, by omega, by omega, hd_0 x y y0, by omega⟩
  | succ n ih =>
    cases hh : hd x y ((n : Int) + 1) with
    | true => exact ⟨(n : Int) + 1, by omega, by omega, hh, by omega⟩
    | false =>
      obtain ⟨a, a0, a1, ha, hn⟩ := ih
      refine ⟨a, a0, by omega, ha, fun h => ?_⟩
      rcases (show a < n ∨ a = n by omega) with h1 | rfl
      · exact hn h1
      · exact hh
theorem isF_ex (x y : Int) (y0 : 0 ≤ y) : ∃ a, IsF x y a := by
  obtain ⟨a, a0, a1, ha, hn⟩ := isF_upto x y y0 1073741824
  exact ⟨a, a0, a1, ha, hn⟩
theorem isF_lt {x y a : Int} (h : IsF x y a) (x0 : 0 < x) (y0 : 0 ≤ y) : a < 1073741824 := by
  rcases (show a < 1073741824 ∨ a = 1073741824 by have := h.2.1; omega) with h1 | rfl
  · exact h1
  · have := h.2.2.1
    unfold hd at this
    rw [sinv_q0 1073741824 (by decide) (by decide), gq_end, cosv_q0 1073741824 (by decide) (by decide), show (1073741824 : Int) - 1073741824 = 0 by decide, gq_0, Int.mul_zero, decide_eq_true_eq] at this
    omega
/-- Which direction two numbers have. -/
def IsT (x y d : Int) : Prop :=
  (x = 0 ∧ y = 0 ∧ d = 0) ∨ (¬ (x = 0 ∧ y = 0) ∧ ∃ a, (0 ≤ x ∧ 0 ≤ y ∧ IsF x y a ∧ d = a) ∨ (x < 0 ∧ 0 ≤ y ∧ IsF y (-x) a ∧ d = 1073741824 + a) ∨ (x ≤ 0 ∧ y < 0 ∧ IsF (-x) (-y) a ∧ d = 2147483648 + a) ∨ (0 < x ∧ y < 0 ∧ IsF (-y) x a ∧ d = 3221225472 + a))
theorem isT_ex (x y : Int) : ∃ d, IsT x y d := by
  by_cases h : x = 0 ∧ y = 0
  · exact ⟨0, Or.inl ⟨h.1, h.2, rfl⟩⟩
  · rcases (show (0 ≤ x ∧ 0 ≤ y) ∨ (x < 0 ∧ 0 ≤ y) ∨ (x ≤ 0 ∧ y < 0) ∨ (0 < x ∧ y < 0) by omega) with ⟨h1, h2⟩ | ⟨h1, h2⟩ | ⟨h1, h2⟩ | ⟨h1, h2⟩
    · obtain ⟨a, ha⟩ := isF_ex x y h2
      exact ⟨a, Or.inr ⟨h, a, Or.inl ⟨h1, h2, ha, rfl⟩⟩⟩
    · obtain ⟨a, ha⟩ := isF_ex y (-x) (by omega)
      exact ⟨_, Or.inr ⟨h, a, Or.inr (Or.inl ⟨h1, h2, ha, rfl⟩)⟩⟩
    · obtain ⟨a, ha⟩ := isF_ex (-x) (-y) (by omega)
      exact ⟨_, Or.inr ⟨h, a, Or.inr (Or.inr (Or.inl ⟨h1, h2, ha, rfl⟩))⟩⟩
    · obtain ⟨a, ha⟩ := isF_ex (-y) x (by omega)
      exact ⟨_, Or.inr ⟨h, a, Or.inr (Or.inr (Or.inr ⟨h1, h2, ha, rfl⟩))⟩⟩
theorem isT_bd {x y d : Int} (h : IsT x y d) : 0 ≤ d ∧ d < 4294967296 := by
  rcases h with ⟨_, _, rfl⟩ | ⟨_, a, ⟨_, _, ha, rfl⟩ | ⟨_, _, ha, rfl⟩ | ⟨_, _, ha, rfl⟩ | ⟨h1, h2, ha, rfl⟩⟩
  · decide
  · have := ha.1; have := ha.2.1; omega
  · have := ha.1; have := ha.2.1; omega
  · have := ha.1; have := ha.2.1; omega
  · have := ha.1; have := isF_lt ha (by omega) (by omega); omega
/-- Opposite directions. -/
theorem isT_back {x y d : Int} (hx : x ≠ 0) (hy : y ≠ 0) (h : IsT x y d) : IsT (-x) (-y) ((d + 2147483648) % 4294967296) := by
  have hb := isT_bd h
  rcases h with ⟨h, _, _⟩ | ⟨_, a, ⟨h1, h2, ha, rfl⟩ | ⟨h1, h2, ha, rfl⟩ | ⟨h1, h2, ha, rfl⟩ | ⟨h1, h2, ha, rfl⟩⟩
  · exact absurd h hx
  · refine Or.inr ⟨by omega, d, Or.inr (Or.inr (Or.inl ⟨by omega, by omega, by rw [Int.neg_neg, Int.neg_neg]; exact ha, ?_⟩))⟩
    have := ha.1; have := ha.2.1; omega
  · refine Or.inr ⟨by omega, a, Or.inr (Or.inr (Or.inr ⟨by omega, by omega, by rw [Int.neg_neg]; exact ha, ?_⟩))⟩
    have := ha.1; have := isF_lt ha (by omega) (by omega); omega
  · refine Or.inr ⟨by omega, a, Or.inl ⟨by omega, by omega, ha, ?_⟩⟩
    have := ha.1; have := ha.2.1; omega
  · refine Or.inr ⟨by omega, a, Or.inr (Or.inl ⟨by omega, by omega, by rw [Int.neg_neg]; exact ha, ?_⟩)⟩
    have := ha.1; have := ha.2.1; omega
theorem isF_45 : IsF 4294967296 4294967296 536870912 := by
  refine ⟨by decide, by decide, by decide +kernel, fun _ => by decide +kernel⟩
theorem isT_45 : IsT 4294967296 4294967296 536870912 := Or.inr ⟨by decide, 536870912, Or.inl ⟨by decide, by decide, isF_45, rfl⟩⟩
theorem sinv_45 : sinv 536870912 = 3037000500 := by decide +kernel
theorem cosv_45 : cosv 0 = 4294967296 := by decide +kernel
end Go.Proofs.Ytjpkkpflamkjkaa
