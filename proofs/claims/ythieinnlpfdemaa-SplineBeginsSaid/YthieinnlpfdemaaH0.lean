/- Plain words of package plane: near places, areas, sides. No Go in sight. -/
import Derived.Test.YthieinnlpfdemaaA6
import Derived.Test.YthieinnlpfdemaaF0
set_option linter.unusedSimpArgs false
set_option linter.unusedVariables false
namespace Go.Proofs.Ythieinnlpfdemaa
open Go.RowKit
theorem later_cf {Q : Prop} {a : Addr} {v : Value} {W w1 : World} (hb : Below W.heap.size W w1) (q : W.cell? a = some v) (f : W.frozen? a = false) (k : w1.cell? a = some v → w1.frozen? a = false → Q) : Q :=
  k (cell_later hb q) (frozen_later hb q f)
theorem carry_cf {Q : Prop} {a : Addr} {v : Value} {W W' w1 : World} (hb : Below W'.heap.size W' w1) (q : W.cell? a = some v) (f : W.frozen? a = false) (k : w1.cell? a = some v → w1.frozen? a = false → Q) (hW : W' = W ∨ (∃ o, W' = W.alloc o) ∨ (∃ o o', W' = (W.alloc o).alloc o') := by first | exact Or.inl rfl | exact Or.inr (Or.inl ⟨_, rfl⟩) | exact Or.inr (Or.inr ⟨_, _, rfl⟩)) : Q := by
  rcases hW with rfl | ⟨o, rfl⟩ | ⟨o, o', rfl⟩
  · exact k (cell_later hb q) (frozen_later hb q f)
  · exact k (cell_later hb (ck q)) (frozen_later hb (ck q) (fk q f))
  · exact k (cell_later hb (ck (ck q))) (frozen_later hb (ck (ck q)) (fk (ck q) (fk q f)))
theorem lt_k {Q : Prop} {m n : Nat} (h : m < n) (k : m < n → m ≠ n → n ≠ m → Q) : Q := k h (Nat.ne_of_lt h) (Nat.ne_of_gt h)
theorem ne_k {Q : Prop} {m n : Nat} (h : m ≠ n) (k : m ≠ n → n ≠ m → Q) : Q := k h h.symm
/-- Is a place near enough? -/
def pn (x y : Int) : Bool := decide (-281474976710656 ≤ x ∧ x ≤ 281474976710656 ∧ -281474976710656 ≤ y ∧ y ≤ 281474976710656)
theorem pn_iff (x y : Int) : pn x y = true ↔ (-281474976710656 ≤ x ∧ x ≤ 281474976710656 ∧ -281474976710656 ≤ y ∧ y ≤ 281474976710656) := by unfold pn; simp
/-- Are the first n places near enough? -/
def nrs (X Y : Nat → Int) : Nat → Bool
  | 0 => true
  | n + 1 => nrs X Y n && pn (X n) (Y n)
theorem nrs_yes {X Y : Nat → Int} {n k : Nat} (h : nrs X Y n = true) (hk : k < n) : pn (X k) (Y k) = true := by
  induction n with
  | zero => omega
  | succ n ih =>
    simp only [nrs, Bool.and_eq_true] at h
    rcases (show k < n ∨ k = n by omega) with h1 | rfl
    · exact ih h.1 h1
    · exact h.2
theorem nrs_no {X Y : Nat → Int} {n k : Nat} (h : pn (X k) (Y k) = false) (hk : k < n) : nrs X Y n = false := by
  cases hn : nrs X Y n
  · rfl
  · rw [nrs_yes hn hk] at h; cases h
/-- Twice the area. -/
def ar (ax ay bx bY px py : Int) : Int := (bx - ax) * (py - ay) - (bY - ay) * (px - ax)
/-- How far two ways go together. -/
def dp (ax ay bx bY px py : Int) : Int := (bx - ax) * (px - ax) + (bY - ay) * (py - ay)
theorem mul49 (a b : Int) (a0 : -562949953421312 ≤ a) (a1 : a ≤ 562949953421312) (b0 : -562949953421312 ≤ b) (b1 : b ≤ 562949953421312) : -316912650057057350374175801344 ≤ a * b ∧ a * b ≤ 316912650057057350374175801344 := by
  have h1 : 0 ≤ (562949953421312 - a) * (562949953421312 - b) := Int.mul_nonneg (by omega) (by omega)
  have h2 : 0 ≤ (562949953421312 + a) * (562949953421312 + b) := Int.mul_nonneg (by omega) (by omega)
  have h3 : 0 ≤ (562949953421312 - a) * (562949953421312 + b) := Int.mul_nonneg (by omega) (by omega)
  have h4 : 0 ≤ (562949953421312 + a) * (562949953421312 - b) := Int.mul_nonneg (by omega) (by omega)
  simp only [Int.sub_mul, Int.mul_sub, Int.add_mul, Int.mul_add] at h1 h2 h3 h4
  generalize a * b = p at *
  omega
theorem ar_bd (ax ay bx bY px py : Int) (ha : pn ax ay = true) (hb : pn bx bY = true) (hp : pn px py = true) : -633825300114114700748351602688 ≤ ar ax ay bx bY px py ∧ ar ax ay bx bY px py ≤ 633825300114114700748351602688 := by
  rw [pn_iff] at ha hb hp
  have h1 := mul49 (bx - ax) (py - ay) (by omega) (by omega) (by omega) (by omega)
  have h2 := mul49 (bY - ay) (px - ax) (by omega) (by omega) (by omega) (by omega)
  unfold ar; omega
theorem dp_bd (ax ay bx bY px py : Int) (ha : pn ax ay = true) (hb : pn bx bY = true) (hp : pn px py = true) : -633825300114114700748351602688 ≤ dp ax ay bx bY px py ∧ dp ax ay bx bY px py ≤ 633825300114114700748351602688 := by
  rw [pn_iff] at ha hb hp
  have h1 := mul49 (bx - ax) (px - ax) (by omega) (by omega) (by omega) (by omega)
  have h2 := mul49 (bY - ay) (py - ay) (by omega) (by omega) (by omega) (by omega)
  unfold dp; omega
/-- A number's sign. -/
def sgn (n : Int) : Int := cmp3 n 0
/-- A side; 0 where a place is too far off. -/
def sd (ax ay bx bY px py : Int) : Int := if (pn ax ay && pn bx bY && pn px py) = true then sgn (ar ax ay bx bY px py) else 0
theorem ar_turn (ax ay bx bY px py : Int) : ar bx bY ax ay px py = -ar ax ay bx bY px py := by unfold ar; grind
theorem ar_ring (ax ay bx bY px py : Int) : ar bx bY px py ax ay = ar ax ay bx bY px py := by unfold ar; grind
theorem sgn_neg (n : Int) : sgn (-n) = -sgn n := by unfold sgn cmp3; split <;> split <;> (try split) <;> omega
theorem sd_turn (ax ay bx bY px py : Int) : sd bx bY ax ay px py = -sd ax ay bx bY px py := by
  unfold sd
  rw [ar_turn, sgn_neg, Bool.and_comm (pn bx bY) (pn ax ay)]
  split <;> rfl
theorem sd_ring (ax ay bx bY px py : Int) : sd bx bY px py ax ay = sd ax ay bx bY px py := by
  unfold sd
  rw [ar_ring, show (pn bx bY && pn px py && pn ax ay) = (pn ax ay && pn bx bY && pn px py) by cases pn ax ay <;> cases pn bx bY <;> cases pn px py <;> rfl]
end Go.Proofs.Ythieinnlpfdemaa
