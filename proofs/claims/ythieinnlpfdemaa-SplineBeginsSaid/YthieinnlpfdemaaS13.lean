/- Lines as a law's argument; the nearest sample, whatever the samples are. -/
import Derived.Test.YthieinnlpfdemaaS9
import Derived.Test.YthieinnlpfdemaaS10
import Derived.Test.YthieinnlpfdemaaS12
import Derived.Deep.SlicePairs
set_option linter.unusedSimpArgs false
set_option linter.unusedVariables false
namespace Go.Proofs.Ythieinnlpfdemaa
open Go.RowKit
/-- A slice of places, as a law is handed it. -/
def Sl (p : Option Addr) (n c : Nat) (X Y : Nat → Int) (w : World) : Prop :=
  (p = none ∧ n = 0 ∧ c = 0) ∨ ∃ a, p = some a ∧ n ≤ 9223372036854775807 ∧ (∀ j, j < n → -9223372036854775808 ≤ X j ∧ X j ≤ 9223372036854775807) ∧ (∀ j, j < n → -9223372036854775808 ≤ Y j ∧ Y j ≤ 9223372036854775807) ∧ Pt a n X Y w
theorem Sl.later {p : Option Addr} {n c : Nat} {X Y : Nat → Int} {w W : World} (h : Sl p n c X Y w) (hB : Below w.heap.size w W) : Sl p n c X Y W := by
  rcases h with h | ⟨a, h1, h2, h3, h4, h6⟩
  · exact Or.inl h
  · exact Or.inr ⟨a, h1, h2, h3, h4, h6.later hB⟩
theorem add_pair (a : Addr) (j : Nat) : a.add (j * 2 + 1) = ⟨(a.add (j * 2)).block, (a.add (j * 2)).off + 1, none⟩ := by
  rcases j with _ | j
  · rfl
  · show (⟨a.block, a.off + ((j + 1) * 2 + 1), none⟩ : Addr) = _
    have : (j + 1) * 2 = (j * 2 + 1) + 1 := by omega
    rw [this]; rfl
/-- Which of a slice's places is nearest. -/
def nv (X Y : Nat → Int) (px py : Int) (n : Nat) : Int := if (pn px py && nrs X Y n) = true then bst X Y px py n else -1
theorem cNear (p : Option Addr) (n c : Nat) (X Y : Nat → Int) (px py : Int) (w : World) (hn : n ≤ 100) (hS : Sl p n c X Y w) :
    Calls Try.prog 20 #[.slice p n c, .agg #[.int .i64 px, .int .i64 py]] w fun e w' => e = .returned (.int .i64 (nv X Y px py n)) ∧ Below w.heap.size w w' := by
  unfold nv
  cases hp : pn px py with
  | false => exact cNearP p n c px py w hp
  | true =>
    rcases hS with ⟨rfl, rfl, rfl⟩ | ⟨a, rfl, h2, -, -, hP⟩
    · exact cNearQ px py w hp
    · cases hN : nrs X Y n with
      | false => exact cNearF a n c X Y px py w h2 hp hN hP
      | true => exact cNearY a n c X Y px py w (by omega) hp hN hP
theorem rNear (p : Option Addr) (n c : Nat) (X Y : Nat → Int) (px py : Int) (w : World) (hn : n ≤ 100) (hS : Sl p n c X Y w) :
    Calls Try.prog 21 #[.slice p n c, .agg #[.int .i64 px, .int .i64 py]] w fun e w' => e = .returned (.int .i64 (nv X Y px py n)) ∧ Below w.heap.size w w' := by
  unfold nv
  rcases hS with ⟨rfl, rfl, rfl⟩ | ⟨a, rfl, h2, -, -, hP⟩
  · have h := rNearQ px py w
    cases hp : pn px py <;> exact h
  · cases hN : nrs X Y n with
    | false => rw [Bool.and_false]; exact rNearF a n c X Y px py w h2 hN hP
    | true =>
      cases hp : pn px py with
      | false => exact rNearP a n c X Y px py w h2 hp hN hP
      | true => exact rNearY a n c X Y px py w (by omega) hp hN hP
end Go.Proofs.Ythieinnlpfdemaa
