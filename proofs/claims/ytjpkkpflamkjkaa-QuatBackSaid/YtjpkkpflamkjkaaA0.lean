/- Plain facts on whole numbers that the contracts of this seat speak of: two words and their number, what fits, the rounded quotient, the root. No Go in sight. -/
import Derived.WalkKit
import Derived.WalkSmall
import Derived.Deep.RegionHeld3
set_option linter.unusedSimpArgs false
set_option linter.unusedVariables false
namespace Go.Proofs.Ytjpkkpflamkjkaa
open Go.RowKit

/-! ### Two words and their number -/
def wv (h l : Int) : Int := h * 18446744073709551616 + l
def hw (n : Int) : Int := n / 18446744073709551616
def lw (n : Int) : Int := n % 18446744073709551616
/-- Is a number one of 128 bits? -/
def fw (n : Int) : Bool := decide (-170141183460469231731687303715884105728 ≤ n ∧ n ≤ 170141183460469231731687303715884105727)
/-- A number of 128 bits, else 0. -/
def cw (n : Int) : Int := if fw n = true then n else 0

@[simp] theorem wv_hl (n : Int) : wv (hw n) (lw n) = n := by unfold wv hw lw; omega
@[simp] theorem lw_lo (n : Int) : 0 ≤ lw n := by unfold lw; omega
@[simp] theorem lw_hi (n : Int) : lw n ≤ 18446744073709551615 := by unfold lw; omega
theorem hw_lo (n : Int) (h : -170141183460469231731687303715884105728 ≤ n) : -9223372036854775808 ≤ hw n := by unfold hw; omega
theorem hw_hi (n : Int) (h : n ≤ 170141183460469231731687303715884105727) : hw n ≤ 9223372036854775807 := by unfold hw; omega
theorem wv_lo (h l : Int) (h0 : -9223372036854775808 ≤ h) (h1 : 0 ≤ l) : -170141183460469231731687303715884105728 ≤ wv h l := by unfold wv; omega
theorem wv_hi (h l : Int) (h0 : h ≤ 9223372036854775807) (h1 : l ≤ 18446744073709551615) : wv h l ≤ 170141183460469231731687303715884105727 := by unfold wv; omega
theorem hw_wv (h l : Int) (h0 : 0 ≤ l) (h1 : l ≤ 18446744073709551615) : hw (wv h l) = h := by unfold hw wv; omega
theorem lw_wv (h l : Int) (h0 : 0 ≤ l) (h1 : l ≤ 18446744073709551615) : lw (wv h l) = l := by unfold lw wv; omega
theorem fw_yes (n : Int) (h0 : -170141183460469231731687303715884105728 ≤ n) (h1 : n ≤ 170141183460469231731687303715884105727) : fw n = true := by
  unfold fw; exact decide_eq_true ⟨h0, h1⟩
theorem cw_yes (n : Int) (h0 : -170141183460469231731687303715884105728 ≤ n) (h1 : n ≤ 170141183460469231731687303715884105727) : cw n = n := by
  unfold cw; rw [if_pos (fw_yes n h0 h1)]
theorem cw_lo (n : Int) : -170141183460469231731687303715884105728 ≤ cw n := by
  unfold cw fw; split
  · rename_i h; simp at h; omega
  · omega
theorem cw_hi (n : Int) : cw n ≤ 170141183460469231731687303715884105727 := by
  unfold cw fw; split
  · rename_i h; simp at h; omega
  · omega

@[simp] theorem u64w_lo (n : Int) : 0 ≤ IntKind.u64.wrap n := by rw [IntKind.wrap_u64]; omega
@[simp] theorem u64w_hi (n : Int) : IntKind.u64.wrap n ≤ 18446744073709551615 := by rw [IntKind.wrap_u64]; omega

/-- A product of two numbers of 64 bits, from the product of their words. -/
theorem mul_bd (a b : Int) (a0 : -9223372036854775808 ≤ a) (a1 : a ≤ 9223372036854775807) (b0 : -9223372036854775808 ≤ b) (b1 : b ≤ 9223372036854775807) :
    -85070591730234615865843651857942052864 ≤ a * b ∧ a * b ≤ 85070591730234615865843651857942052864 := by
  have h1 : (a + 9223372036854775808) * (b + 9223372036854775808) ≥ 0 := Int.mul_nonneg (by omega) (by omega)
  have h2 : (9223372036854775808 - a) * (9223372036854775808 - b) ≥ 0 := Int.mul_nonneg (by omega) (by omega)
  have h3 : (a + 9223372036854775808) * (9223372036854775808 - b) ≥ 0 := Int.mul_nonneg (by omega) (by omega)
  have h4 : (9223372036854775808 - a) * (b + 9223372036854775808) ≥ 0 := Int.mul_nonneg (by omega) (by omega)
  simp only [Int.add_mul, Int.sub_mul, Int.mul_sub, Int.mul_add] at h1 h2 h3 h4
  generalize a * b = p at *
  omega
theorem mul_words (a b : Int) (a0 : -9223372036854775808 ≤ a) (a1 : a ≤ 9223372036854775807) (b0 : -9223372036854775808 ≤ b) (b1 : b ≤ 9223372036854775807) :
    ∃ s t : Int, a * b = IntKind.u64.wrap a * IntKind.u64.wrap b - 18446744073709551616 * (s * IntKind.u64.wrap b + t * IntKind.u64.wrap a - 18446744073709551616 * (s * t)) ∧
      (a < 0 → s = 1) ∧ (0 ≤ a → s = 0) ∧ (b < 0 → t = 1) ∧ (0 ≤ b → t = 0) := by
  refine ⟨if a < 0 then 1 else 0, if b < 0 then 1 else 0, ?_, fun h => if_pos h, fun h => if_neg (by omega), fun h => if_pos h, fun h => if_neg (by omega)⟩
  have ea : IntKind.u64.wrap a = a + 18446744073709551616 * (if a < 0 then 1 else 0) := by rw [IntKind.wrap_u64]; split <;> omega
  have eb : IntKind.u64.wrap b = b + 18446744073709551616 * (if b < 0 then 1 else 0) := by rw [IntKind.wrap_u64]; split <;> omega
  rw [ea, eb]
  generalize (if a < 0 then (1 : Int) else 0) = s
  generalize (if b < 0 then (1 : Int) else 0) = t
  grind

/-! ### A quotient, rounded to the nearest, half way to the even one -/
def qn (n d : Int) : Int := if d < 2 * (n % d) ∨ (2 * (n % d) = d ∧ n / d % 2 = 1) then n / d + 1 else n / d
def rdiv (a b : Int) : Int := if (decide (a < 0) != decide (b < 0)) = true then - qn (a.natAbs : Int) (b.natAbs : Int) else qn (a.natAbs : Int) (b.natAbs : Int)
/-- Is a number one of 64 bits? -/
def fx (n : Int) : Bool := decide (-9223372036854775808 ≤ n ∧ n ≤ 9223372036854775807)
def dok (a b : Int) : Bool := !decide (b = 0) && fx (rdiv a b)
def dq (a b : Int) : Int := if dok a b = true then rdiv a b else 0
/-- A number by 2^32, rounded so. -/
def rsh (p : Int) : Int := if 2147483648 < p % 4294967296 ∨ (p % 4294967296 = 2147483648 ∧ p / 4294967296 % 2 = 1) then p / 4294967296 + 1 else p / 4294967296

/-! ### The root -/
def nrt : Nat → Nat
  | 0 => 0
  | n + 1 => if (nrt n + 1) * (nrt n + 1) ≤ n + 1 then nrt n + 1 else nrt n
theorem nrt_spec (n : Nat) : nrt n * nrt n ≤ n ∧ n < (nrt n + 1) * (nrt n + 1) := by
  induction n with
  | zero => simp [nrt]
  | succ n ih =>
    unfold nrt
    split
    · rename_i h
      refine ⟨h, ?_⟩
      have : (nrt n + 1 + 1) * (nrt n + 1 + 1) = (nrt n + 1) * (nrt n + 1) + 2 * (nrt n + 1) + 1 := by grind
      omega
    · rename_i h
      exact ⟨by omega, by omega⟩
/-- The greatest number whose square is at most n; 0 below 0. -/
def rt (n : Int) : Int := (nrt n.toNat : Int)
theorem rt_nonneg (n : Int) : 0 ≤ rt n := by unfold rt; omega
theorem rt_le (n : Int) (h : 0 ≤ n) : rt n * rt n ≤ n := by
  have := (nrt_spec n.toNat).1
  unfold rt
  have e : ((nrt n.toNat * nrt n.toNat : Nat) : Int) = (nrt n.toNat : Int) * (nrt n.toNat : Int) := Int.natCast_mul _ _
  rw [← e]; omega
theorem rt_gt (n : Int) (h : 0 ≤ n) : n < (rt n + 1) * (rt n + 1) := by
  have := (nrt_spec n.toNat).2
  unfold rt
  have e : (((nrt n.toNat + 1) * (nrt n.toNat + 1) : Nat) : Int) = ((nrt n.toNat : Int) + 1) * ((nrt n.toNat : Int) + 1) := by rw [Int.natCast_mul]; rfl
  rw [← e]; omega
theorem sq_lt {a b : Int} (ha : 0 ≤ a) (h : a * a < b * b) (hb : 0 ≤ b) : a < b := by
  rcases Int.lt_or_le a b with h' | h'
  · exact h'
  · have := Int.mul_le_mul h' h' hb ha
    omega
theorem sq_le {a b : Int} (ha : 0 ≤ a) (h : a ≤ b) : a * a ≤ b * b := Int.mul_le_mul h h ha (by omega)
theorem rt_unique (n r : Int) (h0 : 0 ≤ r) (h1 : r * r ≤ n) (h2 : n < (r + 1) * (r + 1)) : rt n = r := by
  have hn : 0 ≤ n := by have := Int.mul_nonneg h0 h0; omega
  have a1 := rt_le n hn
  have a2 := rt_gt n hn
  have a3 := rt_nonneg n
  have b1 := sq_lt (a := r) (b := rt n + 1) h0 (by omega) (by omega)
  have b2 := sq_lt (a := rt n) (b := r + 1) a3 (by omega) (by omega)
  omega
theorem rt_neg (n : Int) (h : n ≤ 0) : rt n = 0 := by
  unfold rt
  have : n.toNat = 0 := by omega
  rw [this]; rfl
theorem rt_hi (n : Int) (h1 : n ≤ 170141183460469231731687303715884105727) : rt n ≤ 13043817825332782212 := by
  rcases Int.lt_or_le n 0 with h | h
  · rw [rt_neg n (by omega)]; decide
  · have a1 := rt_le n h
    have := sq_lt (a := rt n) (b := 13043817825332782213) (rt_nonneg n) (by omega) (by decide)
    omega

theorem fx_yes (n : Int) (h0 : -9223372036854775808 ≤ n) (h1 : n ≤ 9223372036854775807) : fx n = true := by
  unfold fx; exact decide_eq_true ⟨h0, h1⟩

/-! ### What a call that only makes memory leaves as it was -/
theorem below_step {w W w1 : World} (h : Below w.heap.size w W) (hb : Below W.heap.size W w1) : Below w.heap.size w w1 := h.trans (hb.mono h.size)
theorem below_alloc {w W : World} (h : Below w.heap.size w W) (o : Obj) : Below w.heap.size w (W.alloc o) := h.alloc h.size o
theorem bsome {W w1 : World} (hb : Below W.heap.size W w1) : ∀ a, (W.cell? a).isSome = true → w1.cell? a = W.cell? a := by
  intro a h
  obtain ⟨v, hv⟩ := Option.isSome_iff_exists.1 h
  exact hb.cell (World.block_lt_of_cell? W a hv)
theorem bfrozen {W w1 : World} (hb : Below W.heap.size W w1) : ∀ a, (W.cell? a).isSome = true → w1.frozen? a = W.frozen? a := by
  intro a h
  obtain ⟨v, hv⟩ := Option.isSome_iff_exists.1 h
  exact hb.frozen (World.block_lt_of_cell? W a hv)
theorem ck {w : World} {a : Addr} {v : Value} {o : Obj} (h : w.cell? a = some v) : (w.alloc o).cell? a = some v := by
  rw [World.cell?_alloc_some w a o (by rw [h]; rfl)]; exact h
attribute [go_sem] World.cell?_alloc_some
end Go.Proofs.Ytjpkkpflamkjkaa
