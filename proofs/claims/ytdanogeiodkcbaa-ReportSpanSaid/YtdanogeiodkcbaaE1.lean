/- Digits of numbers, as texts; a time's thousandths. No Go in sight. -/
import Derived.Test.YtdanogeiodkcbaaA0
set_option linter.unusedSimpArgs false
set_option linter.unusedVariables false
namespace Go.Proofs.Ytdanogeiodkcbaa
open Go.RowKit
def bs (l : List UInt8) : ByteArray := ⟨l.toArray⟩
theorem bs_size (l : List UInt8) : (bs l).size = l.length := by simp [bs, ByteArray.size]
theorem bs_toList (l : List UInt8) : (bs l).toList = l := by simp [bs]
theorem bs_append (a b : List UInt8) : bs a ++ bs b = bs (a ++ b) := ByteArray.mk_append_mk a b
/-- The digits of a number, at most so many. -/
def dgf : Nat → Nat → List UInt8
  | 0, _ => []
  | f + 1, n => if n < 10 then [UInt8.ofNat (48 + n)] else dgf f (n / 10) ++ [UInt8.ofNat (48 + n % 10)]
/-- The digits of a number. -/
def dg (n : Nat) : List UInt8 := dgf 20 n
theorem dgf_s (f n : Nat) : dgf (f + 1) n = if n < 10 then [UInt8.ofNat (48 + n)] else dgf f (n / 10) ++ [UInt8.ofNat (48 + n % 10)] := rfl
theorem dgf_succ (f : Nat) : ∀ n, n < 10 ^ (f + 1) → dgf (f + 1) n = dgf (f + 1 + 1) n := by
  induction f with
  | zero => intro n hn; rw [dgf_s 0 n, dgf_s (0 + 1) n, if_pos (by omega), if_pos (by omega)]
  | succ f ih =>
    intro n hn
    rw [dgf_s (f + 1) n, dgf_s (f + 1 + 1) n]
    split
    · rfl
    · rw [ih (n / 10) (by rw [Nat.pow_succ] at hn; omega)]
theorem dg_lt (n : Nat) (h : n < 10) : dg n = [UInt8.ofNat (48 + n)] := by unfold dg; rw [dgf_s 19 n, if_pos h]
theorem dg_ge (n : Nat) (h : 10 ≤ n) (h1 : n < 10 ^ 20) : dg n = dg (n / 10) ++ [UInt8.ofNat (48 + n % 10)] := by
  unfold dg
  rw [dgf_s 19 n, if_neg (by omega), dgf_succ 18 (n / 10) (by omega)]
theorem dgf_len (f : Nat) : ∀ n, (dgf f n).length ≤ f := by
  induction f with
  | zero => intro n; simp [dgf]
  | succ f ih =>
    intro n
    rw [dgf_s f n]
    split
    · simp
    · have := ih (n / 10); simp; omega
theorem dg_len (n : Nat) : (dg n).length ≤ 20 := dgf_len 20 n
theorem dg_len1 (n : Nat) : 1 ≤ (dg n).length := by
  unfold dg; rw [dgf_s 19 n]; split <;> simp
theorem dg_nil (n : Nat) : dg n ≠ [] := fun h => by have := dg_len1 n; rw [h] at this; simp at this
theorem dg_two (n : Nat) (h : 10 ≤ n) (h1 : n < 100) : dg n = [UInt8.ofNat (48 + n / 10), UInt8.ofNat (48 + n % 10)] := by
  rw [dg_ge n h (by omega), dg_lt (n / 10) (by omega)]; rfl
theorem dg_three (n : Nat) (h : 100 ≤ n) (h1 : n < 1000) : dg n = [UInt8.ofNat (48 + n / 100), UInt8.ofNat (48 + n / 10 % 10), UInt8.ofNat (48 + n % 10)] := by
  rw [dg_ge n (by omega) (by omega), dg_two (n / 10) (by omega) (by omega), Nat.div_div_eq_div_mul]; rfl
/-- What has been taken off, last digits first: u is left of n. -/
def Dg (n u : Nat) (s : List UInt8) : Prop := (s = [] ∧ u = n) ∨ (s ≠ [] ∧ ((u = 0 ∧ s = dg n) ∨ (0 < u ∧ dg n = dg u ++ s)))
theorem Dg.start (n : Nat) : Dg n n [] := Or.inl ⟨rfl, rfl⟩
theorem Dg.step {n u : Nat} {s : List UInt8} (h : Dg n u s) (hn : n < 10 ^ 20) (hu : 0 < u ∨ s = []) (hle : u ≤ n) : Dg n (u / 10) (UInt8.ofNat (48 + u % 10) :: s) := by
  refine Or.inr ⟨by simp, ?_⟩
  have key : dg n = dg u ++ s := by
    rcases h with ⟨rfl, rfl⟩ | ⟨h1, ⟨rfl, h2⟩ | ⟨h2, h3⟩⟩
    · simp
    · rcases hu with h | h
      · omega
      · exact absurd h h1
    · exact h3
  by_cases h10 : u < 10
  · refine Or.inl ⟨by omega, ?_⟩
    rw [key, dg_lt u h10, Nat.mod_eq_of_lt h10]; rfl
  · refine Or.inr ⟨by omega, ?_⟩
    rw [key, dg_ge u (by omega) (by omega)]; simp
theorem Dg.done {n u : Nat} {s : List UInt8} (h : Dg n u s) (hu : u = 0) (hs : s ≠ []) : s = dg n := by
  rcases h with ⟨h, _⟩ | ⟨_, ⟨_, h⟩ | ⟨h, _⟩⟩
  · exact absurd h hs
  · exact h
  · omega
theorem Dg.room {n u : Nat} {s : List UInt8} (h : Dg n u s) (hu : 0 < u ∨ s = []) : s.length < 20 := by
  rcases h with ⟨h, _⟩ | ⟨h0, ⟨h, _⟩ | ⟨h, h1⟩⟩
  · subst h; simp
  · rcases hu with h1 | h1
    · omega
    · exact absurd h1 h0
  · have a := dg_len n; have b := dg_len1 u; rw [h1] at a; simp at a; omega
/-- Digits, at least so many. -/
def pd (k n : Nat) : List UInt8 := List.replicate (k - (dg n).length) 48 ++ dg n
theorem pd_two (n : Nat) (h : n < 100) : pd 2 n = [UInt8.ofNat (48 + n / 10), UInt8.ofNat (48 + n % 10)] := by
  unfold pd
  by_cases h1 : n < 10
  · rw [dg_lt n h1, show n / 10 = 0 by omega, Nat.mod_eq_of_lt h1]; rfl
  · rw [dg_two n (by omega) h]; rfl
theorem pd_three (n : Nat) (h : n < 1000) : pd 3 n = [UInt8.ofNat (48 + n / 100), UInt8.ofNat (48 + n / 10 % 10), UInt8.ofNat (48 + n % 10)] := by
  unfold pd
  by_cases h1 : n < 10
  · rw [dg_lt n h1, show n / 100 = 0 by omega, show n / 10 % 10 = 0 by omega, Nat.mod_eq_of_lt h1]; rfl
  · by_cases h2 : n < 100
    · rw [dg_two n (by omega) h2, show n / 100 = 0 by omega, show n / 10 % 10 = n / 10 by omega]; rfl
    · rw [dg_three n (by omega) h]; rfl
/-- May this time be told? -/
def tok4 (t r : Int) : Bool := decide (0 ≤ t) && decide (1 ≤ r) && decide (r ≤ 1024)
/-- A time's thousandths. -/
def ths (t r : Int) : Int := t * 1000 / (r * 4294967296)
theorem ths_bd (t r : Int) (t0 : 0 ≤ t) (t1 : t ≤ 9223372036854775807) (r0 : 1 ≤ r) : 0 ≤ ths t r ∧ ths t r ≤ 2147483648000 := by
  unfold ths
  refine ⟨Int.ediv_nonneg (by omega) (by omega), ?_⟩
  have h1 : t * 1000 / (r * 4294967296) ≤ t * 1000 / 4294967296 := by
    rw [Int.mul_comm r, ← Int.ediv_ediv_of_nonneg (by decide)]
    exact Int.ediv_le_self _ (by omega)
  omega
theorem ths_doc (t r : Int) (t0 : 0 ≤ t) (r0 : 1 ≤ r) : (t / 4294967296 * 1000 + t % 4294967296 * 1000 / 4294967296) / r = ths t r := by
  unfold ths
  rw [Int.mul_comm r, ← Int.ediv_ediv_of_nonneg (by decide)]
  congr 1; omega
/-- The rounded quotient, and one less where that is more. -/
theorem ths_near (t r : Int) (t0 : 0 ≤ t) (r0 : 1 ≤ r) : (rdiv (t * 1000) (r * 4294967296) * (r * 4294967296) ≤ t * 1000 ∧ rdiv (t * 1000) (r * 4294967296) = ths t r) ∨ (t * 1000 < rdiv (t * 1000) (r * 4294967296) * (r * 4294967296) ∧ rdiv (t * 1000) (r * 4294967296) = ths t r + 1) := by
  unfold ths rdiv
  have hD : 0 < r * 4294967296 := by omega
  generalize r * 4294967296 = D at *
  have hN : 0 ≤ t * 1000 := by omega
  generalize t * 1000 = N at *
  rw [show ((N.natAbs : Nat) : Int) = N by omega, show ((D.natAbs : Nat) : Int) = D by omega, decide_eq_false (show ¬ N < 0 by omega), decide_eq_false (show ¬ D < 0 by omega)]
  rw [if_neg (by decide)]
  have e := Int.mul_ediv_add_emod N D
  have r1 := Int.emod_nonneg N (Int.ne_of_gt hD)
  have r2 := Int.emod_lt_of_pos N hD
  rw [Int.mul_comm] at e
  unfold qn
  split
  · refine Or.inr ⟨?_, rfl⟩
    rw [Int.add_mul, Int.one_mul]; omega
  · refine Or.inl ⟨by omega, rfl⟩
/-- A time's text. -/
def clk (n : Nat) : List UInt8 := dg (n / 60000) ++ [58] ++ pd 2 (n / 1000 % 60) ++ [46] ++ pd 3 (n % 1000)
end Go.Proofs.Ytdanogeiodkcbaa
