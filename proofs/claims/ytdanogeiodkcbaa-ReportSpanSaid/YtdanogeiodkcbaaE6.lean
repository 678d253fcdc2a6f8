/- Plain laws of times' texts: their order, their signs, what they tell. No Go in sight. -/
import Derived.Test.YtdanogeiodkcbaaE5
set_option linter.unusedSimpArgs false
set_option linter.unusedVariables false
namespace Go.Proofs.Ytdanogeiodkcbaa
open Go.RowKit
theorem dg_mono (n : Nat) : ∀ m, m ≤ n → n < 10 ^ 20 → (dg m).length ≤ (dg n).length := by
  induction n using Nat.strongRecOn with
  | _ n ih =>
    intro m h hn
    by_cases hm : m < 10
    · rw [dg_lt m hm]; simpa using dg_len1 n
    · rw [dg_ge m (by omega) (by omega), dg_ge n (by omega) hn]
      have := ih (n / 10) (by omega) (m / 10) (by omega) (by omega)
      simp; exact this
theorem bl_app (x : List UInt8) : ∀ y u v, x.length = y.length → Op.bytesLess x y = true → Op.bytesLess (x ++ u) (y ++ v) = true := by
  induction x with
  | nil => intro y u v hl h; cases y with
    | nil => simp [Op.bytesLess] at h
    | cons _ _ => simp at hl
  | cons a x ih =>
    intro y u v hl h
    cases y with
    | nil => simp at hl
    | cons b y =>
      simp only [List.cons_append, Op.bytesLess, Bool.or_eq_true, Bool.and_eq_true] at h ⊢
      rcases h with h | ⟨h1, h2⟩
      · exact Or.inl h
      · exact Or.inr ⟨h1, ih y u v (by simpa using hl) h2⟩
theorem bl_pre (x u v : List UInt8) : Op.bytesLess (x ++ u) (x ++ v) = Op.bytesLess u v := by
  induction x with
  | nil => rfl
  | cons a x ih => simp [Op.bytesLess, ih]
theorem ch_lt (a b : Nat) (h : a < b) (hb : b < 200) : UInt8.ofNat (48 + a) < UInt8.ofNat (48 + b) := by
  rw [UInt8.lt_iff_toNat_lt]; simp; omega
theorem bl_head (a b : Nat) (u v : List UInt8) (h : a < b) (hb : b < 200) : Op.bytesLess (UInt8.ofNat (48 + a) :: u) (UInt8.ofNat (48 + b) :: v) = true := by
  simp only [Op.bytesLess, Bool.or_eq_true, decide_eq_true_eq]
  exact Or.inl (ch_lt a b h hb)
theorem bl_same (c : UInt8) (u v : List UInt8) : Op.bytesLess (c :: u) (c :: v) = Op.bytesLess u v := by simp [Op.bytesLess]
theorem bl_dg (n : Nat) : ∀ m, m < n → n < 10 ^ 20 → (dg m).length = (dg n).length → Op.bytesLess (dg m) (dg n) = true := by
  induction n using Nat.strongRecOn with
  | _ n ih =>
    intro m h hn hl
    by_cases h10 : n < 10
    · rw [dg_lt m (by omega), dg_lt n h10]; exact bl_head m n [] [] h (by omega)
    · have hm : 10 ≤ m := by
        rcases Nat.lt_or_ge m 10 with h1 | h1
        · rw [dg_lt m h1, dg_ge n (by omega) hn] at hl
          have := dg_len1 (n / 10)
          simp only [List.length_append, List.length_cons, List.length_nil] at hl
          omega
        · exact h1
      rw [dg_ge m hm (by omega), dg_ge n (by omega) hn] at hl ⊢
      by_cases h1 : m / 10 < n / 10
      · exact bl_app _ _ _ _ (by simpa using hl) (ih (n / 10) (by omega) (m / 10) h1 (by omega) (by simpa using hl))
      · have e : m / 10 = n / 10 := by omega
        rw [e, bl_pre]
        exact bl_head _ _ [] [] (by omega) (by omega)
theorem bl_pd2 (a b : Nat) (u v : List UInt8) (h : a < b) (hb : b < 100) : Op.bytesLess (pd 2 a ++ u) (pd 2 b ++ v) = true := by
  rw [pd_two a (by omega), pd_two b hb]
  simp only [List.cons_append, List.nil_append]
  by_cases h1 : a / 10 < b / 10
  · exact bl_head _ _ _ _ h1 (by omega)
  · rw [show a / 10 = b / 10 by omega, bl_same]
    exact bl_head _ _ _ _ (by omega) (by omega)
theorem bl_pd3 (a b : Nat) (h : a < b) (hb : b < 1000) : Op.bytesLess (pd 3 a) (pd 3 b) = true := by
  rw [pd_three a (by omega), pd_three b hb]
  by_cases h1 : a / 100 < b / 100
  · exact bl_head _ _ _ _ h1 (by omega)
  · rw [show a / 100 = b / 100 by omega, bl_same]
    by_cases h2 : a / 10 % 10 < b / 10 % 10
    · exact bl_head _ _ _ _ h2 (by omega)
    · rw [show a / 10 % 10 = b / 10 % 10 by omega, bl_same]
      exact bl_head _ _ _ _ (by omega) (by omega)
theorem clk_shape (n : Nat) : clk n = dg (n / 60000) ++ ([58] ++ (pd 2 (n / 1000 % 60) ++ ([46] ++ pd 3 (n % 1000)))) := by unfold clk; simp only [List.append_assoc]
theorem clk_len (n : Nat) : (clk n).length = (dg (n / 60000)).length + 7 := by
  rw [clk_shape, pd_two _ (by omega), pd_three _ (by omega)]; simp
/-- More time: no shorter a text; of one length: no less. -/
theorem clk_rises (a b : Nat) (h : a ≤ b) (hb : b < 10 ^ 20) : (clk a).length ≤ (clk b).length ∧ ((clk a).length < (clk b).length ∨ (Op.bytesLess (clk a) (clk b) || clk a == clk b) = true) := by
  have h1 := dg_mono (b / 60000) (a / 60000) (by omega) (by omega)
  refine ⟨by rw [clk_len, clk_len]; omega, ?_⟩
  by_cases hl : (dg (a / 60000)).length < (dg (b / 60000)).length
  · exact Or.inl (by rw [clk_len, clk_len]; omega)
  · refine Or.inr ?_
    by_cases he : a = b
    · subst he; simp
    · rw [Bool.or_eq_true]
      refine Or.inl ?_
      rw [clk_shape, clk_shape]
      by_cases h2 : a / 60000 < b / 60000
      · exact bl_app _ _ _ _ (by omega) (bl_dg _ _ h2 (by omega) (by omega))
      · rw [show a / 60000 = b / 60000 by omega, bl_pre, bl_pre]
        by_cases h3 : a / 1000 % 60 < b / 1000 % 60
        · exact bl_pd2 _ _ _ _ h3 (by omega)
        · rw [show a / 1000 % 60 = b / 1000 % 60 by omega, bl_pre, bl_pre]
          exact bl_pd3 _ _ (by omega) (by omega)
theorem ths_mono (a b r : Int) (h : a ≤ b) (hr : 1 ≤ r) : ths a r ≤ ths b r := Int.ediv_le_ediv (by omega) (by omega)
/-- What digits tell. -/
def vl (l : List UInt8) : Nat := l.foldl (fun a c => 10 * a + (c.toNat - 48)) 0
theorem vl_snoc (l : List UInt8) (c : UInt8) : vl (l ++ [c]) = 10 * vl l + (c.toNat - 48) := by unfold vl; rw [List.foldl_append]; rfl
theorem ch_nat (k : Nat) (h : k < 200) : (UInt8.ofNat (48 + k)).toNat = 48 + k := by simp; omega
theorem vl_dg (n : Nat) : n < 10 ^ 20 → vl (dg n) = n := by
  induction n using Nat.strongRecOn with
  | _ n ih =>
    intro hn
    by_cases h : n < 10
    · rw [dg_lt n h]; show 10 * 0 + ((UInt8.ofNat (48 + n)).toNat - 48) = n; rw [ch_nat n (by omega)]; omega
    · rw [dg_ge n (by omega) hn, vl_snoc, ih (n / 10) (by omega) (by omega), ch_nat _ (by omega)]; omega
theorem dg_digit (n : Nat) : n < 10 ^ 20 → ∀ c ∈ dg n, 48 ≤ c.toNat ∧ c.toNat ≤ 57 := by
  induction n using Nat.strongRecOn with
  | _ n ih =>
    intro hn c hc
    by_cases h : n < 10
    · rw [dg_lt n h] at hc; simp only [List.mem_singleton] at hc; rw [hc, ch_nat n (by omega)]; omega
    · rw [dg_ge n (by omega) hn] at hc
      rcases List.mem_append.1 hc with h1 | h1
      · exact ih (n / 10) (by omega) (by omega) c h1
      · simp only [List.mem_singleton] at h1; rw [h1, ch_nat _ (by omega)]; omega
end Go.Proofs.Ytdanogeiodkcbaa
