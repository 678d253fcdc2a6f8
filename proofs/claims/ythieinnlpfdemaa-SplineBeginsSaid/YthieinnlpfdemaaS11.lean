/- The example of the laws on lines: a square. -/
import Derived.Test.YthieinnlpfdemaaS3
import Derived.Test.YthieinnlpfdemaaS6
import Derived.Test.YthieinnlpfdemaaS9
import Derived.Test.YthieinnlpfdemaaM1
set_option linter.unusedSimpArgs false
set_option linter.unusedVariables false
namespace Go.Proofs.Ythieinnlpfdemaa
open Go.RowKit
/-! ### The nearest sample, in plain words -/
theorem bst_spec (X Y : Nat → Int) (px py : Int) (k : Nat) (hk : 0 < k) : 0 ≤ bst X Y px py k ∧ (∀ j, j < k → sq2 X Y px py (bst X Y px py k).toNat ≤ sq2 X Y px py j) ∧ (∀ j : Nat, (j : Int) < bst X Y px py k → sq2 X Y px py (bst X Y px py k).toNat < sq2 X Y px py j) := by
  induction k with
  | zero => omega
  | succ k ih =>
    rcases Nat.eq_zero_or_pos k with rfl | hk
    · have e : bst X Y px py (0 + 1) = 0 := by rw [bst, if_pos (Or.inl (by rw [bst]; decide))]; rfl
      rw [e]
      exact ⟨by omega, fun j hj => by obtain rfl : j = 0 := by omega
                                      exact Int.le_refl _, fun j hj => by omega⟩
    · obtain ⟨h1, h2, h3⟩ := ih hk
      have hb := bst_bd X Y px py k
      rw [bst]
      split
      · rename_i h
        have h : sq2 X Y px py k < sq2 X Y px py (bst X Y px py k).toNat := by rcases h with h | h; omega; exact h
        refine ⟨by omega, fun j hj => ?_, fun j hj => ?_⟩
        · rw [show ((k : Int)).toNat = k by omega]
          by_cases e : j = k
          · subst e; exact Int.le_refl _
          · exact Int.le_of_lt (Int.lt_of_lt_of_le h (h2 j (by omega)))
        · rw [show ((k : Int)).toNat = k by omega]
          exact Int.lt_of_lt_of_le h (h2 j (by omega))
      · rename_i h
        refine ⟨h1, fun j hj => ?_, h3⟩
        by_cases e : j = k
        · subst e; omega
        · exact h2 j (by omega)
theorem bst_eq (X Y : Nat → Int) (px py : Int) (n m : Nat) (hm : m < n) (h : ∀ j, j < n → j = m ∨ sq2 X Y px py m < sq2 X Y px py j) : bst X Y px py n = m := by
  obtain ⟨h1, h2, _⟩ := bst_spec X Y px py n (by omega)
  have hb := bst_bd X Y px py n
  rcases h (bst X Y px py n).toNat (by omega) with h3 | h3
  · omega
  · have := h2 m hm; omega
/-! ### A square's numbers -/
def sqX (j : Nat) : Int := if j = 1 ∨ j = 2 then 34359738368 else 0
def sqY (j : Nat) : Int := if j = 2 ∨ j = 3 then 34359738368 else 0
def lt8 (j : Nat) : Int := if j % 8 = 0 ∨ j % 8 = 7 then 3443541464 else if j % 8 = 1 ∨ j % 8 = 6 then 4308054556 else if j % 8 = 2 ∨ j % 8 = 5 then 4964695434 else 5308391740
def lsum : Nat → Int
  | 0 => 0
  | j + 1 => lsum j + lt8 j
theorem e_nrs : nrs sqX sqY 4 = true := by kernel_rfl
theorem e_smok : smok sqX sqY 4 32 = true := by kernel_rfl
theorem e_pc : pc 5 4 = 1 := by kernel_rfl
theorem e_x : pvx sqX 4 1 0 = 34359738368 := by kernel_rfl
theorem e_y : pvx sqY 4 1 0 = 0 := by kernel_rfl
theorem e_ox : pox sqX 4 1 0 = true := by kernel_rfl
theorem e_oy : pox sqY 4 1 0 = true := by kernel_rfl
theorem e_nrs2 : nrs (SV sqX 4) (SV sqY 4) 32 = true := by kernel_rfl
theorem e_pn : pn 38654705664 (-4294967296) = true := by kernel_rfl
theorem e_near : ∀ j, j < 32 → j = 8 ∨ sq2 (SV sqX 4) (SV sqY 4) 38654705664 (-4294967296) 8 < sq2 (SV sqX 4) (SV sqY 4) 38654705664 (-4294967296) j := of_decide_eq_true (by kernel_rfl)
theorem e_bst : bst (SV sqX 4) (SV sqY 4) 38654705664 (-4294967296) 32 = 8 := bst_eq _ _ _ _ 32 8 (by decide) e_near
theorem e_tab : ∀ j, j < 32 → (0 ≤ lt8 j ∧ lt8 j ≤ 9223372036854775807 ∧ lt8 j * lt8 j ≤ dX (SV sqX 4) 32 j * dX (SV sqX 4) 32 j + dX (SV sqY 4) 32 j * dX (SV sqY 4) 32 j ∧ dX (SV sqX 4) 32 j * dX (SV sqX 4) 32 j + dX (SV sqY 4) 32 j * dX (SV sqY 4) 32 j < (lt8 j + 1) * (lt8 j + 1)) ∧ (fw (dX (SV sqX 4) 32 j * dX (SV sqX 4) 32 j + dX (SV sqY 4) 32 j * dX (SV sqY 4) 32 j) = true ∧
    fx (SV sqX 4 ((j + 1) % 32) - SV sqX 4 j) = true ∧ fx (SV sqY 4 ((j + 1) % 32) - SV sqY 4 j) = true ∧ fx (lsum j + lt8 j) = true) := of_decide_eq_true (by kernel_rfl)
theorem e_bd : ∀ j, j < 32 → -9223372036854775808 ≤ lsum j + lt8 j ∧ lsum j + lt8 j ≤ 9223372036854775807 := of_decide_eq_true (by kernel_rfl)
theorem e_rt (j : Nat) (hj : j < 32) : lnok (dX (SV sqX 4) 32 j * dX (SV sqX 4) 32 j + dX (SV sqY 4) 32 j * dX (SV sqY 4) 32 j) = true ∧ dL (SV sqX 4) (SV sqY 4) 32 j = lt8 j := by
  obtain ⟨⟨h0, h1, h2, h3⟩, h4, h5, h6, h7⟩ := e_tab j hj
  have hr := rt_unique _ _ h0 h2 h3
  have hl : lnok (dX (SV sqX 4) 32 j * dX (SV sqX 4) 32 j + dX (SV sqY 4) 32 j * dX (SV sqY 4) 32 j) = true := by
    unfold lnok; rw [h4, hr, decide_eq_true h1]; rfl
  exact ⟨hl, by unfold dL ln; rw [if_pos hl]; exact hr⟩
theorem e_LV : ∀ j, j ≤ 32 → LV (SV sqX 4) (SV sqY 4) 32 j = lsum j := by
  intro j
  induction j with
  | zero => intro _; rfl
  | succ j ih =>
    intro hj
    have hb := e_bd j (by omega)
    rw [LV, ih (by omega), (e_rt j (by omega)).2, sat_id _ hb.1 hb.2]; rfl
theorem e_LO (j : Nat) (hj : j < 32) : LO (SV sqX 4) (SV sqY 4) 32 j = true := by
  obtain ⟨-, h4, h5, h6, h7⟩ := e_tab j hj
  unfold LO
  rw [e_LV j (by omega), (e_rt j hj).2, (e_rt j hj).1, h5, h6, h7]; rfl
theorem e_lok : ∀ j, j ≤ 32 → lok (SV sqX 4) (SV sqY 4) 32 j = true := by
  intro j
  induction j with
  | zero => intro _; rfl
  | succ j ih => intro hj; rw [lok, ih (by omega), e_LO j (by omega)]; rfl
theorem e_last : LV (SV sqX 4) (SV sqY 4) 32 32 = 144197465552 := by rw [e_LV 32 (by omega)]; kernel_rfl
theorem px_near (V : Nat → Int) (n i k : Nat) (hn : 0 < n) (h : ∀ j, j < n → -281474976710656 ≤ V j ∧ V j ≤ 281474976710656) : -281474976710656 ≤ px V n i k ∧ px V n i k ≤ 281474976710656 := h _ (Nat.mod_lt _ hn)
theorem SV_bd (V : Nat → Int) (n j : Nat) : -9223372036854775808 ≤ SV V n j ∧ SV V n j ≤ 9223372036854775807 := ⟨ml_lo _ _, ml_hi _ _⟩
theorem cSample (w : World) : Calls Try.prog 35 #[] w fun e w' => ∃ g : Nat, e = .returned (.slice (some ⟨g, 0, none⟩) 4 4) ∧ w.heap.size ≤ g ∧ Pt ⟨g, 0, none⟩ 4 sqX sqY w' ∧ Below w.heap.size w w' := by
  go_enter Try.func35, Try.ntmps35
  go_wp2
  go_ret
  refine ⟨w.heap.size, rfl, Nat.le_refl _, fun j hj => ?_, by (repeat (first | with_reducible assumption | with_reducible exact Below.refl _ _ | ((with_reducible refine Below.setCell ?_ ?_ _); rotate_left; (first | exact Nat.le_refl _ | (dsimp only; omega) | (simp; done) | (simp; omega))) | with_reducible refine below_alloc ?_ _ | with_reducible apply below_drewN | with_reducible apply Below.drew | with_reducible refine below_step ?_ (by assumption)))⟩
  rcases (show j = 0 ∨ j = 1 ∨ j = 2 ∨ j = 3 by omega) with rfl | rfl | rfl | rfl <;> exact ⟨by simp [sqX, Addr.add, go_sem], by simp [sqY, Addr.add, go_sem]⟩
end Go.Proofs.Ythieinnlpfdemaa
