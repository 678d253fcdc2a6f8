/- Lines that are not right; and any line: what is wrong with it, where it is. -/
import Derived.Test.YthieinnlpfdemaaS4
import Derived.Test.YthieinnlpfdemaaS8
import Derived.Test.YthieinnlpfdemaaS13
set_option linter.unusedSimpArgs false
set_option linter.unusedVariables false
namespace Go.Proofs.Ythieinnlpfdemaa
open Go.RowKit
/-- What is wrong with any line. -/
def rv (X Y : Nat → Int) (n : Nat) : Int := if n < 3 ∨ 64 < n then 42 else if nrs X Y n = true then 0 else 40
theorem rv_cases (X Y : Nat → Int) (n : Nat) : (rv X Y n = 42 ∨ rv X Y n = 40) ∨ (rv X Y n = 0 ∧ 3 ≤ n ∧ n ≤ 64 ∧ nrs X Y n = true) := by
  unfold rv; split
  · exact Or.inl (Or.inl rfl)
  · split
    · rename_i h1 h2; exact Or.inr ⟨rfl, by omega, by omega, h2⟩
    · exact Or.inl (Or.inr rfl)
theorem cRight (p : Option Addr) (n c : Nat) (X Y : Nat → Int) (w : World) (hS : Sl p n c X Y w) : Calls Try.prog 9 #[.slice p n c] w fun e w' => e = .returned (.int .i64 (rv X Y n)) ∧ Below w.heap.size w w' := by
  unfold rv
  rcases hS with ⟨rfl, rfl, rfl⟩ | ⟨a, rfl, h2, -, -, hP⟩
  · exact cRightN none 0 0 w (by decide) (by decide)
  · by_cases h : n < 3 ∨ 64 < n
    · rw [if_pos h]; exact cRightN (some a) n c w h h2
    · rw [if_neg h]; exact cRightY a n c X Y w (by omega) (by omega) hP
theorem rRight (p : Option Addr) (n c : Nat) (X Y : Nat → Int) (w : World) (hS : Sl p n c X Y w) : Calls Try.prog 10 #[.slice p n c] w fun e w' => e = .returned (.int .i64 (rv X Y n)) ∧ Below w.heap.size w w' := by
  unfold rv
  rcases hS with ⟨rfl, rfl, rfl⟩ | ⟨a, rfl, h2, -, -, hP⟩
  · exact rRightN none 0 0 w (by decide) (by decide)
  · by_cases h : n < 3 ∨ 64 < n
    · rw [if_pos h]; exact rRightN (some a) n c w h h2
    · rw [if_neg h]; exact rRightY a n c X Y w (by omega) (by omega) hP
theorem rAtN (p : Option Addr) (n c : Nat) (i t : Int) (X Y : Nat → Int) (b : Nat) (o : Bool) (w : World) (hS : Sl p n c X Y w) (h : rv X Y n = 42 ∨ rv X Y n = 40) (hc : w.cell? ⟨b, 0, none⟩ = some (.bool o)) (hf : w.frozen? ⟨b, 0, none⟩ = false) :
    Calls Try.prog 12 #[.pointer (some ⟨b, 0, none⟩), .slice p n c, .int .i64 i, .int .i64 t] w fun e w' => e = .returned (.agg #[.int .i64 0, .int .i64 0]) ∧ Mv b o w w' := by
  have hb := lt_of_cell hc
  have HM := Mv.refl hc hf
  clear hc hf
  have k1 : ∀ W, Below w.heap.size w W → Calls Try.prog 10 #[.slice p n c] W fun e w' => e = .returned (.int .i64 (rv X Y n)) ∧ Below W.heap.size W w' := fun W hB => rRight p n c X Y W (hS.later hB)
  clear hS
  have HB0 : Below w.heap.size w (w.alloc (Obj.cells #[.int .i64 0, .int .i64 0] 32)) := by (repeat (first | with_reducible assumption | with_reducible exact Below.refl _ _ | ((with_reducible refine Below.setCell ?_ ?_ _); rotate_left; (first | exact Nat.le_refl _ | (dsimp only; omega) | (simp; done) | (simp; omega))) | with_reducible refine below_alloc ?_ _ | with_reducible apply below_drewN | with_reducible apply Below.drew | with_reducible refine below_step ?_ (by assumption)))
  generalize rv X Y n = r at *
  rcases h with rfl | rfl
  all_goals go_enter Try.func12, Try.ntmps12
  all_goals go_wp2_with (fail)
  all_goals (go_at_call 10; (with_reducible refine (k1 _ HB0).mono ?_); rintro e w1 ⟨rfl, hM⟩; have hr := cell_later (a := ⟨w.heap.size, 0, none⟩) (v := .int .i64 0) hM (by first | assumption | (simp (maxDischargeDepth := 6) [go_sem, *]; done)); have hg := frozen_later (a := ⟨w.heap.size, 0, none⟩) (v := .int .i64 0) hM (by first | assumption | (simp (maxDischargeDepth := 6) [go_sem, *]; done)) (by first | assumption | (simp (maxDischargeDepth := 6) [go_sem, *]; done)); have hr := cell_later (a := ⟨w.heap.size, 1, none⟩) (v := .int .i64 0) hM (by first | assumption | (simp (maxDischargeDepth := 6) [go_sem, *]; done)); have hg := frozen_later (a := ⟨w.heap.size, 1, none⟩) (v := .int .i64 0) hM (by first | assumption | (simp (maxDischargeDepth := 6) [go_sem, *]; done)) (by first | assumption | (simp (maxDischargeDepth := 6) [go_sem, *]; done)))
  all_goals clear k1 HB0
  all_goals go_wp2
  all_goals simp (maxDischargeDepth := 8) [bodyPost, results, Try.results12, go_sem, *]
  all_goals (repeat (first | with_reducible assumption | with_reducible exact Mv.refl (by assumption) (by assumption) | with_reducible apply Mv.alloc | with_reducible apply Mv.drew | with_reducible apply Mv.drewN | ((with_reducible apply Mv.setCell); rotate_left; (first | (dsimp only; omega) | omega | (simp; omega)); (first | (dsimp only; omega) | omega | (simp; omega))) | ((with_reducible apply Mv.below); rotate_left; (with_reducible assumption)) | ((with_reducible apply Mv.trans); rotate_left; (with_reducible assumption))))
theorem cAtN (p : Option Addr) (n c : Nat) (i t : Int) (X Y : Nat → Int) (b : Nat) (o : Bool) (w : World) (hn : n ≤ 100) (hS : Sl p n c X Y w) (h : rv X Y n = 42 ∨ rv X Y n = 40) (hc : w.cell? ⟨b, 0, none⟩ = some (.bool o)) (hf : w.frozen? ⟨b, 0, none⟩ = false) :
    Calls Try.prog 11 #[.pointer (some ⟨b, 0, none⟩), .slice p n c, .int .i64 i, .int .i64 t] w fun e w' => e = .returned (.agg #[.int .i64 0, .int .i64 0]) ∧ Mv b o w w' := by
  unfold rv at h
  by_cases hd : n < 3 ∨ 64 < n
  · exact cAtNo p n c i t b o w (by omega) hd hc hf
  · rw [if_neg hd] at h
    rcases hS with ⟨rfl, rfl, rfl⟩ | ⟨a, rfl, h2, -, -, hP⟩
    · omega
    · cases hN : nrs X Y n with
      | true => rw [hN] at h; simp at h
      | false => exact cAtFar a n c i X Y t b o w (by omega) (by omega) hN hP hc hf
theorem cSampN (p : Option Addr) (n c : Nat) (X Y : Nat → Int) (b : Nat) (o : Bool) (w : World) (hS : Sl p n c X Y w) (h : rv X Y n = 42 ∨ rv X Y n = 40) (hc : w.cell? ⟨b, 0, none⟩ = some (.bool o)) (hf : w.frozen? ⟨b, 0, none⟩ = false) :
    Calls Try.prog 15 #[.pointer (some ⟨b, 0, none⟩), .slice p n c] w fun e w' => e = .returned (.slice none 0 0) ∧ Mv b o w w' := by
  have HM := Mv.refl hc hf
  clear hc hf
  have k1 : ∀ W, Below w.heap.size w W → Calls Try.prog 9 #[.slice p n c] W fun e w' => e = .returned (.int .i64 (rv X Y n)) ∧ Below W.heap.size W w' := fun W hB => cRight p n c X Y W (hS.later hB)
  clear hS
  generalize rv X Y n = r at *
  rcases h with rfl | rfl
  all_goals go_enter Try.func15, Try.ntmps15
  all_goals go_wp2_with ((go_at_call 9; (with_reducible refine (k1 _ (Below.refl _ _)).mono ?_); rintro e w1 ⟨rfl, hM⟩))
  all_goals go_ret
  all_goals exact ⟨rfl, by (repeat (first | with_reducible assumption | with_reducible exact Mv.refl (by assumption) (by assumption) | with_reducible apply Mv.alloc | with_reducible apply Mv.drew | with_reducible apply Mv.drewN | ((with_reducible apply Mv.setCell); rotate_left; (first | (dsimp only; omega) | omega | (simp; omega)); (first | (dsimp only; omega) | omega | (simp; omega))) | ((with_reducible apply Mv.below); rotate_left; (with_reducible assumption)) | ((with_reducible apply Mv.trans); rotate_left; (with_reducible assumption))))⟩
theorem rSampN (p : Option Addr) (n c : Nat) (X Y : Nat → Int) (b : Nat) (o : Bool) (w : World) (hS : Sl p n c X Y w) (h : rv X Y n = 42 ∨ rv X Y n = 40) (hc : w.cell? ⟨b, 0, none⟩ = some (.bool o)) (hf : w.frozen? ⟨b, 0, none⟩ = false) :
    Calls Try.prog 16 #[.pointer (some ⟨b, 0, none⟩), .slice p n c] w fun e w' => e = .returned (.slice none 0 0) ∧ Mv b o w w' := by
  have HM := Mv.refl hc hf
  clear hc hf
  have k1 : ∀ W, Below w.heap.size w W → Calls Try.prog 10 #[.slice p n c] W fun e w' => e = .returned (.int .i64 (rv X Y n)) ∧ Below W.heap.size W w' := fun W hB => rRight p n c X Y W (hS.later hB)
  clear hS
  generalize rv X Y n = r at *
  rcases h with rfl | rfl
  all_goals go_enter Try.func16, Try.ntmps16
  all_goals go_wp2_with ((go_at_call 10; (with_reducible refine (k1 _ (Below.refl _ _)).mono ?_); rintro e w1 ⟨rfl, hM⟩))
  all_goals go_ret
  all_goals exact ⟨rfl, by (repeat (first | with_reducible assumption | with_reducible exact Mv.refl (by assumption) (by assumption) | with_reducible apply Mv.alloc | with_reducible apply Mv.drew | with_reducible apply Mv.drewN | ((with_reducible apply Mv.setCell); rotate_left; (first | (dsimp only; omega) | omega | (simp; omega)); (first | (dsimp only; omega) | omega | (simp; omega))) | ((with_reducible apply Mv.below); rotate_left; (with_reducible assumption)) | ((with_reducible apply Mv.trans); rotate_left; (with_reducible assumption))))⟩
/-- Where any line is: a number of it, and whether all fits. -/
def lav (V X Y : Nat → Int) (n : Nat) (i t : Int) : Int := if rv X Y n = 0 then pvx V n (pc i n) t else 0
def lao (X Y : Nat → Int) (n : Nat) (i t : Int) : Bool := if rv X Y n = 0 then pox X n (pc i n) t && pox Y n (pc i n) t else true
theorem or_two (o a b : Bool) : (o || !a || !b) = (o || !(a && b)) := by cases o <;> cases a <;> cases b <;> rfl
theorem Pt.ne {a : Addr} {n : Nat} {X Y : Nat → Int} {w w0 : World} (h : Pt a n X Y w0) (hn : 3 ≤ n) {b : Nat} (hb : w0.heap.size ≤ b) : a.block ≠ b := by have := h.block (by omega); omega
theorem cAtAny (p : Option Addr) (n c : Nat) (i : Int) (X Y : Nat → Int) (t : Int) (b : Nat) (o : Bool) (w0 w : World) (hn : n ≤ 100) (i_0 : -9223372036854775808 ≤ i) (i_1 : i ≤ 9223372036854775807) (t_0 : -9223372036854775808 ≤ t) (t_1 : t ≤ 9223372036854775807) (hS : Sl p n c X Y w0) (hb : w0.heap.size ≤ b) (hB : Below w0.heap.size w0 w) (hc : w.cell? ⟨b, 0, none⟩ = some (.bool o)) (hf : w.frozen? ⟨b, 0, none⟩ = false) :
    Calls Try.prog 11 #[.pointer (some ⟨b, 0, none⟩), .slice p n c, .int .i64 i, .int .i64 t] w fun e w' => e = .returned (.agg #[.int .i64 (lav X X Y n i t), .int .i64 (lav Y X Y n i t)]) ∧ Mv b (o || !lao X Y n i t) w w' := by
  unfold lav lao
  rcases rv_cases X Y n with h | ⟨h, h3, h4, hN⟩
  · have h0 : ¬ rv X Y n = 0 := by omega
    rw [if_neg h0, if_neg h0, if_neg h0]
    simp only [Bool.not_true, Bool.or_false]
    exact cAtN p n c i t X Y b o w hn (hS.later hB) h hc hf
  · rw [if_pos h, if_pos h, if_pos h, ← or_two]
    rcases hS with ⟨rfl, rfl, rfl⟩ | ⟨a, rfl, h2, -, -, hP⟩
    · omega
    · exact cAt a n c i X Y t b o w h3 h4 i_0 i_1 t_0 t_1 hN (hP.later hB) (by have := hP.block (by omega); omega) hc hf
theorem rAtAny (p : Option Addr) (n c : Nat) (i : Int) (X Y : Nat → Int) (t : Int) (b : Nat) (o : Bool) (w0 w : World) (hn : n ≤ 100) (i_0 : -9223372036854775808 ≤ i) (i_1 : i ≤ 9223372036854775807) (t_0 : -9223372036854775808 ≤ t) (t_1 : t ≤ 9223372036854775807) (hS : Sl p n c X Y w0) (hb : w0.heap.size ≤ b) (hB : Below w0.heap.size w0 w) (hc : w.cell? ⟨b, 0, none⟩ = some (.bool o)) (hf : w.frozen? ⟨b, 0, none⟩ = false) :
    Calls Try.prog 12 #[.pointer (some ⟨b, 0, none⟩), .slice p n c, .int .i64 i, .int .i64 t] w fun e w' => e = .returned (.agg #[.int .i64 (lav X X Y n i t), .int .i64 (lav Y X Y n i t)]) ∧ Mv b (o || !lao X Y n i t) w w' := by
  unfold lav lao
  rcases rv_cases X Y n with h | ⟨h, h3, h4, hN⟩
  · have h0 : ¬ rv X Y n = 0 := by omega
    rw [if_neg h0, if_neg h0, if_neg h0]
    simp only [Bool.not_true, Bool.or_false]
    exact rAtN p n c i t X Y b o w (hS.later hB) h hc hf
  · rw [if_pos h, if_pos h, if_pos h, ← or_two]
    rcases hS with ⟨rfl, rfl, rfl⟩ | ⟨a, rfl, h2, -, -, hP⟩
    · omega
    · exact rAt a n c i X Y t b o w h3 h4 i_0 i_1 t_0 t_1 hN (hP.later hB) (by have := hP.block (by omega); omega) hc hf
end Go.Proofs.Ythieinnlpfdemaa
