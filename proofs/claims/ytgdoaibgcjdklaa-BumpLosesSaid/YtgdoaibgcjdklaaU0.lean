/- Contracts of root's directions, and of the document's. -/
import Derived.Test.YtgdoaibgcjdklaaQ2
import Derived.Test.YtgdoaibgcjdklaaR4
import Derived.Test.YtgdoaibgcjdklaaM1
set_option linter.unusedSimpArgs false
set_option linter.unusedVariables false
namespace Go.Proofs.Ytgdoaibgcjdklaa
open Go.RowKit
/-- One part of a direction, and whether it fits. -/
def uq (x n : Int) : Int := if n = 0 then 0 else fq x n
def uok (x n : Int) : Bool := decide (n = 0) || fqok x n
theorem ln_lo (S : Int) : 0 ≤ ln S := by
  unfold ln; split
  · exact rt_nonneg S
  · decide
theorem ln_hi (S : Int) : ln S ≤ 9223372036854775807 := by
  unfold ln lnok; split
  · rename_i h; simp at h; exact h.2
  · decide
theorem fq_nil (n : Int) (h : n ≠ 0) : fq 0 n = 0 ∧ fqok 0 n = true := by
  have e : rdiv (0 * 4294967296) n = 0 := by
    unfold rdiv qn
    rw [show ((0 * 4294967296 : Int).natAbs : Int) = 0 by decide, Int.zero_emod, Int.zero_ediv]
    split <;> rw [if_neg (by omega)] <;> rfl
  unfold fq fqok
  rw [e, if_neg h]
  exact ⟨by decide, by simp [h]; decide⟩
set_option maxHeartbeats 2000000 in
theorem rUnit3 (x y z : Int) (b : Nat) (o : Bool) (w : World) (x_0 : -9223372036854775808 ≤ x) (x_1 : x ≤ 9223372036854775807) (y_0 : -9223372036854775808 ≤ y) (y_1 : y ≤ 9223372036854775807) (z_0 : -9223372036854775808 ≤ z) (z_1 : z ≤ 9223372036854775807) (hc : w.cell? ⟨b, 0, none⟩ = some (.bool o)) (hf : w.frozen? ⟨b, 0, none⟩ = false) :
    Calls Try.prog 46 #[.pointer (some ⟨b, 0, none⟩), .int .i64 x, .int .i64 y, .int .i64 z] w fun e w' =>
      e = .returned (.tuple #[.int .i64 (uq x (ln (x * x + y * y + z * z))), .int .i64 (uq y (ln (x * x + y * y + z * z))), .int .i64 (uq z (ln (x * x + y * y + z * z))), .bool (!decide (ln (x * x + y * y + z * z) = 0))]) ∧
        Mv b (o || !lnok (x * x + y * y + z * z) || !uok x (ln (x * x + y * y + z * z)) || !uok y (ln (x * x + y * y + z * z)) || !uok z (ln (x * x + y * y + z * z))) w w' := by
  have k1 := fun O W => c3Len3 x y z b O W x_0 x_1 y_0 y_1 z_0 z_1
  have n0 := ln_lo (x * x + y * y + z * z)
  have n1 := ln_hi (x * x + y * y + z * z)
  generalize lnok (x * x + y * y + z * z) = p at *
  generalize ln (x * x + y * y + z * z) = n at *
  have HM := Mv.refl hc hf
  clear hc hf
  by_cases hn : n = 0
  · subst hn
    have E : ∀ t, uq t 0 = 0 ∧ uok t 0 = true := fun t => ⟨rfl, rfl⟩
    rw [(E x).1, (E y).1, (E z).1, (E x).2, (E y).2, (E z).2]
    clear E
    go_enter Try.func46, Try.ntmps46
    go_wp2_with ((go_at_call 47; (with_reducible refine (mvCall (b := b) (w0 := w) (by (repeat (first | with_reducible assumption | with_reducible exact Mv.refl (by assumption) (by assumption) | with_reducible apply Mv.alloc | with_reducible apply Mv.drew | with_reducible apply Mv.drewN | ((with_reducible apply Mv.setCell); rotate_left; (first | (dsimp only; omega) | omega | (simp; omega)); (first | (dsimp only; omega) | omega | (simp; omega))) | ((with_reducible apply Mv.below); rotate_left; (with_reducible assumption)) | ((with_reducible apply Mv.trans); rotate_left; (with_reducible assumption))))) (k1 _ _)).mono ?_); rintro e w1 ⟨rfl, hM, HM⟩))
    simp [bodyPost, results, Try.results46, go_sem]
    exact HM
  · have E : ∀ t, uq t n = fq t n ∧ uok t n = fqok t n := fun t => ⟨by unfold uq; rw [if_neg hn], by unfold uok; simp [hn]⟩
    rw [(E x).1, (E y).1, (E z).1, (E x).2, (E y).2, (E z).2, decide_eq_false hn]
    have c0 : (n == 0) = false := by simpa using hn
    have k2 := fun O W => rDiv x n b O W x_0 x_1 (by omega) n1
    have k3 := fun O W => rDiv y n b O W y_0 y_1 (by omega) n1
    have k4 := fun O W => rDiv z n b O W z_0 z_1 (by omega) n1
    clear E hn
    generalize fq x n = qx at *
    generalize fq y n = qy at *
    generalize fq z n = qz at *
    generalize fqok x n = fx0 at *
    generalize fqok y n = fy0 at *
    generalize fqok z n = fz0 at *
    go_enter Try.func46, Try.ntmps46
    go_wp2_with (fail)
    (go_at_call 47; (with_reducible refine (mvCall (b := b) (w0 := w) (by (repeat (first | with_reducible assumption | with_reducible exact Mv.refl (by assumption) (by assumption) | with_reducible apply Mv.alloc | with_reducible apply Mv.drew | with_reducible apply Mv.drewN | ((with_reducible apply Mv.setCell); rotate_left; (first | (dsimp only; omega) | omega | (simp; omega)); (first | (dsimp only; omega) | omega | (simp; omega))) | ((with_reducible apply Mv.below); rotate_left; (with_reducible assumption)) | ((with_reducible apply Mv.trans); rotate_left; (with_reducible assumption))))) (k1 _ _)).mono ?_); rintro e w1 ⟨rfl, hM, HM⟩)
    go_wp2_with (fail)
    (go_at_call 35; (with_reducible refine (mvCall (b := b) (w0 := w) (by (repeat (first | with_reducible assumption | with_reducible exact Mv.refl (by assumption) (by assumption) | with_reducible apply Mv.alloc | with_reducible apply Mv.drew | with_reducible apply Mv.drewN | ((with_reducible apply Mv.setCell); rotate_left; (first | (dsimp only; omega) | omega | (simp; omega)); (first | (dsimp only; omega) | omega | (simp; omega))) | ((with_reducible apply Mv.below); rotate_left; (with_reducible assumption)) | ((with_reducible apply Mv.trans); rotate_left; (with_reducible assumption))))) (k2 _ _)).mono ?_); rintro e w1 ⟨rfl, hM, HM⟩)
    go_wp2_with (fail)
    (go_at_call 35; (with_reducible refine (mvCall (b := b) (w0 := w) (by (repeat (first | with_reducible assumption | with_reducible exact Mv.refl (by assumption) (by assumption) | with_reducible apply Mv.alloc | with_reducible apply Mv.drew | with_reducible apply Mv.drewN | ((with_reducible apply Mv.setCell); rotate_left; (first | (dsimp only; omega) | omega | (simp; omega)); (first | (dsimp only; omega) | omega | (simp; omega))) | ((with_reducible apply Mv.below); rotate_left; (with_reducible assumption)) | ((with_reducible apply Mv.trans); rotate_left; (with_reducible assumption))))) (k3 _ _)).mono ?_); rintro e w1 ⟨rfl, hM, HM⟩)
    go_wp2_with (fail)
    (go_at_call 35; (with_reducible refine (mvCall (b := b) (w0 := w) (by (repeat (first | with_reducible assumption | with_reducible exact Mv.refl (by assumption) (by assumption) | with_reducible apply Mv.alloc | with_reducible apply Mv.drew | with_reducible apply Mv.drewN | ((with_reducible apply Mv.setCell); rotate_left; (first | (dsimp only; omega) | omega | (simp; omega)); (first | (dsimp only; omega) | omega | (simp; omega))) | ((with_reducible apply Mv.below); rotate_left; (with_reducible assumption)) | ((with_reducible apply Mv.trans); rotate_left; (with_reducible assumption))))) (k4 _ _)).mono ?_); rintro e w1 ⟨rfl, hM, HM⟩)
    go_wp2_with (fail)
    simp [bodyPost, results, Try.results46, go_sem]
    exact HM
set_option maxHeartbeats 2000000 in
theorem cUnit2 (x y : Int) (b : Nat) (o : Bool) (w : World) (x_0 : -9223372036854775808 ≤ x) (x_1 : x ≤ 9223372036854775807) (y_0 : -9223372036854775808 ≤ y) (y_1 : y ≤ 9223372036854775807) (hc : w.cell? ⟨b, 0, none⟩ = some (.bool o)) (hf : w.frozen? ⟨b, 0, none⟩ = false) :
    Calls Try.prog 22 #[.pointer (some ⟨b, 0, none⟩), .int .i64 x, .int .i64 y] w fun e w' =>
      e = .returned (.tuple #[.int .i64 (uq x (ln (x * x + y * y))), .int .i64 (uq y (ln (x * x + y * y))), .bool (!decide (ln (x * x + y * y) = 0))]) ∧
        Mv b (o || !lnok (x * x + y * y) || !uok x (ln (x * x + y * y)) || !uok y (ln (x * x + y * y))) w w' := by
  have k1 := fun O W => cLen2 x y b O W x_0 x_1 y_0 y_1
  have n0 := ln_lo (x * x + y * y)
  have n1 := ln_hi (x * x + y * y)
  generalize lnok (x * x + y * y) = p at *
  generalize ln (x * x + y * y) = n at *
  have HM := Mv.refl hc hf
  clear hc hf
  by_cases hn : n = 0
  · subst hn
    have E : ∀ t, uq t 0 = 0 ∧ uok t 0 = true := fun t => ⟨rfl, rfl⟩
    rw [(E x).1, (E y).1, (E x).2, (E y).2]
    clear E
    go_enter Try.func22, Try.ntmps22
    go_wp2_with ((go_at_call 23; (with_reducible refine (mvCall (b := b) (w0 := w) (by (repeat (first | with_reducible assumption | with_reducible exact Mv.refl (by assumption) (by assumption) | with_reducible apply Mv.alloc | with_reducible apply Mv.drew | with_reducible apply Mv.drewN | ((with_reducible apply Mv.setCell); rotate_left; (first | (dsimp only; omega) | omega | (simp; omega)); (first | (dsimp only; omega) | omega | (simp; omega))) | ((with_reducible apply Mv.below); rotate_left; (with_reducible assumption)) | ((with_reducible apply Mv.trans); rotate_left; (with_reducible assumption))))) (k1 _ _)).mono ?_); rintro e w1 ⟨rfl, hM, HM⟩))
    simp [bodyPost, results, Try.results22, go_sem]
    exact HM
  · have E : ∀ t, uq t n = fq t n ∧ uok t n = fqok t n := fun t => ⟨by unfold uq; rw [if_neg hn], by unfold uok; simp [hn]⟩
    rw [(E x).1, (E y).1, (E x).2, (E y).2, decide_eq_false hn]
    have c0 : (n == 0) = false := by simpa using hn
    have k2 := fun O W => cFDiv x n b O W x_0 x_1 (by omega) n1
    have k3 := fun O W => cFDiv y n b O W y_0 y_1 (by omega) n1
    clear E hn
    generalize fq x n = qx at *
    generalize fq y n = qy at *
    generalize fqok x n = fx0 at *
    generalize fqok y n = fy0 at *
    go_enter Try.func22, Try.ntmps22
    go_wp2_with (fail)
    (go_at_call 23; (with_reducible refine (mvCall (b := b) (w0 := w) (by (repeat (first | with_reducible assumption | with_reducible exact Mv.refl (by assumption) (by assumption) | with_reducible apply Mv.alloc | with_reducible apply Mv.drew | with_reducible apply Mv.drewN | ((with_reducible apply Mv.setCell); rotate_left; (first | (dsimp only; omega) | omega | (simp; omega)); (first | (dsimp only; omega) | omega | (simp; omega))) | ((with_reducible apply Mv.below); rotate_left; (with_reducible assumption)) | ((with_reducible apply Mv.trans); rotate_left; (with_reducible assumption))))) (k1 _ _)).mono ?_); rintro e w1 ⟨rfl, hM, HM⟩)
    go_wp2_with (fail)
    (go_at_call 31; (with_reducible refine (mvCall (b := b) (w0 := w) (by (repeat (first | with_reducible assumption | with_reducible exact Mv.refl (by assumption) (by assumption) | with_reducible apply Mv.alloc | with_reducible apply Mv.drew | with_reducible apply Mv.drewN | ((with_reducible apply Mv.setCell); rotate_left; (first | (dsimp only; omega) | omega | (simp; omega)); (first | (dsimp only; omega) | omega | (simp; omega))) | ((with_reducible apply Mv.below); rotate_left; (with_reducible assumption)) | ((with_reducible apply Mv.trans); rotate_left; (with_reducible assumption))))) (k2 _ _)).mono ?_); rintro e w1 ⟨rfl, hM, HM⟩)
    go_wp2_with (fail)
    (go_at_call 31; (with_reducible refine (mvCall (b := b) (w0 := w) (by (repeat (first | with_reducible assumption | with_reducible exact Mv.refl (by assumption) (by assumption) | with_reducible apply Mv.alloc | with_reducible apply Mv.drew | with_reducible apply Mv.drewN | ((with_reducible apply Mv.setCell); rotate_left; (first | (dsimp only; omega) | omega | (simp; omega)); (first | (dsimp only; omega) | omega | (simp; omega))) | ((with_reducible apply Mv.below); rotate_left; (with_reducible assumption)) | ((with_reducible apply Mv.trans); rotate_left; (with_reducible assumption))))) (k3 _ _)).mono ?_); rintro e w1 ⟨rfl, hM, HM⟩)
    go_wp2_with (fail)
    simp [bodyPost, results, Try.results22, go_sem]
    exact HM
set_option maxHeartbeats 2000000 in
theorem rUnit2 (x y : Int) (b : Nat) (o : Bool) (w : World) (x_0 : -9223372036854775808 ≤ x) (x_1 : x ≤ 9223372036854775807) (y_0 : -9223372036854775808 ≤ y) (y_1 : y ≤ 9223372036854775807) (hc : w.cell? ⟨b, 0, none⟩ = some (.bool o)) (hf : w.frozen? ⟨b, 0, none⟩ = false) :
    Calls Try.prog 25 #[.pointer (some ⟨b, 0, none⟩), .int .i64 x, .int .i64 y] w fun e w' =>
      e = .returned (.tuple #[.int .i64 (uq x (ln (x * x + y * y))), .int .i64 (uq y (ln (x * x + y * y))), .bool (!decide (ln (x * x + y * y) = 0))]) ∧
        Mv b (o || !lnok (x * x + y * y) || !uok x (ln (x * x + y * y)) || !uok y (ln (x * x + y * y))) w w' := by
  have k1 := fun O W => rUnit3 x y 0 b O W x_0 x_1 y_0 y_1 (by decide) (by decide)
  rw [show x * x + y * y + 0 * 0 = x * x + y * y by omega] at k1
  generalize lnok (x * x + y * y) = p at *
  generalize ln (x * x + y * y) = n at *
  have E : uok 0 n = true := by
    by_cases hn : n = 0
    · subst hn; rfl
    · unfold uok; rw [(fq_nil n hn).2]; simp
  simp only [E, Bool.not_true, Bool.or_false] at k1
  clear E
  generalize uq x n = qx at *
  generalize uq y n = qy at *
  generalize uok x n = fx0 at *
  generalize uok y n = fy0 at *
  have HM := Mv.refl hc hf
  clear hc hf
  go_enter Try.func25, Try.ntmps25
  go_wp2_with ((go_at_call 46; (with_reducible refine (mvCall (b := b) (w0 := w) (by (repeat (first | with_reducible assumption | with_reducible exact Mv.refl (by assumption) (by assumption) | with_reducible apply Mv.alloc | with_reducible apply Mv.drew | with_reducible apply Mv.drewN | ((with_reducible apply Mv.setCell); rotate_left; (first | (dsimp only; omega) | omega | (simp; omega)); (first | (dsimp only; omega) | omega | (simp; omega))) | ((with_reducible apply Mv.below); rotate_left; (with_reducible assumption)) | ((with_reducible apply Mv.trans); rotate_left; (with_reducible assumption))))) (k1 _ _)).mono ?_); rintro e w1 ⟨rfl, hM, HM⟩))
  simp [bodyPost, results, Try.results25, go_sem]
  exact HM
end Go.Proofs.Ytgdoaibgcjdklaa
