/- The contracts of the document's numbers: Sign, Cmp, Add. -/
import Derived.Test.YtjpkkpflamkjkaaB4
import Derived.Test.YtjpkkpflamkjkaaW0
set_option linter.unusedSimpArgs false
set_option linter.unusedVariables false
namespace Go.Proofs.Ytjpkkpflamkjkaa
open Go.RowKit
theorem cRSign (v : Int) (w : World) (h0 : (v.natAbs : Int) ≤ 340282366920938463463374607431768211455) :
    Calls Try.prog 93 #[.agg #[.bool (decide (v < 0)), .int .u64 (d0 (v.natAbs)), .int .u64 (d1 (v.natAbs)), .int .u64 (d2 (v.natAbs)), .int .u64 (d3 (v.natAbs))]] w fun e w' => e = .returned (.int .i64 (cmp3 v 0)) ∧ Below w.heap.size w w' := by
  rcases (show v = 0 ∨ v < 0 ∨ 0 < v by omega) with h | h | h
  · subst h
    go_enter Try.func93, Try.ntmps93
    go_wp2_with (first | (go_at_call 90; refine (cRZero _ _ _ (by omega) (by omega)).mono ?_; rintro e w1 ⟨rfl, hB⟩))
    go_ret
    exact ⟨rfl, by (repeat (first | with_reducible assumption | with_reducible exact Below.refl _ _ | ((with_reducible refine Below.setCell ?_ ?_ _); rotate_left; (first | exact Nat.le_refl _ | (dsimp only; omega) | (simp; done) | (simp; omega))) | with_reducible refine below_alloc ?_ _ | with_reducible apply below_drewN | with_reducible apply Below.drew | with_reducible refine below_step ?_ (by assumption)))⟩
  · have z : decide ((v.natAbs : Int) = 0) = false := decide_eq_false (by omega)
    have n : decide (v < 0) = true := decide_eq_true h
    have c : cmp3 v 0 = -1 := by unfold cmp3; rw [if_pos h]
    go_enter Try.func93, Try.ntmps93
    go_wp2_with (first | (go_at_call 90; refine (cRZero _ _ _ (by omega) (by omega)).mono ?_; rintro e w1 ⟨rfl, hB⟩; have q0 := cell_later (a := ⟨w.heap.size, 0, none⟩) (v := .bool (decide (v < 0))) hB (by simp [go_sem, *])))
    go_ret
    exact ⟨by rw [c]; rfl, by (repeat (first | with_reducible assumption | with_reducible exact Below.refl _ _ | ((with_reducible refine Below.setCell ?_ ?_ _); rotate_left; (first | exact Nat.le_refl _ | (dsimp only; omega) | (simp; done) | (simp; omega))) | with_reducible refine below_alloc ?_ _ | with_reducible apply below_drewN | with_reducible apply Below.drew | with_reducible refine below_step ?_ (by assumption)))⟩
  · have z : decide ((v.natAbs : Int) = 0) = false := decide_eq_false (by omega)
    have n : decide (v < 0) = false := decide_eq_false (by omega)
    have c : cmp3 v 0 = 1 := by unfold cmp3; rw [if_neg (by omega), if_pos h]
    go_enter Try.func93, Try.ntmps93
    go_wp2_with (first | (go_at_call 90; refine (cRZero _ _ _ (by omega) (by omega)).mono ?_; rintro e w1 ⟨rfl, hB⟩; have q0 := cell_later (a := ⟨w.heap.size, 0, none⟩) (v := .bool (decide (v < 0))) hB (by simp [go_sem, *])))
    go_ret
    exact ⟨by rw [c]; rfl, by (repeat (first | with_reducible assumption | with_reducible exact Below.refl _ _ | ((with_reducible refine Below.setCell ?_ ?_ _); rotate_left; (first | exact Nat.le_refl _ | (dsimp only; omega) | (simp; done) | (simp; omega))) | with_reducible refine below_alloc ?_ _ | with_reducible apply below_drewN | with_reducible apply Below.drew | with_reducible refine below_step ?_ (by assumption)))⟩
theorem eqAr (d : Nat) (a0 a1 a2 a3 b0 b1 b2 b3 : Int) (w : World) : Sem.run Try.prog (Op.equalIn (d + 2) 88 (.agg #[.int .u64 a0, .int .u64 a1, .int .u64 a2, .int .u64 a3]) (.agg #[.int .u64 b0, .int .u64 b1, .int .u64 b2, .int .u64 b3])) w = .ok (a0 == b0 && a1 == b1 && a2 == b2 && a3 == b3) w := by
  have hu : Try.prog.underlying 88 = some (.array 4 74) := by kernel_rfl
  have hv : Try.prog.underlying 74 = some (.int .u64) := by kernel_rfl
  have he : ∀ (a b : Int) (w : World), Sem.run Try.prog (Op.equalIn (d + 1) 74 (.int .u64 a) (.int .u64 b)) w = .ok (a == b) w := fun a b w => run_equalIn_int w d _ _ _ a b hv
  rw [Op.equalIn.eq_def]
  simp only [Sem.run_bind, run_underlying hu, Result.andThen_ok]
  simp [go_sem, he]
  rw [show List.range' 0 4 = [0, 1, 2, 3] from rfl]
  by_cases h0 : a0 = b0 <;> by_cases h1 : a1 = b1 <;> by_cases h2 : a2 = b2 <;> by_cases h3 : a3 = b3 <;> simp [go_sem, he, h0, h1, h2, h3]
theorem eqDg (m n : Int) (hm : 0 ≤ m) (hm' : m ≤ 340282366920938463463374607431768211455) (hn : 0 ≤ n) (hn' : n ≤ 340282366920938463463374607431768211455) (w : World) :
    Sem.run Try.prog (Op.equalIn 10000 88 (.agg #[.int .u64 (d0 (m)), .int .u64 (d1 (m)), .int .u64 (d2 (m)), .int .u64 (d3 (m))]) (.agg #[.int .u64 (d0 (n)), .int .u64 (d1 (n)), .int .u64 (d2 (n)), .int .u64 (d3 (n))])) w = .ok (decide (m = n)) w := by
  rw [show (10000 : Nat) = 9998 + 2 from rfl, eqAr]
  have em := dg m hm hm'
  have en := dg n hn hn'
  have a0 := d0_bd m; have a1 := d1_bd m; have a2 := d2_bd m; have a3 := d3_bd m
  have b0 := d0_bd n; have b1 := d1_bd n; have b2 := d2_bd n; have b3 := d3_bd n
  generalize d0 m = x0 at *; generalize d1 m = x1 at *; generalize d2 m = x2 at *; generalize d3 m = x3 at *
  generalize d0 n = y0 at *; generalize d1 n = y1 at *; generalize d2 n = y2 at *; generalize d3 n = y3 at *
  congr 1
  rw [Bool.eq_iff_iff]
  simp
  omega
end Go.Proofs.Ytjpkkpflamkjkaa
