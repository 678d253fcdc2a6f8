/- The walk of WideMul. -/
import Derived.Test.YtmkpnejnjnkpiaaL1b
import Derived.Test.YtmkpnejnjnkpiaaB6
namespace Go.Proofs.Ytmkpnejnjnkpiaa
open Go.RowKit
theorem cSame (v : Int) (w : World) (h0 : -170141183460469231731687303715884105728 ≤ v) (h1 : v ≤ 170141183460469231731687303715884105727) :
    Calls Try.prog 11 #[.agg #[.int .i64 (hw v), .int .u64 (lw v)], .agg #[.bool (decide (v < 0)), .int .u64 (d0 (v.natAbs)), .int .u64 (d1 (v.natAbs)), .int .u64 (d2 (v.natAbs)), .int .u64 (d3 (v.natAbs))]] w fun e w' => e = .returned (.bool true) ∧ Below w.heap.size w w' := by
  have k := cRWords (decide (v < 0)) (v.natAbs : Int)
  have e : sgv (decide (v < 0)) (v.natAbs : Int) = v := by unfold sgv; by_cases h : v < 0 <;> simp [h] <;> omega
  have f : fw v = true := decide_eq_true (by omega)
  have c : cw v = v := by unfold cw; rw [f]; rfl
  rw [e, f, c] at k
  clear e f c
  go_enter Try.func11, Try.ntmps11
  go_wp2_with (fail)
  go_at_call 32
  refine (k _ (by omega) (by omega)).mono ?_
  rintro e w1 ⟨rfl, hB⟩
  have c0 := cell_later (a := ⟨w.heap.size, 0, none⟩) (v := .int .i64 (hw v)) hB (by simp [go_sem])
  have c1 := cell_later (a := ⟨w.heap.size, 1, none⟩) (v := .int .u64 (lw v)) hB (by simp [go_sem])
  clear k
  go_wp2
  go_ret
  exact ⟨rfl, by (repeat (first | with_reducible assumption | with_reducible exact Below.refl _ _ | ((with_reducible refine Below.setCell ?_ ?_ _); rotate_left; (first | exact Nat.le_refl _ | (dsimp only; omega) | (simp; done) | (simp; omega))) | with_reducible refine below_alloc ?_ _ | with_reducible apply below_drewN | with_reducible apply Below.drew | with_reducible refine below_step ?_ (by assumption)))⟩
set_option maxHeartbeats 4000000 in
theorem walk_WideMul (a b : Int) (w : World) (a0 : -9223372036854775808 ≤ a) (a1 : a ≤ 9223372036854775807) (b0 : -9223372036854775808 ≤ b) (b1 : b ≤ 9223372036854775807) :
    Calls Try.prog 3 #[.int .i64 a, .int .i64 b] w fun e w' => e = .returned (.bool true) ∧ Below w.heap.size w w' := by
  have pb := mul_bd a b a0 a1 b0 b1
  go_enter Try.func3, Try.ntmps3
  go_wp2_with (first
    | (go_at_call 12; refine (cWMul _ _ _ (by omega) (by omega) (by omega) (by omega)).mono ?_; rintro e w1 ⟨rfl, hB⟩)
    | (go_at_call 13; refine (cRMul _ _ _ (by omega) (by omega) (by omega) (by omega)).mono ?_; rintro e w1 ⟨rfl, hB⟩)
    | (go_at_call 11; refine (cSame _ _ (by omega) (by omega)).mono ?_; rintro e w1 ⟨rfl, hB⟩)
    | (go_at_call 14; refine (cWOf _ _ (by omega) (by omega)).mono ?_; rintro e w1 ⟨rfl, hB⟩)
    | (go_at_call 15; refine (cROf _ _ (by omega) (by omega)).mono ?_; rintro e w1 ⟨rfl, hB⟩)
    | (go_at_call 16; refine (cAwake1 _).mono ?_; rintro e w1 ⟨rfl, hB⟩))
  go_ret
  exact ⟨rfl, by (repeat (first | with_reducible assumption | with_reducible exact Below.refl _ _ | ((with_reducible refine Below.setCell ?_ ?_ _); rotate_left; (first | exact Nat.le_refl _ | (dsimp only; omega) | (simp; done) | (simp; omega))) | with_reducible refine below_alloc ?_ _ | with_reducible apply below_drewN | with_reducible apply Below.drew | with_reducible refine below_step ?_ (by assumption)))⟩
end Go.Proofs.Ytmkpnejnjnkpiaa
