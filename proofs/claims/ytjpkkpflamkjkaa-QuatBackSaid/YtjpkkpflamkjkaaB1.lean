/- The contracts of the document's sizes of four parts: less, plus, minus, twice, bit. -/
import Derived.Test.YtjpkkpflamkjkaaB0
import Derived.LoopN
import Derived.Deep.QuietTactic
set_option linter.unusedSimpArgs false
set_option linter.unusedVariables false
namespace Go.Proofs.Ytjpkkpflamkjkaa
open Go.RowKit
theorem cRLow (n : Int) (w : World) (h0 : 0 ≤ n) (h1 : n ≤ 18446744073709551615) : Calls Try.prog 92 #[.int .u64 n] w fun e w' => e = .returned (.int .u64 (n % 4294967296)) ∧ w = w' := by
  go_enter Try.func92, Try.ntmps92
  go_wp2
  go_ret
  exact ⟨rfl, rfl⟩
theorem cBSize (n : Int) (w : World) (h0 : -9223372036854775808 ≤ n) (h1 : n ≤ 9223372036854775807) : Calls Try.prog 67 #[.int .i64 n] w fun e w' => e = .returned (.int .u64 n.natAbs) ∧ w = w' := by
  by_cases h : n < 0
  · have e1 : IntKind.u64.wrap (-(n + 1)) + 1 = (n.natAbs : Int) := by rw [IntKind.wrap_u64]; omega
    have e2 : -(n + 1) + 1 = (n.natAbs : Int) := by omega
    go_enter Try.func67, Try.ntmps67
    go_wp2
    simp [bodyPost, results, Try.results67, go_sem]
  · have e2 : n = (n.natAbs : Int) := by omega
    have E2 := Lib.hid e2
    clear e2
    go_enter Try.func67, Try.ntmps67
    go_wp2
    simp [bodyPost, results, Try.results67, go_sem]
    exact E2.out
theorem cRLess3 (a0 a1 a2 a3 b0 b1 b2 b3 : Int) (r : Bool) (w : World)  (n3 : (a3 != b3) = true) (hr : decide (a3 < b3) = r) :
    Calls Try.prog 88 #[.agg #[.int .u64 a0, .int .u64 a1, .int .u64 a2, .int .u64 a3], .agg #[.int .u64 b0, .int .u64 b1, .int .u64 b2, .int .u64 b3]] w fun e w' => e = .returned (.bool r) ∧ Below w.heap.size w w' := by
  go_enter Try.func88, Try.ntmps88
  go_wp2
  refine wp_loop_rounds 5 ?_
  rw [rounds_succ]
  go_wp2
  go_quiet (fail)
  go_wp2
  go_quiet (fail)
  go_wp2
  go_ret
  exact ⟨rfl, by (repeat (first | with_reducible assumption | with_reducible exact Below.refl _ _ | ((with_reducible refine Below.setCell ?_ ?_ _); rotate_left; (first | exact Nat.le_refl _ | (dsimp only; omega) | (simp; done) | (simp; omega))) | with_reducible refine below_alloc ?_ _ | with_reducible apply below_drewN | with_reducible apply Below.drew | with_reducible refine below_step ?_ (by assumption)))⟩
theorem cRLess2 (a0 a1 a2 a3 b0 b1 b2 b3 : Int) (r : Bool) (w : World) (n3 : (a3 != b3) = false) (n2 : (a2 != b2) = true) (hr : decide (a2 < b2) = r) :
    Calls Try.prog 88 #[.agg #[.int .u64 a0, .int .u64 a1, .int .u64 a2, .int .u64 a3], .agg #[.int .u64 b0, .int .u64 b1, .int .u64 b2, .int .u64 b3]] w fun e w' => e = .returned (.bool r) ∧ Below w.heap.size w w' := by
  go_enter Try.func88, Try.ntmps88
  go_wp2
  refine wp_loop_rounds 5 ?_
  rw [rounds_succ]
  go_wp2
  go_quiet (fail)
  go_wp2
  rw [rounds_succ]
  go_wp2
  go_quiet (fail)
  go_wp2
  go_quiet (fail)
  go_wp2
  go_ret
  exact ⟨rfl, by (repeat (first | with_reducible assumption | with_reducible exact Below.refl _ _ | ((with_reducible refine Below.setCell ?_ ?_ _); rotate_left; (first | exact Nat.le_refl _ | (dsimp only; omega) | (simp; done) | (simp; omega))) | with_reducible refine below_alloc ?_ _ | with_reducible apply below_drewN | with_reducible apply Below.drew | with_reducible refine below_step ?_ (by assumption)))⟩
theorem cRLess1 (a0 a1 a2 a3 b0 b1 b2 b3 : Int) (r : Bool) (w : World) (n3 : (a3 != b3) = false) (n2 : (a2 != b2) = false) (n1 : (a1 != b1) = true) (hr : decide (a1 < b1) = r) :
    Calls Try.prog 88 #[.agg #[.int .u64 a0, .int .u64 a1, .int .u64 a2, .int .u64 a3], .agg #[.int .u64 b0, .int .u64 b1, .int .u64 b2, .int .u64 b3]] w fun e w' => e = .returned (.bool r) ∧ Below w.heap.size w w' := by
  go_enter Try.func88, Try.ntmps88
  go_wp2
  refine wp_loop_rounds 5 ?_
  rw [rounds_succ]
  go_wp2
  go_quiet (fail)
  go_wp2
  rw [rounds_succ]
  go_wp2
  go_quiet (fail)
  go_wp2
  rw [rounds_succ]
  go_wp2
  go_quiet (fail)
  go_wp2
  go_quiet (fail)
  go_wp2
  go_ret
  exact ⟨rfl, by (repeat (first | with_reducible assumption | with_reducible exact Below.refl _ _ | ((with_reducible refine Below.setCell ?_ ?_ _); rotate_left; (first | exact Nat.le_refl _ | (dsimp only; omega) | (simp; done) | (simp; omega))) | with_reducible refine below_alloc ?_ _ | with_reducible apply below_drewN | with_reducible apply Below.drew | with_reducible refine below_step ?_ (by assumption)))⟩
theorem cRLess0 (a0 a1 a2 a3 b0 b1 b2 b3 : Int) (r : Bool) (w : World) (n3 : (a3 != b3) = false) (n2 : (a2 != b2) = false) (n1 : (a1 != b1) = false) (n0 : (a0 != b0) = true) (hr : decide (a0 < b0) = r) :
    Calls Try.prog 88 #[.agg #[.int .u64 a0, .int .u64 a1, .int .u64 a2, .int .u64 a3], .agg #[.int .u64 b0, .int .u64 b1, .int .u64 b2, .int .u64 b3]] w fun e w' => e = .returned (.bool r) ∧ Below w.heap.size w w' := by
  go_enter Try.func88, Try.ntmps88
  go_wp2
  refine wp_loop_rounds 5 ?_
  rw [rounds_succ]
  go_wp2
  go_quiet (fail)
  go_wp2
  rw [rounds_succ]
  go_wp2
  go_quiet (fail)
  go_wp2
  rw [rounds_succ]
  go_wp2
  go_quiet (fail)
  go_wp2
  rw [rounds_succ]
  go_wp2
  go_quiet (fail)
  go_wp2
  go_quiet (fail)
  go_wp2
  go_ret
  exact ⟨rfl, by (repeat (first | with_reducible assumption | with_reducible exact Below.refl _ _ | ((with_reducible refine Below.setCell ?_ ?_ _); rotate_left; (first | exact Nat.le_refl _ | (dsimp only; omega) | (simp; done) | (simp; omega))) | with_reducible refine below_alloc ?_ _ | with_reducible apply below_drewN | with_reducible apply Below.drew | with_reducible refine below_step ?_ (by assumption)))⟩
theorem cRLessE (a0 a1 a2 a3 b0 b1 b2 b3 : Int) (w : World) (n3 : (a3 != b3) = false) (n2 : (a2 != b2) = false) (n1 : (a1 != b1) = false) (n0 : (a0 != b0) = false) :
    Calls Try.prog 88 #[.agg #[.int .u64 a0, .int .u64 a1, .int .u64 a2, .int .u64 a3], .agg #[.int .u64 b0, .int .u64 b1, .int .u64 b2, .int .u64 b3]] w fun e w' => e = .returned (.bool false) ∧ Below w.heap.size w w' := by
  go_enter Try.func88, Try.ntmps88
  go_wp2
  refine wp_loop_rounds 5 ?_
  rw [rounds_succ]
  go_wp2
  go_quiet (fail)
  go_wp2
  rw [rounds_succ]
  go_wp2
  go_quiet (fail)
  go_wp2
  rw [rounds_succ]
  go_wp2
  go_quiet (fail)
  go_wp2
  rw [rounds_succ]
  go_wp2
  go_quiet (fail)
  go_wp2
  rw [rounds_succ]
  go_wp2
  go_ret
  exact ⟨rfl, by (repeat (first | with_reducible assumption | with_reducible exact Below.refl _ _ | ((with_reducible refine Below.setCell ?_ ?_ _); rotate_left; (first | exact Nat.le_refl _ | (dsimp only; omega) | (simp; done) | (simp; omega))) | with_reducible refine below_alloc ?_ _ | with_reducible apply below_drewN | with_reducible apply Below.drew | with_reducible refine below_step ?_ (by assumption)))⟩
set_option maxHeartbeats 1000000 in
theorem cRPlusA (a0 a1 a2 a3 b0 b1 b2 b3 s0 s1 s2 s3 t1 t2 t3 q0 q1 q2 q3 o0 o1 o2 o3 : Int) (w : World)
    (e0 : IntKind.u64.wrap (a0 + b0) = s0) (h1 : IntKind.u64.wrap (a1 + b1) = t1) (e1 : IntKind.u64.wrap (t1 + q0) = s1) (h2 : IntKind.u64.wrap (a2 + b2) = t2) (e2 : IntKind.u64.wrap (t2 + q1) = s2) (h3 : IntKind.u64.wrap (a3 + b3) = t3) (e3 : IntKind.u64.wrap (t3 + q2) = s3)
    (f0 : s0 / 4294967296 = q0) (g0 : s0 % 4294967296 = o0) (f1 : s1 / 4294967296 = q1) (g1 : s1 % 4294967296 = o1) (f2 : s2 / 4294967296 = q2) (g2 : s2 % 4294967296 = o2) (f3 : s3 / 4294967296 = q3) (g3 : s3 % 4294967296 = o3)
    (k0 : 0 ≤ s0) (l0 : s0 ≤ 18446744073709551615) (k1 : 0 ≤ s1) (l1 : s1 ≤ 18446744073709551615) (k2 : 0 ≤ s2) (l2 : s2 ≤ 18446744073709551615) (k3 : 0 ≤ s3) (l3 : s3 ≤ 18446744073709551615) :
    Calls Try.prog 87 #[.agg #[.int .u64 a0, .int .u64 a1, .int .u64 a2, .int .u64 a3], .agg #[.int .u64 b0, .int .u64 b1, .int .u64 b2, .int .u64 b3]] w fun e w' => e = .returned (.tuple #[.agg #[.int .u64 o0, .int .u64 o1, .int .u64 o2, .int .u64 o3], .int .u64 q3]) ∧ Below w.heap.size w w' := by
  go_enter Try.func87, Try.ntmps87
  go_wp2
  refine wp_loop_rounds 5 ?_
  rw [rounds_succ]
  go_wp2
  go_quiet (fail)
  go_wp2_with (first | (go_at_call 92; refine (cRLow _ _ (by omega) (by omega)).mono ?_; rintro e w1 ⟨rfl, rfl⟩))
  rw [rounds_succ]
  go_wp2
  go_quiet (fail)
  go_wp2_with (first | (go_at_call 92; refine (cRLow _ _ (by omega) (by omega)).mono ?_; rintro e w1 ⟨rfl, rfl⟩))
  rw [rounds_succ]
  go_wp2
  go_quiet (fail)
  go_wp2_with (first | (go_at_call 92; refine (cRLow _ _ (by omega) (by omega)).mono ?_; rintro e w1 ⟨rfl, rfl⟩))
  rw [rounds_succ]
  go_wp2
  go_quiet (fail)
  go_wp2_with (first | (go_at_call 92; refine (cRLow _ _ (by omega) (by omega)).mono ?_; rintro e w1 ⟨rfl, rfl⟩))
  rw [rounds_succ]
  go_wp2
  simp [bodyPost, results, Try.results87, go_sem]
  exact ⟨f3, by (repeat (first | with_reducible assumption | with_reducible exact Below.refl _ _ | ((with_reducible refine Below.setCell ?_ ?_ _); rotate_left; (first | exact Nat.le_refl _ | (dsimp only; omega) | (simp; done) | (simp; omega))) | with_reducible refine below_alloc ?_ _ | with_reducible apply below_drewN | with_reducible apply Below.drew | with_reducible refine below_step ?_ (by assumption)))⟩
set_option maxHeartbeats 1000000 in
theorem cRTwiceA (a0 a1 a2 a3 c s0 s1 s2 s3 t0 t1 t2 t3 q0 q1 q2 q3 o0 o1 o2 o3 : Int) (w : World)
    (h0 : IntKind.u64.wrap (2 * a0) = t0) (e0 : IntKind.u64.wrap (t0 + c) = s0) (h1 : IntKind.u64.wrap (2 * a1) = t1) (e1 : IntKind.u64.wrap (t1 + q0) = s1) (h2 : IntKind.u64.wrap (2 * a2) = t2) (e2 : IntKind.u64.wrap (t2 + q1) = s2) (h3 : IntKind.u64.wrap (2 * a3) = t3) (e3 : IntKind.u64.wrap (t3 + q2) = s3)
    (f0 : s0 / 4294967296 = q0) (g0 : s0 % 4294967296 = o0) (f1 : s1 / 4294967296 = q1) (g1 : s1 % 4294967296 = o1) (f2 : s2 / 4294967296 = q2) (g2 : s2 % 4294967296 = o2) (f3 : s3 / 4294967296 = q3) (g3 : s3 % 4294967296 = o3)
    (k0 : 0 ≤ s0) (l0 : s0 ≤ 18446744073709551615) (k1 : 0 ≤ s1) (l1 : s1 ≤ 18446744073709551615) (k2 : 0 ≤ s2) (l2 : s2 ≤ 18446744073709551615) (k3 : 0 ≤ s3) (l3 : s3 ≤ 18446744073709551615) :
    Calls Try.prog 100 #[.agg #[.int .u64 a0, .int .u64 a1, .int .u64 a2, .int .u64 a3], .int .u64 c] w fun e w' => e = .returned (.agg #[.int .u64 o0, .int .u64 o1, .int .u64 o2, .int .u64 o3]) ∧ Below w.heap.size w w' := by
  go_enter Try.func100, Try.ntmps100
  go_wp2
  refine wp_loop_rounds 5 ?_
  rw [rounds_succ]
  go_wp2_with (first | (go_at_call 92; refine (cRLow _ _ (by omega) (by omega)).mono ?_; rintro e w1 ⟨rfl, rfl⟩))
  rw [rounds_succ]
  go_wp2_with (first | (go_at_call 92; refine (cRLow _ _ (by omega) (by omega)).mono ?_; rintro e w1 ⟨rfl, rfl⟩))
  rw [rounds_succ]
  go_wp2_with (first | (go_at_call 92; refine (cRLow _ _ (by omega) (by omega)).mono ?_; rintro e w1 ⟨rfl, rfl⟩))
  rw [rounds_succ]
  go_wp2_with (first | (go_at_call 92; refine (cRLow _ _ (by omega) (by omega)).mono ?_; rintro e w1 ⟨rfl, rfl⟩))
  rw [rounds_succ]
  go_wp2
  simp [bodyPost, results, Try.results100, go_sem]
  (repeat (first | with_reducible assumption | with_reducible exact Below.refl _ _ | ((with_reducible refine Below.setCell ?_ ?_ _); rotate_left; (first | exact Nat.le_refl _ | (dsimp only; omega) | (simp; done) | (simp; omega))) | with_reducible refine below_alloc ?_ _ | with_reducible apply below_drewN | with_reducible apply Below.drew | with_reducible refine below_step ?_ (by assumption)))
set_option maxHeartbeats 1000000 in
theorem cRMinusA (a0 a1 a2 a3 b0 b1 b2 b3 s0 s1 s2 s3 t0 t1 t2 t3 u0 u1 u2 u3 q0 q1 q2 q3 c0 c1 c2 c3 o0 o1 o2 o3 : Int) (w : World)
    (h0 : IntKind.u64.wrap (a0 + 4294967296) = t0) (e0 : IntKind.u64.wrap (t0 - b0) = s0) (h1 : IntKind.u64.wrap (a1 + 4294967296) = t1) (v1 : IntKind.u64.wrap (t1 - b1) = u1) (e1 : IntKind.u64.wrap (u1 - c0) = s1) (h2 : IntKind.u64.wrap (a2 + 4294967296) = t2) (v2 : IntKind.u64.wrap (t2 - b2) = u2) (e2 : IntKind.u64.wrap (u2 - c1) = s2) (h3 : IntKind.u64.wrap (a3 + 4294967296) = t3) (v3 : IntKind.u64.wrap (t3 - b3) = u3) (e3 : IntKind.u64.wrap (u3 - c2) = s3)
    (f0 : s0 / 4294967296 = q0) (g0 : s0 % 4294967296 = o0) (m0 : IntKind.u64.wrap (1 - q0) = c0) (f1 : s1 / 4294967296 = q1) (g1 : s1 % 4294967296 = o1) (m1 : IntKind.u64.wrap (1 - q1) = c1) (f2 : s2 / 4294967296 = q2) (g2 : s2 % 4294967296 = o2) (m2 : IntKind.u64.wrap (1 - q2) = c2) (f3 : s3 / 4294967296 = q3) (g3 : s3 % 4294967296 = o3) (m3 : IntKind.u64.wrap (1 - q3) = c3)
    (k0 : 0 ≤ s0) (l0 : s0 ≤ 18446744073709551615) (k1 : 0 ≤ s1) (l1 : s1 ≤ 18446744073709551615) (k2 : 0 ≤ s2) (l2 : s2 ≤ 18446744073709551615) (k3 : 0 ≤ s3) (l3 : s3 ≤ 18446744073709551615) :
    Calls Try.prog 89 #[.agg #[.int .u64 a0, .int .u64 a1, .int .u64 a2, .int .u64 a3], .agg #[.int .u64 b0, .int .u64 b1, .int .u64 b2, .int .u64 b3]] w fun e w' => e = .returned (.agg #[.int .u64 o0, .int .u64 o1, .int .u64 o2, .int .u64 o3]) ∧ Below w.heap.size w w' := by
  go_enter Try.func89, Try.ntmps89
  go_wp2
  refine wp_loop_rounds 5 ?_
  rw [rounds_succ]
  go_wp2
  go_quiet (fail)
  go_wp2_with (first | (go_at_call 92; refine (cRLow _ _ (by omega) (by omega)).mono ?_; rintro e w1 ⟨rfl, rfl⟩))
  rw [rounds_succ]
  go_wp2
  go_quiet (fail)
  go_wp2_with (first | (go_at_call 92; refine (cRLow _ _ (by omega) (by omega)).mono ?_; rintro e w1 ⟨rfl, rfl⟩))
  rw [rounds_succ]
  go_wp2
  go_quiet (fail)
  go_wp2_with (first | (go_at_call 92; refine (cRLow _ _ (by omega) (by omega)).mono ?_; rintro e w1 ⟨rfl, rfl⟩))
  rw [rounds_succ]
  go_wp2
  go_quiet (fail)
  go_wp2_with (first | (go_at_call 92; refine (cRLow _ _ (by omega) (by omega)).mono ?_; rintro e w1 ⟨rfl, rfl⟩))
  rw [rounds_succ]
  go_wp2
  simp [bodyPost, results, Try.results89, go_sem]
  (repeat (first | with_reducible assumption | with_reducible exact Below.refl _ _ | ((with_reducible refine Below.setCell ?_ ?_ _); rotate_left; (first | exact Nat.le_refl _ | (dsimp only; omega) | (simp; done) | (simp; omega))) | with_reducible refine below_alloc ?_ _ | with_reducible apply below_drewN | with_reducible apply Below.drew | with_reducible refine below_step ?_ (by assumption)))
end Go.Proofs.Ytjpkkpflamkjkaa
