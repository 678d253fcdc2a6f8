/- Contracts of package chicaneref02: products. -/
import Derived.Test.YtjpkkpflamkjkaaR0
import Derived.LoopN
set_option linter.unusedSimpArgs false
set_option linter.unusedVariables false
namespace Go.Proofs.Ytjpkkpflamkjkaa
open Go.RowKit
theorem cRSize (n : Int) (w : World) (h0 : -9223372036854775808 ≤ n) (h1 : n ≤ 9223372036854775807) : Calls Try.prog 67 #[.int .i64 n] w fun e w' => e = .returned (.int .u64 n.natAbs) ∧ w = w' := by
  by_cases h : n < 0
  · have e1 : IntKind.u64.wrap (-(n + 1)) + 1 = (n.natAbs : Int) := by rw [IntKind.wrap_u64]; omega
    have e2 : -(n + 1) + 1 = (n.natAbs : Int) := by omega
    go_enter Try.func67, Try.ntmps67
    go_wp2
    simp [bodyPost, results, Try.results67, go_sem]
  · have e2 : n = (n.natAbs : Int) := by omega
    have E2 := Lib.hid e2
    clear e2
    go_enter Try.func67, Try.ntmps67
    go_wp2
    simp [bodyPost, results, Try.results67, go_sem]
    exact E2.out
theorem rsh_sg (neg : Bool) (p : Int) : rsh (sg neg p) = sg neg (rsh p) := by
  cases neg with
  | false => rfl
  | true =>
    show rsh (-p) = -(rsh p)
    unfold rsh
    split <;> split <;> omega
theorem mul_sg (x y : Int) : x * y = sg (decide (x < 0) != decide (y < 0)) ((x.natAbs : Int) * (y.natAbs : Int)) := by
  rcases Int.lt_or_le x 0 with hx | hx <;> rcases Int.lt_or_le y 0 with hy | hy
  · rw [show ((x.natAbs : Nat) : Int) = -x from by omega, show ((y.natAbs : Nat) : Int) = -y from by omega]; simp [hx, hy, sg] <;> grind
  · have : ¬ y < 0 := by omega
    rw [show ((x.natAbs : Nat) : Int) = -x from by omega, show ((y.natAbs : Nat) : Int) = y from by omega]; simp [hx, this, sg] <;> grind
  · have : ¬ x < 0 := by omega
    rw [show ((x.natAbs : Nat) : Int) = x from by omega, show ((y.natAbs : Nat) : Int) = -y from by omega]; simp [hy, this, sg] <;> grind
  · have h1 : ¬ x < 0 := by omega
    have h2 : ¬ y < 0 := by omega
    rw [show ((x.natAbs : Nat) : Int) = x from by omega, show ((y.natAbs : Nat) : Int) = y from by omega]; simp [h1, h2, sg]
theorem sat_big (neg : Bool) (n : Int) (h : 9223372036854775808 < n) : bnd neg = sat (sg neg n) ∧ fx (sg neg n) = false := by
  cases neg with
  | false => exact sat_up n (by omega)
  | true => exact sat_dn (-n) (by omega)
/-- The four products of the halves of two sizes. -/
theorem halves (X Y : Int) (hX : 0 ≤ X ∧ X ≤ 9223372036854775808) (hY : 0 ≤ Y ∧ Y ≤ 9223372036854775808) : ∃ x1 x0 y1 y0 A B C D : Int, X / 4294967296 = x1 ∧ X % 4294967296 = x0 ∧ Y / 4294967296 = y1 ∧ Y % 4294967296 = y0 ∧
    x1 * y1 = A ∧ x1 * y0 = B ∧ x0 * y1 = C ∧ x0 * y0 = D ∧ X * Y = A * 18446744073709551616 + (B + C) * 4294967296 + D ∧ (0 ≤ x1 ∧ x1 ≤ 2147483648) ∧ (0 ≤ x0 ∧ x0 ≤ 4294967295) ∧ (0 ≤ y1 ∧ y1 ≤ 2147483648) ∧ (0 ≤ y0 ∧ y0 ≤ 4294967295) ∧
    (0 ≤ A ∧ A ≤ 4611686018427387904) ∧ (0 ≤ B ∧ B ≤ 9223372034707292160) ∧ (0 ≤ C ∧ C ≤ 9223372034707292160) ∧ (0 ≤ D ∧ D ≤ 18446744065119617025) := by
  refine ⟨_, _, _, _, _, _, _, _, rfl, rfl, rfl, rfl, rfl, rfl, rfl, rfl, ?_⟩
  have a : X = X / 4294967296 * 4294967296 + X % 4294967296 := by omega
  have b : Y = Y / 4294967296 * 4294967296 + Y % 4294967296 := by omega
  have x1 : 0 ≤ X / 4294967296 ∧ X / 4294967296 ≤ 2147483648 := by omega
  have y1 : 0 ≤ Y / 4294967296 ∧ Y / 4294967296 ≤ 2147483648 := by omega
  have x0 : 0 ≤ X % 4294967296 ∧ X % 4294967296 ≤ 4294967295 := by omega
  have y0 : 0 ≤ Y % 4294967296 ∧ Y % 4294967296 ≤ 4294967295 := by omega
  generalize X / 4294967296 = p at *
  generalize X % 4294967296 = q at *
  generalize Y / 4294967296 = r at *
  generalize Y % 4294967296 = s at *
  have mm : ∀ u v a b : Int, 0 ≤ u → u ≤ a → 0 ≤ v → v ≤ b → 0 ≤ u * v ∧ u * v ≤ a * b := fun u v a b h1 h2 h3 h4 => ⟨Int.mul_nonneg h1 h3, Int.le_trans (Int.mul_le_mul_of_nonneg_right h2 h3) (Int.mul_le_mul_of_nonneg_left h4 (by omega))⟩
  refine ⟨?_, x1, x0, y1, y0, mm _ _ _ _ x1.1 x1.2 y1.1 y1.2, mm _ _ _ _ x1.1 x1.2 y0.1 y0.2, mm _ _ _ _ x0.1 x0.2 y1.1 y1.2, mm _ _ _ _ x0.1 x0.2 y0.1 y0.2⟩
  subst a; subst b; grind
set_option maxHeartbeats 4000000 in
theorem rFMul (x y : Int) (b : Nat) (o : Bool) (w : World) (x0 : -9223372036854775808 ≤ x) (x1 : x ≤ 9223372036854775807) (y0 : -9223372036854775808 ≤ y) (y1 : y ≤ 9223372036854775807)
    (hc : w.cell? ⟨b, 0, none⟩ = some (.bool o)) (hf : w.frozen? ⟨b, 0, none⟩ = false) :
    Calls Try.prog 36 #[.pointer (some ⟨b, 0, none⟩), .int .i64 x, .int .i64 y] w fun e w' => e = .returned (.int .i64 (sat (rsh (x * y)))) ∧ Mv b (o || !fx (rsh (x * y))) w w' := by
  rw [mul_sg x y, rsh_sg]
  obtain ⟨u1, u0, v1, v0, A, B, C, D, h1, h2, h3, h4, h5, h6, h7, h8, hP, bu1, bu0, bv1, bv0, bA, bB, bC, bD⟩ := halves (x.natAbs : Int) (y.natAbs : Int) (by omega) (by omega)
  obtain ⟨neg, hneg⟩ : ∃ neg, (decide (x < 0) != decide (y < 0)) = neg := ⟨_, rfl⟩
  rw [hneg, hP]
  have hF : A * 18446744073709551616 + (B + C) * 4294967296 + D = (A * 4294967296 + B + C + D / 4294967296) * 4294967296 + D % 4294967296 := by omega
  have hR : rsh (A * 18446744073709551616 + (B + C) * 4294967296 + D) = if 2147483648 < D % 4294967296 ∨ (D % 4294967296 = 2147483648 ∧ (A * 4294967296 + B + C + D / 4294967296) % 2 = 1) then A * 4294967296 + B + C + D / 4294967296 + 1 else A * 4294967296 + B + C + D / 4294967296 := by
    unfold rsh
    rw [hF]
    generalize A * 4294967296 + B + C + D / 4294967296 = F
    have e1 : (F * 4294967296 + D % 4294967296) % 4294967296 = D % 4294967296 := by omega
    have e2 : (F * 4294967296 + D % 4294967296) / 4294967296 = F := by omega
    rw [e1, e2]
  obtain ⟨rs, hrs⟩ : ∃ rs, rsh (A * 18446744073709551616 + (B + C) * 4294967296 + D) = rs := ⟨_, rfl⟩
  rw [hrs] at hR ⊢
  have bD2 : 0 ≤ D / 4294967296 ∧ D / 4294967296 ≤ 4294967294 := by omega
  obtain ⟨Q, hQ⟩ : ∃ Q, D / 4294967296 = Q := ⟨_, rfl⟩
  obtain ⟨E, hE⟩ : ∃ E, D % 4294967296 = E := ⟨_, rfl⟩
  rw [hQ] at hR bD2
  rw [hE] at hR
  have bE : 0 ≤ E ∧ E ≤ 4294967295 := by omega
  clear hF hrs hP
  have hneg2 : (!(decide (x < 0) == decide (y < 0))) = neg := by rw [← hneg]; cases decide (x < 0) <;> cases decide (y < 0) <;> rfl
  clear hneg
  have i0 : ∀ w, (Instr.index 88 (.agg #[.int .u64 B, .int .u64 C, .int .u64 Q, .int .u64 0]) (.int .i64 0)).run Try.prog w = .ok (.int .u64 B) w := fun _ => by kernel_rfl
  have i1 : ∀ w, (Instr.index 88 (.agg #[.int .u64 B, .int .u64 C, .int .u64 Q, .int .u64 0]) (.int .i64 1)).run Try.prog w = .ok (.int .u64 C) w := fun _ => by kernel_rfl
  have i2 : ∀ w, (Instr.index 88 (.agg #[.int .u64 B, .int .u64 C, .int .u64 Q, .int .u64 0]) (.int .i64 2)).run Try.prog w = .ok (.int .u64 Q) w := fun _ => by kernel_rfl
  have i3 : ∀ w, (Instr.index 88 (.agg #[.int .u64 B, .int .u64 C, .int .u64 Q, .int .u64 0]) (.int .i64 3)).run Try.prog w = .ok (.int .u64 0) w := fun _ => by kernel_rfl
  rcases (show 4294967296 ≤ A ∨ (A < 4294967296 ∧ 18446744073709551616 ≤ A * 4294967296 + B) ∨ (A < 4294967296 ∧ A * 4294967296 + B < 18446744073709551616 ∧ 18446744073709551616 ≤ A * 4294967296 + B + C) ∨ (A < 4294967296 ∧ A * 4294967296 + B + C < 18446744073709551616 ∧ 18446744073709551616 ≤ A * 4294967296 + B + C + Q) ∨ (A < 4294967296 ∧ 18446744073709551615 = A * 4294967296 + B + C + Q ∧ 2147483648 < E) ∨ (A < 4294967296 ∧ A * 4294967296 + B + C + Q < 18446744073709551615 ∧ 2147483648 < E) ∨ (A < 4294967296 ∧ 18446744073709551615 = A * 4294967296 + B + C + Q ∧ E = 2147483648 ∧ (A * 4294967296 + B + C + Q) % 2 = 1) ∨ (A < 4294967296 ∧ A * 4294967296 + B + C + Q < 18446744073709551615 ∧ E = 2147483648 ∧ (A * 4294967296 + B + C + Q) % 2 = 1) ∨ (A < 4294967296 ∧ A * 4294967296 + B + C + Q ≤ 18446744073709551615 ∧ E = 2147483648 ∧ (A * 4294967296 + B + C + Q) % 2 = 0) ∨ (A < 4294967296 ∧ A * 4294967296 + B + C + Q ≤ 18446744073709551615 ∧ E < 2147483648) from by omega) with k | ⟨k20, k21⟩ | ⟨k20, k21, k22⟩ | ⟨k20, k21, k22⟩ | ⟨k20, k21, k22⟩ | ⟨k20, k21, k22⟩ | ⟨k20, k21, k22, k23⟩ | ⟨k20, k21, k22, k23⟩ | ⟨k20, k21, k22, k23⟩ | ⟨k20, k21, k22⟩
  · have hb : 9223372036854775808 < rs := by rw [hR]; split <;> omega
    obtain ⟨e1, e2⟩ := sat_big neg rs hb
    rw [← e1, e2]
    clear e1 e2 hb hR
    go_enter Try.func36, Try.ntmps36
    go_wp2_with (first | (go_at_call 67; refine (cRSize _ _ (by omega) (by omega)).mono ?_; rintro e w1 ⟨rfl, rfl⟩) | (go_at_call 68; refine (rBound b o _ _ hc hf).mono ?_; rintro e w1 ⟨rfl, hM⟩))
    go_ret
    exact ⟨rfl, by simpa using hM⟩
  · have k1 : IntKind.u64.wrap (A * 4294967296 + B) = A * 4294967296 + B - 18446744073709551616 := by rw [IntKind.wrap_u64]; omega
    have hb : 9223372036854775808 < rs := by rw [hR]; split <;> omega
    obtain ⟨e1, e2⟩ := sat_big neg rs hb
    rw [← e1, e2]
    clear e1 e2 hb hR
    go_enter Try.func36, Try.ntmps36
    go_wp2_with (first | (go_at_call 67; refine (cRSize _ _ (by omega) (by omega)).mono ?_; rintro e w1 ⟨rfl, rfl⟩) | (go_at_call 68; refine (rBound b o _ _ hc hf).mono ?_; rintro e w1 ⟨rfl, hM⟩))
    refine wp_loop_rounds 5 ?_
    rw [rounds_succ]
    go_wp2_with (go_at_call 68; refine (rBound b o _ _ hc hf).mono ?_; rintro e w1 ⟨rfl, hM⟩)
    go_ret
    exact ⟨rfl, by simpa using hM⟩
  · have k1 : IntKind.u64.wrap (A * 4294967296 + B + C) = A * 4294967296 + B + C - 18446744073709551616 := by rw [IntKind.wrap_u64]; omega
    have hb : 9223372036854775808 < rs := by rw [hR]; split <;> omega
    obtain ⟨e1, e2⟩ := sat_big neg rs hb
    rw [← e1, e2]
    clear e1 e2 hb hR
    go_enter Try.func36, Try.ntmps36
    go_wp2_with (first | (go_at_call 67; refine (cRSize _ _ (by omega) (by omega)).mono ?_; rintro e w1 ⟨rfl, rfl⟩) | (go_at_call 68; refine (rBound b o _ _ hc hf).mono ?_; rintro e w1 ⟨rfl, hM⟩))
    refine wp_loop_rounds 5 ?_
    rw [rounds_succ]
    go_wp2_with (go_at_call 68; refine (rBound b o _ _ hc hf).mono ?_; rintro e w1 ⟨rfl, hM⟩)
    rw [rounds_succ]
    go_wp2_with (go_at_call 68; refine (rBound b o _ _ hc hf).mono ?_; rintro e w1 ⟨rfl, hM⟩)
    go_ret
    exact ⟨rfl, by simpa using hM⟩
  · have k1 : IntKind.u64.wrap (A * 4294967296 + B + C + Q) = A * 4294967296 + B + C + Q - 18446744073709551616 := by rw [IntKind.wrap_u64]; omega
    have hb : 9223372036854775808 < rs := by rw [hR]; split <;> omega
    obtain ⟨e1, e2⟩ := sat_big neg rs hb
    rw [← e1, e2]
    clear e1 e2 hb hR
    go_enter Try.func36, Try.ntmps36
    go_wp2_with (first | (go_at_call 67; refine (cRSize _ _ (by omega) (by omega)).mono ?_; rintro e w1 ⟨rfl, rfl⟩) | (go_at_call 68; refine (rBound b o _ _ hc hf).mono ?_; rintro e w1 ⟨rfl, hM⟩))
    refine wp_loop_rounds 5 ?_
    rw [rounds_succ]
    go_wp2_with (go_at_call 68; refine (rBound b o _ _ hc hf).mono ?_; rintro e w1 ⟨rfl, hM⟩)
    rw [rounds_succ]
    go_wp2_with (go_at_call 68; refine (rBound b o _ _ hc hf).mono ?_; rintro e w1 ⟨rfl, hM⟩)
    rw [rounds_succ]
    go_wp2_with (go_at_call 68; refine (rBound b o _ _ hc hf).mono ?_; rintro e w1 ⟨rfl, hM⟩)
    go_ret
    exact ⟨rfl, by simpa using hM⟩
  · have k1 : IntKind.u64.wrap (A * 4294967296 + B + C + Q + 1) = 0 := by rw [IntKind.wrap_u64]; omega
    have hb : 9223372036854775808 < rs := by rw [hR]; split <;> omega
    obtain ⟨e1, e2⟩ := sat_big neg rs hb
    rw [← e1, e2]
    clear e1 e2 hb hR
    go_enter Try.func36, Try.ntmps36
    go_wp2_with (first | (go_at_call 67; refine (cRSize _ _ (by omega) (by omega)).mono ?_; rintro e w1 ⟨rfl, rfl⟩) | (go_at_call 68; refine (rBound b o _ _ hc hf).mono ?_; rintro e w1 ⟨rfl, hM⟩))
    refine wp_loop_rounds 5 ?_
    rw [rounds_succ]
    go_wp2_with (go_at_call 68; refine (rBound b o _ _ hc hf).mono ?_; rintro e w1 ⟨rfl, hM⟩)
    rw [rounds_succ]
    go_wp2_with (go_at_call 68; refine (rBound b o _ _ hc hf).mono ?_; rintro e w1 ⟨rfl, hM⟩)
    rw [rounds_succ]
    go_wp2_with (go_at_call 68; refine (rBound b o _ _ hc hf).mono ?_; rintro e w1 ⟨rfl, hM⟩)
    rw [rounds_succ]
    go_wp2_with (go_at_call 68; refine (rBound b o _ _ hc hf).mono ?_; rintro e w1 ⟨rfl, hM⟩)
    go_ret
    exact ⟨rfl, by simpa using hM⟩
  · have hv : rs = A * 4294967296 + B + C + Q + 1 := by rw [hR]; rw [if_pos (by omega)]
    rw [hv]
    clear hR hv
    go_enter Try.func36, Try.ntmps36
    go_wp2_with (first | (go_at_call 67; refine (cRSize _ _ (by omega) (by omega)).mono ?_; rintro e w1 ⟨rfl, rfl⟩))
    refine wp_loop_rounds 5 ?_
    rw [rounds_succ]
    go_wp2_with (go_at_call 69; refine (rSigned neg _ b o _ (by omega) (by omega) hc hf).mono ?_; rintro e w1 ⟨rfl, hM⟩)
    rw [rounds_succ]
    go_wp2_with (go_at_call 69; refine (rSigned neg _ b o _ (by omega) (by omega) hc hf).mono ?_; rintro e w1 ⟨rfl, hM⟩)
    rw [rounds_succ]
    go_wp2_with (go_at_call 69; refine (rSigned neg _ b o _ (by omega) (by omega) hc hf).mono ?_; rintro e w1 ⟨rfl, hM⟩)
    rw [rounds_succ]
    go_wp2_with (go_at_call 69; refine (rSigned neg _ b o _ (by omega) (by omega) hc hf).mono ?_; rintro e w1 ⟨rfl, hM⟩)
    rw [rounds_succ]
    go_wp2_with (go_at_call 69; refine (rSigned neg _ b o _ (by omega) (by omega) hc hf).mono ?_; rintro e w1 ⟨rfl, hM⟩)
    go_ret
    exact ⟨rfl, hM⟩
  · have k1 : IntKind.u64.wrap (A * 4294967296 + B + C + Q + 1) = 0 := by rw [IntKind.wrap_u64]; omega
    have hb : 9223372036854775808 < rs := by rw [hR]; split <;> omega
    obtain ⟨e1, e2⟩ := sat_big neg rs hb
    rw [← e1, e2]
    clear e1 e2 hb hR
    go_enter Try.func36, Try.ntmps36
    go_wp2_with (first | (go_at_call 67; refine (cRSize _ _ (by omega) (by omega)).mono ?_; rintro e w1 ⟨rfl, rfl⟩) | (go_at_call 68; refine (rBound b o _ _ hc hf).mono ?_; rintro e w1 ⟨rfl, hM⟩))
    refine wp_loop_rounds 5 ?_
    rw [rounds_succ]
    go_wp2_with (go_at_call 68; refine (rBound b o _ _ hc hf).mono ?_; rintro e w1 ⟨rfl, hM⟩)
    rw [rounds_succ]
    go_wp2_with (go_at_call 68; refine (rBound b o _ _ hc hf).mono ?_; rintro e w1 ⟨rfl, hM⟩)
    rw [rounds_succ]
    go_wp2_with (go_at_call 68; refine (rBound b o _ _ hc hf).mono ?_; rintro e w1 ⟨rfl, hM⟩)
    rw [rounds_succ]
    go_wp2_with (go_at_call 68; refine (rBound b o _ _ hc hf).mono ?_; rintro e w1 ⟨rfl, hM⟩)
    go_ret
    exact ⟨rfl, by simpa using hM⟩
  · have hv : rs = A * 4294967296 + B + C + Q + 1 := by rw [hR]; rw [if_pos (by omega)]
    rw [hv]
    clear hR hv
    go_enter Try.func36, Try.ntmps36
    go_wp2_with (first | (go_at_call 67; refine (cRSize _ _ (by omega) (by omega)).mono ?_; rintro e w1 ⟨rfl, rfl⟩))
    refine wp_loop_rounds 5 ?_
    rw [rounds_succ]
    go_wp2_with (go_at_call 69; refine (rSigned neg _ b o _ (by omega) (by omega) hc hf).mono ?_; rintro e w1 ⟨rfl, hM⟩)
    rw [rounds_succ]
    go_wp2_with (go_at_call 69; refine (rSigned neg _ b o _ (by omega) (by omega) hc hf).mono ?_; rintro e w1 ⟨rfl, hM⟩)
    rw [rounds_succ]
    go_wp2_with (go_at_call 69; refine (rSigned neg _ b o _ (by omega) (by omega) hc hf).mono ?_; rintro e w1 ⟨rfl, hM⟩)
    rw [rounds_succ]
    go_wp2_with (go_at_call 69; refine (rSigned neg _ b o _ (by omega) (by omega) hc hf).mono ?_; rintro e w1 ⟨rfl, hM⟩)
    rw [rounds_succ]
    go_wp2_with (go_at_call 69; refine (rSigned neg _ b o _ (by omega) (by omega) hc hf).mono ?_; rintro e w1 ⟨rfl, hM⟩)
    go_ret
    exact ⟨rfl, hM⟩
  · have hv : rs = A * 4294967296 + B + C + Q := by rw [hR]; rw [if_neg (by omega)]
    rw [hv]
    clear hR hv
    go_enter Try.func36, Try.ntmps36
    go_wp2_with (first | (go_at_call 67; refine (cRSize _ _ (by omega) (by omega)).mono ?_; rintro e w1 ⟨rfl, rfl⟩))
    refine wp_loop_rounds 5 ?_
    rw [rounds_succ]
    go_wp2_with (go_at_call 69; refine (rSigned neg _ b o _ (by omega) (by omega) hc hf).mono ?_; rintro e w1 ⟨rfl, hM⟩)
    rw [rounds_succ]
    go_wp2_with (go_at_call 69; refine (rSigned neg _ b o _ (by omega) (by omega) hc hf).mono ?_; rintro e w1 ⟨rfl, hM⟩)
    rw [rounds_succ]
    go_wp2_with (go_at_call 69; refine (rSigned neg _ b o _ (by omega) (by omega) hc hf).mono ?_; rintro e w1 ⟨rfl, hM⟩)
    rw [rounds_succ]
    go_wp2_with (go_at_call 69; refine (rSigned neg _ b o _ (by omega) (by omega) hc hf).mono ?_; rintro e w1 ⟨rfl, hM⟩)
    rw [rounds_succ]
    go_wp2_with (go_at_call 69; refine (rSigned neg _ b o _ (by omega) (by omega) hc hf).mono ?_; rintro e w1 ⟨rfl, hM⟩)
    go_ret
    exact ⟨rfl, hM⟩
  · have hv : rs = A * 4294967296 + B + C + Q := by rw [hR]; rw [if_neg (by omega)]
    rw [hv]
    clear hR hv
    go_enter Try.func36, Try.ntmps36
    go_wp2_with (first | (go_at_call 67; refine (cRSize _ _ (by omega) (by omega)).mono ?_; rintro e w1 ⟨rfl, rfl⟩))
    refine wp_loop_rounds 5 ?_
    rw [rounds_succ]
    go_wp2_with (go_at_call 69; refine (rSigned neg _ b o _ (by omega) (by omega) hc hf).mono ?_; rintro e w1 ⟨rfl, hM⟩)
    rw [rounds_succ]
    go_wp2_with (go_at_call 69; refine (rSigned neg _ b o _ (by omega) (by omega) hc hf).mono ?_; rintro e w1 ⟨rfl, hM⟩)
    rw [rounds_succ]
    go_wp2_with (go_at_call 69; refine (rSigned neg _ b o _ (by omega) (by omega) hc hf).mono ?_; rintro e w1 ⟨rfl, hM⟩)
    rw [rounds_succ]
    go_wp2_with (go_at_call 69; refine (rSigned neg _ b o _ (by omega) (by omega) hc hf).mono ?_; rintro e w1 ⟨rfl, hM⟩)
    rw [rounds_succ]
    go_wp2_with (go_at_call 69; refine (rSigned neg _ b o _ (by omega) (by omega) hc hf).mono ?_; rintro e w1 ⟨rfl, hM⟩)
    go_ret
    exact ⟨rfl, hM⟩
end Go.Proofs.Ytjpkkpflamkjkaa
