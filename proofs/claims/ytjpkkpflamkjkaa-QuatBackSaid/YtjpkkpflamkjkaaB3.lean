/- The contracts of the document's numbers: bit, Zero, Size, Of, From, Words, Sign. -/
import Derived.Test.YtjpkkpflamkjkaaB2
import Derived.Lib.Zigzag
set_option linter.unusedSimpArgs false
set_option linter.unusedVariables false
namespace Go.Proofs.Ytjpkkpflamkjkaa
open Go.RowKit
theorem not_u64 (x : Int) (h0 : 0 ≤ x) (h1 : x ≤ 18446744073709551615) : bits .xor .u64 IntKind.u64.max x = 18446744073709551615 - x := by
  obtain ⟨n, rfl⟩ := Int.eq_ofNat_of_zero_le h0
  have e2 : IntKind.u64.max = ((2 ^ 64 - 1 : Nat) : Int) := by decide
  rw [e2, Go.bits_xor_u64_nat _ _ (by decide) (by omega), Lib.xor_ones64 _ (by omega)]
  omega
theorem cRBit0 (a0 a1 a2 a3 i j s : Int) (w : World) (e1 : i / 32 = 0) (e2 : i % 32 = j) (hj : 0 ≤ j) (hj' : j < 32) (hi : 0 ≤ i) (hi' : i < 128) (hs : (a0 / 2 ^ j.toNat).tmod 2 = s) :
    Calls Try.prog 104 #[.agg #[.int .u64 a0, .int .u64 a1, .int .u64 a2, .int .u64 a3], .int .i64 i] w fun e w' => e = .returned (.int .u64 s) ∧ Below w.heap.size w w' := by
  go_enter Try.func104, Try.ntmps104
  go_wp2
  simp [bodyPost, results, Try.results104, go_sem]
  (repeat (first | with_reducible assumption | with_reducible exact Below.refl _ _ | ((with_reducible refine Below.setCell ?_ ?_ _); rotate_left; (first | exact Nat.le_refl _ | (dsimp only; omega) | (simp; done) | (simp; omega))) | with_reducible refine below_alloc ?_ _ | with_reducible apply below_drewN | with_reducible apply Below.drew | with_reducible refine below_step ?_ (by assumption)))
theorem cRBit1 (a0 a1 a2 a3 i j s : Int) (w : World) (e1 : i / 32 = 1) (e2 : i % 32 = j) (hj : 0 ≤ j) (hj' : j < 32) (hi : 0 ≤ i) (hi' : i < 128) (hs : (a1 / 2 ^ j.toNat).tmod 2 = s) :
    Calls Try.prog 104 #[.agg #[.int .u64 a0, .int .u64 a1, .int .u64 a2, .int .u64 a3], .int .i64 i] w fun e w' => e = .returned (.int .u64 s) ∧ Below w.heap.size w w' := by
  go_enter Try.func104, Try.ntmps104
  go_wp2
  simp [bodyPost, results, Try.results104, go_sem]
  (repeat (first | with_reducible assumption | with_reducible exact Below.refl _ _ | ((with_reducible refine Below.setCell ?_ ?_ _); rotate_left; (first | exact Nat.le_refl _ | (dsimp only; omega) | (simp; done) | (simp; omega))) | with_reducible refine below_alloc ?_ _ | with_reducible apply below_drewN | with_reducible apply Below.drew | with_reducible refine below_step ?_ (by assumption)))
theorem cRBit2 (a0 a1 a2 a3 i j s : Int) (w : World) (e1 : i / 32 = 2) (e2 : i % 32 = j) (hj : 0 ≤ j) (hj' : j < 32) (hi : 0 ≤ i) (hi' : i < 128) (hs : (a2 / 2 ^ j.toNat).tmod 2 = s) :
    Calls Try.prog 104 #[.agg #[.int .u64 a0, .int .u64 a1, .int .u64 a2, .int .u64 a3], .int .i64 i] w fun e w' => e = .returned (.int .u64 s) ∧ Below w.heap.size w w' := by
  go_enter Try.func104, Try.ntmps104
  go_wp2
  simp [bodyPost, results, Try.results104, go_sem]
  (repeat (first | with_reducible assumption | with_reducible exact Below.refl _ _ | ((with_reducible refine Below.setCell ?_ ?_ _); rotate_left; (first | exact Nat.le_refl _ | (dsimp only; omega) | (simp; done) | (simp; omega))) | with_reducible refine below_alloc ?_ _ | with_reducible apply below_drewN | with_reducible apply Below.drew | with_reducible refine below_step ?_ (by assumption)))
theorem cRBit3 (a0 a1 a2 a3 i j s : Int) (w : World) (e1 : i / 32 = 3) (e2 : i % 32 = j) (hj : 0 ≤ j) (hj' : j < 32) (hi : 0 ≤ i) (hi' : i < 128) (hs : (a3 / 2 ^ j.toNat).tmod 2 = s) :
    Calls Try.prog 104 #[.agg #[.int .u64 a0, .int .u64 a1, .int .u64 a2, .int .u64 a3], .int .i64 i] w fun e w' => e = .returned (.int .u64 s) ∧ Below w.heap.size w w' := by
  go_enter Try.func104, Try.ntmps104
  go_wp2
  simp [bodyPost, results, Try.results104, go_sem]
  (repeat (first | with_reducible assumption | with_reducible exact Below.refl _ _ | ((with_reducible refine Below.setCell ?_ ?_ _); rotate_left; (first | exact Nat.le_refl _ | (dsimp only; omega) | (simp; done) | (simp; omega))) | with_reducible refine below_alloc ?_ _ | with_reducible apply below_drewN | with_reducible apply Below.drew | with_reducible refine below_step ?_ (by assumption)))
theorem bit_lem (a R : Int) (j : Nat) (hj : j < 32) : (a + 4294967296 * R) / 2 ^ j % 2 = a / 2 ^ j % 2 := by
  obtain ⟨k, hk⟩ : ∃ k, 32 = j + (k + 1) := ⟨31 - j, by omega⟩
  have e : (4294967296 : Int) * R = 2 ^ j * (2 * (2 ^ k * R)) := by
    have : (4294967296 : Int) = 2 ^ (j + (k + 1)) := by rw [← hk]; rfl
    rw [this, Int.pow_add, Int.pow_succ]
    simp only [Int.mul_assoc, Int.mul_left_comm]
  rw [e, Int.add_mul_ediv_left _ _ (Int.ne_of_gt (Int.pow_pos (by decide)))]
  omega
theorem bit_split (m a R : Int) (i b j : Nat) (K : Int) (hb : (2 : Int) ^ b = K) (hi : i = b + j) (hj : j < 32) (hm : m / K = a + 4294967296 * R) (hK : 0 < K) : m / 2 ^ i % 2 = a / 2 ^ j % 2 := by
  rw [hi, Int.pow_add, hb, ← Int.ediv_ediv_of_nonneg (Int.le_of_lt hK), hm, bit_lem _ _ _ hj]
theorem cRBit (m i : Int) (w : World) (hm : 0 ≤ m) (hm' : m ≤ 340282366920938463463374607431768211455) (hi : 0 ≤ i) (hi' : i < 128) :
    Calls Try.prog 104 #[.agg #[.int .u64 (d0 (m)), .int .u64 (d1 (m)), .int .u64 (d2 (m)), .int .u64 (d3 (m))], .int .i64 i] w fun e w' => e = .returned (.int .u64 (m / 2 ^ i.toNat % 2)) ∧ Below w.heap.size w w' := by
  have em := dg m hm hm'
  have a0 := d0_bd m; have a1 := d1_bd m; have a2 := d2_bd m; have a3 := d3_bd m
  generalize d0 m = x0 at *; generalize d1 m = x1 at *; generalize d2 m = x2 at *; generalize d3 m = x3 at *
  have tm : ∀ a : Int, 0 ≤ a → ∀ j : Nat, (a / 2 ^ j).tmod 2 = a / 2 ^ j % 2 := fun a h j => Int.tmod_eq_emod_of_nonneg (Int.ediv_nonneg h (Int.le_of_lt (Int.pow_pos (by decide))))
  rcases (show i / 32 = 0 ∨ i / 32 = 1 ∨ i / 32 = 2 ∨ i / 32 = 3 by omega) with h | h | h | h
  · refine cRBit0 _ _ _ _ i (i % 32) _ w h rfl (by omega) (by omega) hi hi' ?_
    rw [tm _ (by omega)]
    exact (bit_split m x0 (x1 + x2 * 4294967296 + x3 * 18446744073709551616) _ 0 _ 1 (by rfl) (by omega) (by omega) (by omega) (by decide)).symm
  · refine cRBit1 _ _ _ _ i (i % 32) _ w h rfl (by omega) (by omega) hi hi' ?_
    rw [tm _ (by omega)]
    exact (bit_split m x1 (x2 + x3 * 4294967296) _ 32 _ 4294967296 (by rfl) (by omega) (by omega) (by omega) (by decide)).symm
  · refine cRBit2 _ _ _ _ i (i % 32) _ w h rfl (by omega) (by omega) hi hi' ?_
    rw [tm _ (by omega)]
    exact (bit_split m x2 x3 _ 64 _ 18446744073709551616 (by rfl) (by omega) (by omega) (by omega) (by decide)).symm
  · refine cRBit3 _ _ _ _ i (i % 32) _ w h rfl (by omega) (by omega) hi hi' ?_
    rw [tm _ (by omega)]
    exact (bit_split m x3 0 _ 96 _ 79228162514264337593543950336 (by rfl) (by omega) (by omega) (by omega) (by decide)).symm
theorem cRZero (g : Bool) (m : Int) (w : World) (hm : 0 ≤ m) (hm' : m ≤ 340282366920938463463374607431768211455) :
    Calls Try.prog 90 #[.agg #[.bool (g), .int .u64 (d0 (m)), .int .u64 (d1 (m)), .int .u64 (d2 (m)), .int .u64 (d3 (m))]] w fun e w' => e = .returned (.bool (decide (m = 0))) ∧ Below w.heap.size w w' := by
  have em := dg m hm hm'
  have a0 := d0_bd m; have a1 := d1_bd m; have a2 := d2_bd m; have a3 := d3_bd m
  generalize d0 m = x0 at *; generalize d1 m = x1 at *; generalize d2 m = x2 at *; generalize d3 m = x3 at *
  have E := Lib.hid em
  have A0 := Lib.hid a0; have A1 := Lib.hid a1; have A2 := Lib.hid a2; have A3 := Lib.hid a3
  clear em a0 a1 a2 a3 hm hm'
  go_enter Try.func90, Try.ntmps90
  go_wp2
  all_goals simp [bodyPost, results, Try.results90, go_sem]
  all_goals have e := E.out
  all_goals have a0 := A0.out; have a1 := A1.out; have a2 := A2.out; have a3 := A3.out
  all_goals refine ⟨?_, by (repeat (first | with_reducible assumption | with_reducible exact Below.refl _ _ | ((with_reducible refine Below.setCell ?_ ?_ _); rotate_left; (first | exact Nat.le_refl _ | (dsimp only; omega) | (simp; done) | (simp; omega))) | with_reducible refine below_alloc ?_ _ | with_reducible apply below_drewN | with_reducible apply Below.drew | with_reducible refine below_step ?_ (by assumption)))⟩
  all_goals first | omega | (simp; omega) | (rw [Bool.eq_iff_iff]; simp; omega)
theorem cROf (n : Int) (w : World) (h0 : -9223372036854775808 ≤ n) (h1 : n ≤ 9223372036854775807) : Calls Try.prog 98 #[.int .i64 n] w fun e w' => e = .returned (.agg #[.bool (decide (n < 0)), .int .u64 (d0 (n.natAbs)), .int .u64 (d1 (n.natAbs)), .int .u64 (d2 (n.natAbs)), .int .u64 (d3 (n.natAbs))]) ∧ Below w.heap.size w w' := by
  go_enter Try.func98, Try.ntmps98
  go_wp2_with (first | (go_at_call 67; refine (cBSize _ _ (by omega) (by omega)).mono ?_; rintro e w1 ⟨rfl, rfl⟩) | (go_at_call 92; refine (cRLow _ _ (by omega) (by omega)).mono ?_; rintro e w1 ⟨rfl, rfl⟩))
  all_goals simp [bodyPost, results, Try.results98, go_sem]
  exact ⟨⟨by unfold d0; omega, by unfold d1; omega, by unfold d2; omega, by unfold d3; omega⟩, by (repeat (first | with_reducible assumption | with_reducible exact Below.refl _ _ | ((with_reducible refine Below.setCell ?_ ?_ _); rotate_left; (first | exact Nat.le_refl _ | (dsimp only; omega) | (simp; done) | (simp; omega))) | with_reducible refine below_alloc ?_ _ | with_reducible apply below_drewN | with_reducible apply Below.drew | with_reducible refine below_step ?_ (by assumption)))⟩
end Go.Proofs.Ytjpkkpflamkjkaa
