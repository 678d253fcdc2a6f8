/- The contract of the document's product (chapter 1). -/
import Derived.Test.YtjpkkpflamkjkaaB4
import Derived.Deep.CutBlock
import Derived.Lib.ItoaWalk
set_option linter.unusedSimpArgs false
set_option linter.unusedVariables false
namespace Go.Proofs.Ytjpkkpflamkjkaa
open Go.RowKit
def St1 (W : World) (B : Nat) (o0 o1 o2 o3 : Int) (wx : World) : Prop :=
  Below B W wx ∧ (wx.heap.size = W.heap.size ∧ wx.cell? ⟨B, 0, none⟩ = W.cell? ⟨B, 0, none⟩ ∧ wx.frozen? ⟨B, 0, none⟩ = W.frozen? ⟨B, 0, none⟩) ∧ wx.cell? ⟨B, 1, none⟩ = some (.int .u64 o0) ∧ wx.cell? ⟨B, 2, none⟩ = some (.int .u64 o1) ∧ wx.cell? ⟨B, 3, none⟩ = some (.int .u64 o2) ∧ wx.cell? ⟨B, 4, none⟩ = some (.int .u64 o3) ∧ wx.frozen? ⟨B, 1, none⟩ = false ∧ wx.frozen? ⟨B, 2, none⟩ = false ∧ wx.frozen? ⟨B, 3, none⟩ = false ∧ wx.frozen? ⟨B, 4, none⟩ = false
def St0 (W : World) (B : Nat) (o0 o1 o2 o3 : Int) (wx : World) : Prop :=
  Below B W wx ∧ wx.heap.size = W.heap.size ∧ wx.cell? ⟨B, 0, none⟩ = some (.int .u64 o0) ∧ wx.cell? ⟨B, 1, none⟩ = some (.int .u64 o1) ∧ wx.cell? ⟨B, 2, none⟩ = some (.int .u64 o2) ∧ wx.cell? ⟨B, 3, none⟩ = some (.int .u64 o3) ∧ wx.frozen? ⟨B, 0, none⟩ = false ∧ wx.frozen? ⟨B, 1, none⟩ = false ∧ wx.frozen? ⟨B, 2, none⟩ = false ∧ wx.frozen? ⟨B, 3, none⟩ = false
def Dg (o0 o1 o2 o3 : Int) : Prop := (0 ≤ o0 ∧ o0 ≤ 4294967295) ∧ (0 ≤ o1 ∧ o1 ≤ 4294967295) ∧ (0 ≤ o2 ∧ o2 ≤ 4294967295) ∧ (0 ≤ o3 ∧ o3 ≤ 4294967295)
theorem St1.drewN {W wx : World} {B : Nat} {o0 o1 o2 o3 : Int} (h : St1 W B o0 o1 o2 o3 wx) (n : Nat) : St1 W B o0 o1 o2 o3 (wx.drewN n) := by
  obtain ⟨b0, bz, c0, c1, c2, c3, f0, f1, f2, f3⟩ := h
  refine ⟨below_drewN b0 _, ?_, ?_, ?_, ?_, ?_, ?_, ?_, ?_, ?_⟩ <;> simp [go_sem, *]
theorem St0.drewN {W wx : World} {B : Nat} {o0 o1 o2 o3 : Int} (h : St0 W B o0 o1 o2 o3 wx) (n : Nat) : St0 W B o0 o1 o2 o3 (wx.drewN n) := by
  obtain ⟨b0, bz, c0, c1, c2, c3, f0, f1, f2, f3⟩ := h
  refine ⟨below_drewN b0 _, ?_, ?_, ?_, ?_, ?_, ?_, ?_, ?_, ?_⟩ <;> simp [go_sem, *]
theorem frz_later {a : Addr} {v : Value} {W w1 : World} (hb : Below W.heap.size W w1) (q : W.cell? a = some v) (f : W.frozen? a = false) : w1.frozen? a = false := by
  rw [bfrozen hb a (by rw [q]; rfl)]; exact f
theorem sgn_mul (a b : Int) (g : Bool) (hg : (!(decide (a < 0) == decide (b < 0))) = g) (h : a * b ≠ 0) : g = decide (a * b < 0) := by
  have ha : a ≠ 0 := fun h0 => h (by rw [h0, Int.zero_mul])
  have hb : b ≠ 0 := fun h0 => h (by rw [h0, Int.mul_zero])
  rw [← hg]
  rcases (show a < 0 ∨ 0 < a by omega) with h1 | h1 <;> rcases (show b < 0 ∨ 0 < b by omega) with h2 | h2
  · have := Int.mul_pos_of_neg_of_neg h1 h2; simp [h1, h2]; omega
  · have := Int.mul_neg_of_neg_of_pos h1 h2; simp [h1, show ¬ b < 0 by omega]; omega
  · have := Int.mul_neg_of_pos_of_neg h1 h2; simp [h2, show ¬ a < 0 by omega]; omega
  · have := Int.mul_pos h1 h2; simp [show ¬ a < 0 by omega, show ¬ b < 0 by omega]; omega
theorem St1.drew {W wx : World} {B : Nat} {o0 o1 o2 o3 : Int} (h : St1 W B o0 o1 o2 o3 wx) : St1 W B o0 o1 o2 o3 wx.drew := by
  obtain ⟨b0, bz, c0, c1, c2, c3, f0, f1, f2, f3⟩ := h
  refine ⟨b0.drew, ?_, ?_, ?_, ?_, ?_, ?_, ?_, ?_, ?_⟩ <;> simp [go_sem, *]
theorem St1.set0 {W wx : World} {B : Nat} {o0 o1 o2 o3 : Int} (h : St1 W B o0 o1 o2 o3 wx) (s : Int) : St1 W B s o1 o2 o3 (wx.setCell ⟨B, 1, none⟩ (.int .u64 s)) := by
  obtain ⟨b0, bz, c0, c1, c2, c3, f0, f1, f2, f3⟩ := h
  refine ⟨b0.setCell (Nat.le_refl _) _, ?_, ?_, ?_, ?_, ?_, ?_, ?_, ?_, ?_⟩ <;> simp (maxDischargeDepth := 6) [go_sem, *]
theorem St1.set1 {W wx : World} {B : Nat} {o0 o1 o2 o3 : Int} (h : St1 W B o0 o1 o2 o3 wx) (s : Int) : St1 W B o0 s o2 o3 (wx.setCell ⟨B, 2, none⟩ (.int .u64 s)) := by
  obtain ⟨b0, bz, c0, c1, c2, c3, f0, f1, f2, f3⟩ := h
  refine ⟨b0.setCell (Nat.le_refl _) _, ?_, ?_, ?_, ?_, ?_, ?_, ?_, ?_, ?_⟩ <;> simp (maxDischargeDepth := 6) [go_sem, *]
theorem St1.set2 {W wx : World} {B : Nat} {o0 o1 o2 o3 : Int} (h : St1 W B o0 o1 o2 o3 wx) (s : Int) : St1 W B o0 o1 s o3 (wx.setCell ⟨B, 3, none⟩ (.int .u64 s)) := by
  obtain ⟨b0, bz, c0, c1, c2, c3, f0, f1, f2, f3⟩ := h
  refine ⟨b0.setCell (Nat.le_refl _) _, ?_, ?_, ?_, ?_, ?_, ?_, ?_, ?_, ?_⟩ <;> simp (maxDischargeDepth := 6) [go_sem, *]
theorem St1.set3 {W wx : World} {B : Nat} {o0 o1 o2 o3 : Int} (h : St1 W B o0 o1 o2 o3 wx) (s : Int) : St1 W B o0 o1 o2 s (wx.setCell ⟨B, 4, none⟩ (.int .u64 s)) := by
  obtain ⟨b0, bz, c0, c1, c2, c3, f0, f1, f2, f3⟩ := h
  refine ⟨b0.setCell (Nat.le_refl _) _, ?_, ?_, ?_, ?_, ?_, ?_, ?_, ?_, ?_⟩ <;> simp (maxDischargeDepth := 6) [go_sem, *]
theorem St0.drew {W wx : World} {B : Nat} {o0 o1 o2 o3 : Int} (h : St0 W B o0 o1 o2 o3 wx) : St0 W B o0 o1 o2 o3 wx.drew := by
  obtain ⟨b0, bz, c0, c1, c2, c3, f0, f1, f2, f3⟩ := h
  refine ⟨b0.drew, ?_, ?_, ?_, ?_, ?_, ?_, ?_, ?_, ?_⟩ <;> simp [go_sem, *]
theorem St0.set0 {W wx : World} {B : Nat} {o0 o1 o2 o3 : Int} (h : St0 W B o0 o1 o2 o3 wx) (s : Int) : St0 W B s o1 o2 o3 (wx.setCell ⟨B, 0, none⟩ (.int .u64 s)) := by
  obtain ⟨b0, bz, c0, c1, c2, c3, f0, f1, f2, f3⟩ := h
  refine ⟨b0.setCell (Nat.le_refl _) _, ?_, ?_, ?_, ?_, ?_, ?_, ?_, ?_, ?_⟩ <;> simp (maxDischargeDepth := 6) [go_sem, *]
theorem St0.set1 {W wx : World} {B : Nat} {o0 o1 o2 o3 : Int} (h : St0 W B o0 o1 o2 o3 wx) (s : Int) : St0 W B o0 s o2 o3 (wx.setCell ⟨B, 1, none⟩ (.int .u64 s)) := by
  obtain ⟨b0, bz, c0, c1, c2, c3, f0, f1, f2, f3⟩ := h
  refine ⟨b0.setCell (Nat.le_refl _) _, ?_, ?_, ?_, ?_, ?_, ?_, ?_, ?_, ?_⟩ <;> simp (maxDischargeDepth := 6) [go_sem, *]
theorem St0.set2 {W wx : World} {B : Nat} {o0 o1 o2 o3 : Int} (h : St0 W B o0 o1 o2 o3 wx) (s : Int) : St0 W B o0 o1 s o3 (wx.setCell ⟨B, 2, none⟩ (.int .u64 s)) := by
  obtain ⟨b0, bz, c0, c1, c2, c3, f0, f1, f2, f3⟩ := h
  refine ⟨b0.setCell (Nat.le_refl _) _, ?_, ?_, ?_, ?_, ?_, ?_, ?_, ?_, ?_⟩ <;> simp (maxDischargeDepth := 6) [go_sem, *]
theorem St0.set3 {W wx : World} {B : Nat} {o0 o1 o2 o3 : Int} (h : St0 W B o0 o1 o2 o3 wx) (s : Int) : St0 W B o0 o1 o2 s (wx.setCell ⟨B, 3, none⟩ (.int .u64 s)) := by
  obtain ⟨b0, bz, c0, c1, c2, c3, f0, f1, f2, f3⟩ := h
  refine ⟨b0.setCell (Nat.le_refl _) _, ?_, ?_, ?_, ?_, ?_, ?_, ?_, ?_, ?_⟩ <;> simp (maxDischargeDepth := 6) [go_sem, *]
def pw (a : Int) : Int := if a = 0 then 1 else if a = 1 then 4294967296 else if a = 2 then 18446744073709551616 else if a = 3 then 79228162514264337593543950336 else 340282366920938463463374607431768211456
set_option maxHeartbeats 8000000 in
theorem cRMul (a b : Int) (w : World) (a0 : -9223372036854775808 ≤ a) (a1 : a ≤ 9223372036854775807) (b0 : -9223372036854775808 ≤ b) (b1 : b ≤ 9223372036854775807) :
    Calls Try.prog 75 #[.int .i64 a, .int .i64 b] w fun e w' => e = .returned (.agg #[.bool (decide (a * b < 0)), .int .u64 (d0 ((a * b).natAbs)), .int .u64 (d1 ((a * b).natAbs)), .int .u64 (d2 ((a * b).natAbs)), .int .u64 (d3 ((a * b).natAbs))]) ∧ Below w.heap.size w w' := by
  obtain ⟨x, hx⟩ : ∃ t, (a.natAbs : Int) = t := ⟨_, rfl⟩
  obtain ⟨y, hy⟩ : ∃ t, (b.natAbs : Int) = t := ⟨_, rfl⟩
  obtain ⟨l0, hl0⟩ : ∃ t, x % 4294967296 = t := ⟨_, rfl⟩
  obtain ⟨l1, hl1⟩ : ∃ t, x / 4294967296 = t := ⟨_, rfl⟩
  obtain ⟨m0, hm0⟩ : ∃ t, y % 4294967296 = t := ⟨_, rfl⟩
  obtain ⟨m1, hm1⟩ : ∃ t, y / 4294967296 = t := ⟨_, rfl⟩
  have bx : 0 ≤ x ∧ x ≤ 9223372036854775808 := by omega
  have by_ : 0 ≤ y ∧ y ≤ 9223372036854775808 := by omega
  obtain ⟨bx0, bx1⟩ := bx; obtain ⟨by0, by1⟩ := by_
  obtain ⟨g, hg⟩ : ∃ t, (!(decide (a < 0) == decide (b < 0))) = t := ⟨_, rfl⟩
  have pr : ∀ u v : Int, 0 ≤ u → u ≤ 4294967295 → 0 ≤ v → v ≤ 4294967295 → 0 ≤ u * v ∧ u * v ≤ 18446744065119617025 := fun u v h1 h2 h3 h4 => ⟨Int.mul_nonneg h1 h3, Int.le_trans (Int.mul_le_mul h2 h4 h3 (by decide)) (by decide)⟩
  have bl0 : 0 ≤ l0 ∧ l0 ≤ 4294967295 := by omega
  have bl1 : 0 ≤ l1 ∧ l1 ≤ 2147483648 := by omega
  have bm0 : 0 ≤ m0 ∧ m0 ≤ 4294967295 := by omega
  have bm1 : 0 ≤ m1 ∧ m1 ≤ 2147483648 := by omega
  have p00 := pr l0 m0 (by omega) (by omega) (by omega) (by omega)
  have p01 := pr l0 m1 (by omega) (by omega) (by omega) (by omega)
  have p10 := pr l1 m0 (by omega) (by omega) (by omega) (by omega)
  have p11 := pr l1 m1 (by omega) (by omega) (by omega) (by omega)
  obtain ⟨A, hA⟩ : ∃ t, l0 * m0 = t := ⟨_, rfl⟩
  obtain ⟨B, hB⟩ : ∃ t, l0 * m1 = t := ⟨_, rfl⟩
  obtain ⟨C, hC⟩ : ∃ t, l1 * m0 = t := ⟨_, rfl⟩
  obtain ⟨D, hD⟩ : ∃ t, l1 * m1 = t := ⟨_, rfl⟩
  rw [hA] at p00; rw [hB] at p01; rw [hC] at p10; rw [hD] at p11
  have XY : Hid (x * y = A + (B + C) * 4294967296 + D * 18446744073709551616) := Lib.hid (by
    rw [show x = l0 + l1 * 4294967296 by omega, show y = m0 + m1 * 4294967296 by omega, Int.add_mul, Int.mul_add, Int.mul_add, hA, ← Int.mul_assoc, hB, Int.mul_right_comm l1, hC, Int.mul_right_comm l1 4294967296, ← Int.mul_assoc l1, hD]
    omega)
  have wA : IntKind.u64.wrap (l0 * m0) = A := by rw [hA, IntKind.wrap_u64]; omega
  have wB : IntKind.u64.wrap (l0 * m1) = B := by rw [hB, IntKind.wrap_u64]; omega
  have wC : IntKind.u64.wrap (l1 * m0) = C := by rw [hC, IntKind.wrap_u64]; omega
  have wD : IntKind.u64.wrap (l1 * m1) = D := by rw [hD, IntKind.wrap_u64]; omega
  clear hA hB hC hD pr
  obtain ⟨m, hm⟩ : ∃ t, ((a * b).natAbs : Int) = t := ⟨_, rfl⟩
  obtain ⟨s, hs⟩ : ∃ t, decide (a * b < 0) = t := ⟨_, rfl⟩
  rw [hm, hs]
  have HMS := Lib.hid (And.intro hm hs)
  clear hm hs
  go_enter Try.func75, Try.ntmps75
  go_wp2_with (first | (go_at_call 67; refine (cBSize _ _ (by omega) (by omega)).mono ?_; rintro e w1 ⟨rfl, rfl⟩) | (go_at_call 92; refine (cRLow _ _ (by omega) (by omega)).mono ?_; rintro e w1 ⟨rfl, rfl⟩))
  have HXY := Lib.hid (And.intro hx (And.intro hy hg))
  clear hl0 hl1 hm0 hm1 hx hy hg
  go_name_world W0 hW0
  have hz : W0.heap.size = w.heap.size + 1 + 1 + 1 + 1 := by rw [← hW0]; simp
  have BW : Below w.heap.size w W0 := by rw [← hW0]; (repeat (first | with_reducible assumption | with_reducible exact Below.refl _ _ | ((with_reducible refine Below.setCell ?_ ?_ _); rotate_left; (first | exact Nat.le_refl _ | (dsimp only; omega) | (simp; done) | (simp; omega))) | with_reducible refine below_alloc ?_ _ | with_reducible apply below_drewN | with_reducible apply Below.drew | with_reducible refine below_step ?_ (by assumption)))
  have rc0_0 : W0.cell? ⟨w.heap.size, 0, none⟩ = some (.bool false) := by rw [← hW0]; simp [go_sem]
  have rf0_0 : W0.frozen? ⟨w.heap.size, 0, none⟩ = false := by rw [← hW0]; simp [go_sem]
  have rc0_1 : W0.cell? ⟨w.heap.size, 1, none⟩ = some (.int .u64 0) := by rw [← hW0]; simp [go_sem]
  have rf0_1 : W0.frozen? ⟨w.heap.size, 1, none⟩ = false := by rw [← hW0]; simp [go_sem]
  have rc0_2 : W0.cell? ⟨w.heap.size, 2, none⟩ = some (.int .u64 0) := by rw [← hW0]; simp [go_sem]
  have rf0_2 : W0.frozen? ⟨w.heap.size, 2, none⟩ = false := by rw [← hW0]; simp [go_sem]
  have rc0_3 : W0.cell? ⟨w.heap.size, 3, none⟩ = some (.int .u64 0) := by rw [← hW0]; simp [go_sem]
  have rf0_3 : W0.frozen? ⟨w.heap.size, 3, none⟩ = false := by rw [← hW0]; simp [go_sem]
  have rc0_4 : W0.cell? ⟨w.heap.size, 4, none⟩ = some (.int .u64 0) := by rw [← hW0]; simp [go_sem]
  have rf0_4 : W0.frozen? ⟨w.heap.size, 4, none⟩ = false := by rw [← hW0]; simp [go_sem]
  have rc1_0 : W0.cell? ⟨w.heap.size + 1, 0, none⟩ = some (.int .u64 l0) := by rw [← hW0]; simp [go_sem]
  have rc1_1 : W0.cell? ⟨w.heap.size + 1, 1, none⟩ = some (.int .u64 l1) := by rw [← hW0]; simp [go_sem]
  have rc2_0 : W0.cell? ⟨w.heap.size + 1 + 1, 0, none⟩ = some (.int .u64 m0) := by rw [← hW0]; simp [go_sem]
  have rc2_1 : W0.cell? ⟨w.heap.size + 1 + 1, 1, none⟩ = some (.int .u64 m1) := by rw [← hW0]; simp [go_sem]
  have rc3_0 : W0.cell? ⟨w.heap.size + 1 + 1 + 1, 0, none⟩ = some (.bool g) := by rw [← hW0]; simp [go_sem]
  have rf3_0 : W0.frozen? ⟨w.heap.size + 1 + 1 + 1, 0, none⟩ = false := by rw [← hW0]; simp [go_sem]
  have rc3_1 : W0.cell? ⟨w.heap.size + 1 + 1 + 1, 1, none⟩ = some (.int .u64 0) := by rw [← hW0]; simp [go_sem]
  have rf3_1 : W0.frozen? ⟨w.heap.size + 1 + 1 + 1, 1, none⟩ = false := by rw [← hW0]; simp [go_sem]
  have rc3_2 : W0.cell? ⟨w.heap.size + 1 + 1 + 1, 2, none⟩ = some (.int .u64 0) := by rw [← hW0]; simp [go_sem]
  have rf3_2 : W0.frozen? ⟨w.heap.size + 1 + 1 + 1, 2, none⟩ = false := by rw [← hW0]; simp [go_sem]
  have rc3_3 : W0.cell? ⟨w.heap.size + 1 + 1 + 1, 3, none⟩ = some (.int .u64 0) := by rw [← hW0]; simp [go_sem]
  have rf3_3 : W0.frozen? ⟨w.heap.size + 1 + 1 + 1, 3, none⟩ = false := by rw [← hW0]; simp [go_sem]
  have rc3_4 : W0.cell? ⟨w.heap.size + 1 + 1 + 1, 4, none⟩ = some (.int .u64 0) := by rw [← hW0]; simp [go_sem]
  have rf3_4 : W0.frozen? ⟨w.heap.size + 1 + 1 + 1, 4, none⟩ = false := by rw [← hW0]; simp [go_sem]
  clear hW0
  refine wp_loop_rounds 3 ?_
  rw [rounds_succ]
  go_upto_block 2 with (fail)
  go_wp2_with (fail)
  refine wp_loop_rounds 3 ?_
  rw [rounds_succ]
  go_upto_block 3 with (fail)
  have hS0 : St1 W0 (w.heap.size + 1 + 1 + 1) 0 0 0 0 W0 := ⟨Below.refl _ _, ⟨rfl, rfl, rfl⟩, rc3_1, rc3_2, rc3_3, rc3_4, rf3_1, rf3_2, rf3_3, rf3_4⟩
  have hD : Hid (Dg 0 0 0 0) := Lib.hid (by unfold Dg; omega)
  have HP : Hid (av 0 0 0 0 + A * pw 0 = A) := Lib.hid (by simp [av, pw])
  go_cut [] (fun wx => ∃ o0 o1 o2 o3 : Int, St1 W0 (w.heap.size + 1 + 1 + 1) o0 o1 o2 o3 wx ∧ Hid (Dg o0 o1 o2 o3) ∧ Hid (av o0 o1 o2 o3 = A))
  case first =>
    go_upto_region 12 with (fail)
    go_quiet (fail)
    go_wp2_with (fail)
    have hS := hS0.drewN nq
    go_loopw [13, 14] (fun c at_ wx => ∃ (o0 o1 o2 o3 cc aa : Int), c = .int .u64 cc ∧ at_ = .int .i64 aa ∧ St1 W0 (w.heap.size + 1 + 1 + 1) o0 o1 o2 o3 wx ∧ 0 ≤ cc ∧ cc ≤ 18446744073709551615 ∧ 0 ≤ aa ∧ aa ≤ 4 ∧ Hid (Dg o0 o1 o2 o3) ∧ Hid (av o0 o1 o2 o3 + cc * pw aa = A)) (fun _ at_ _ => (4 - RowKit.intOf at_).toNat)
    case atStart => exact ⟨0, 0, 0, 0, A, 0, rfl, rfl, hS, by omega, by omega, by omega, by omega, hD, HP⟩
    case round =>
      obtain ⟨o0, o1, o2, o3, cc, aa, rfl, rfl, ⟨b0, bz, c0, c1, c2, c3, f0, f1, f2, f3⟩, C0, C1, A0, A1, HD, HV⟩ := hrel
      by_cases hc : cc = 0
      · subst hc
        by_cases h4 : aa = 4
        · subst h4
          go_wp2_with (fail)
          go_meet
          case rel => exact ⟨o0, o1, o2, o3, ⟨b0, bz, c0, c1, c2, c3, f0, f1, f2, f3⟩, HD, Lib.hid (by have := HV.out; omega)⟩
        · have h4 : aa < 4 := by omega
          go_wp2_with (fail)
          go_meet
          case rel => exact ⟨o0, o1, o2, o3, ⟨b0, bz, c0, c1, c2, c3, f0, f1, f2, f3⟩, HD, Lib.hid (by have := HV.out; omega)⟩
      · have hp : 0 < cc := by omega
        obtain ⟨lc, hlc⟩ : ∃ t, cc % 4294967296 = t := ⟨_, rfl⟩
        obtain ⟨ch, hch⟩ : ∃ t, cc / 4294967296 = t := ⟨_, rfl⟩
        rcases (show aa = 0 ∨ aa = 1 ∨ aa = 2 ∨ aa = 3 ∨ aa = 4 by omega) with h | h | h | h | h
        · subst h
          obtain ⟨s, hs⟩ : ∃ t, o0 + lc = t := ⟨_, rfl⟩
          obtain ⟨sl, hsl⟩ : ∃ t, s % 4294967296 = t := ⟨_, rfl⟩
          obtain ⟨sh, hsh⟩ : ∃ t, s / 4294967296 = t := ⟨_, rfl⟩
          obtain ⟨C2, hC2⟩ : ∃ t, ch + sh = t := ⟨_, rfl⟩
          have DD := HD.out
          unfold Dg at DD
          have ws : IntKind.u64.wrap (o0 + lc) = s := by rw [IntKind.wrap_u64]; omega
          have wc : IntKind.u64.wrap (ch + sh) = C2 := by rw [IntKind.wrap_u64]; omega
          have k0 : 0 ≤ s := by omega
          have k1 : s ≤ 18446744073709551615 := by omega
          have K : Hid (Dg sl o1 o2 o3 ∧ av sl o1 o2 o3 + C2 * pw 1 = A ∧ 0 ≤ C2 ∧ C2 ≤ 18446744073709551615) := Lib.hid (by have V := HV.out; simp only [av, pw, Dg] at V ⊢; simp at V ⊢; refine ⟨?_, ?_, ?_, ?_⟩ <;> omega)
          clear DD hs hC2
          go_upto_region 17 with (fail)
          go_region_held3 (fun (w' : World) => w'.cell? ⟨w.heap.size + 1 + 1 + 1, 1, none⟩ = some (.int .u64 o0)) (first | exact c0 | exact (by assumption) | simp [*]) (first | (go_at_call 92; refine (cRLow _ _ (by omega) (by omega)).mono ?_; rintro e w1 ⟨rfl, rfl⟩))
          go_wp2_with (first | (go_at_call 92; refine (cRLow _ _ (by omega) (by omega)).mono ?_; rintro e w1 ⟨rfl, rfl⟩))
          obtain ⟨k1, k2, k3, k4⟩ := K.out
          have hs1 := (St1.drew (⟨b0, bz, c0, c1, c2, c3, f0, f1, f2, f3⟩ : St1 W0 (w.heap.size + 1 + 1 + 1) o0 o1 o2 o3 _)).set0 sl
          exact ⟨⟨sl, o1, o2, o3, C2, 1, rfl, rfl, hs1, k3, k4, by omega, by omega, Lib.hid k1, Lib.hid k2⟩, by simp [RowKit.intOf]⟩
        · subst h
          obtain ⟨s, hs⟩ : ∃ t, o1 + lc = t := ⟨_, rfl⟩
          obtain ⟨sl, hsl⟩ : ∃ t, s % 4294967296 = t := ⟨_, rfl⟩
          obtain ⟨sh, hsh⟩ : ∃ t, s / 4294967296 = t := ⟨_, rfl⟩
          obtain ⟨C2, hC2⟩ : ∃ t, ch + sh = t := ⟨_, rfl⟩
          have DD := HD.out
          unfold Dg at DD
          have ws : IntKind.u64.wrap (o1 + lc) = s := by rw [IntKind.wrap_u64]; omega
          have wc : IntKind.u64.wrap (ch + sh) = C2 := by rw [IntKind.wrap_u64]; omega
          have k0 : 0 ≤ s := by omega
          have k1 : s ≤ 18446744073709551615 := by omega
          have K : Hid (Dg o0 sl o2 o3 ∧ av o0 sl o2 o3 + C2 * pw 2 = A ∧ 0 ≤ C2 ∧ C2 ≤ 18446744073709551615) := Lib.hid (by have V := HV.out; simp only [av, pw, Dg] at V ⊢; simp at V ⊢; refine ⟨?_, ?_, ?_, ?_⟩ <;> omega)
          clear DD hs hC2
          go_upto_region 17 with (fail)
          go_region_held3 (fun (w' : World) => w'.cell? ⟨w.heap.size + 1 + 1 + 1, 2, none⟩ = some (.int .u64 o1)) (first | exact c1 | exact (by assumption) | simp [*]) (first | (go_at_call 92; refine (cRLow _ _ (by omega) (by omega)).mono ?_; rintro e w1 ⟨rfl, rfl⟩))
          go_wp2_with (first | (go_at_call 92; refine (cRLow _ _ (by omega) (by omega)).mono ?_; rintro e w1 ⟨rfl, rfl⟩))
          obtain ⟨k1, k2, k3, k4⟩ := K.out
          have hs1 := (St1.drew (⟨b0, bz, c0, c1, c2, c3, f0, f1, f2, f3⟩ : St1 W0 (w.heap.size + 1 + 1 + 1) o0 o1 o2 o3 _)).set1 sl
          exact ⟨⟨o0, sl, o2, o3, C2, 2, rfl, rfl, hs1, k3, k4, by omega, by omega, Lib.hid k1, Lib.hid k2⟩, by simp [RowKit.intOf]⟩
        · subst h
          obtain ⟨s, hs⟩ : ∃ t, o2 + lc = t := ⟨_, rfl⟩
          obtain ⟨sl, hsl⟩ : ∃ t, s % 4294967296 = t := ⟨_, rfl⟩
          obtain ⟨sh, hsh⟩ : ∃ t, s / 4294967296 = t := ⟨_, rfl⟩
          obtain ⟨C2, hC2⟩ : ∃ t, ch + sh = t := ⟨_, rfl⟩
          have DD := HD.out
          unfold Dg at DD
          have ws : IntKind.u64.wrap (o2 + lc) = s := by rw [IntKind.wrap_u64]; omega
          have wc : IntKind.u64.wrap (ch + sh) = C2 := by rw [IntKind.wrap_u64]; omega
          have k0 : 0 ≤ s := by omega
          have k1 : s ≤ 18446744073709551615 := by omega
          have K : Hid (Dg o0 o1 sl o3 ∧ av o0 o1 sl o3 + C2 * pw 3 = A ∧ 0 ≤ C2 ∧ C2 ≤ 18446744073709551615) := Lib.hid (by have V := HV.out; simp only [av, pw, Dg] at V ⊢; simp at V ⊢; refine ⟨?_, ?_, ?_, ?_⟩ <;> omega)
          clear DD hs hC2
          go_upto_region 17 with (fail)
          go_region_held3 (fun (w' : World) => w'.cell? ⟨w.heap.size + 1 + 1 + 1, 3, none⟩ = some (.int .u64 o2)) (first | exact c2 | exact (by assumption) | simp [*]) (first | (go_at_call 92; refine (cRLow _ _ (by omega) (by omega)).mono ?_; rintro e w1 ⟨rfl, rfl⟩))
          go_wp2_with (first | (go_at_call 92; refine (cRLow _ _ (by omega) (by omega)).mono ?_; rintro e w1 ⟨rfl, rfl⟩))
          obtain ⟨k1, k2, k3, k4⟩ := K.out
          have hs1 := (St1.drew (⟨b0, bz, c0, c1, c2, c3, f0, f1, f2, f3⟩ : St1 W0 (w.heap.size + 1 + 1 + 1) o0 o1 o2 o3 _)).set2 sl
          exact ⟨⟨o0, o1, sl, o3, C2, 3, rfl, rfl, hs1, k3, k4, by omega, by omega, Lib.hid k1, Lib.hid k2⟩, by simp [RowKit.intOf]⟩
        · subst h
          obtain ⟨s, hs⟩ : ∃ t, o3 + lc = t := ⟨_, rfl⟩
          obtain ⟨sl, hsl⟩ : ∃ t, s % 4294967296 = t := ⟨_, rfl⟩
          obtain ⟨sh, hsh⟩ : ∃ t, s / 4294967296 = t := ⟨_, rfl⟩
          obtain ⟨C2, hC2⟩ : ∃ t, ch + sh = t := ⟨_, rfl⟩
          have DD := HD.out
          unfold Dg at DD
          have ws : IntKind.u64.wrap (o3 + lc) = s := by rw [IntKind.wrap_u64]; omega
          have wc : IntKind.u64.wrap (ch + sh) = C2 := by rw [IntKind.wrap_u64]; omega
          have k0 : 0 ≤ s := by omega
          have k1 : s ≤ 18446744073709551615 := by omega
          have K : Hid (Dg o0 o1 o2 sl ∧ av o0 o1 o2 sl + C2 * pw 4 = A ∧ 0 ≤ C2 ∧ C2 ≤ 18446744073709551615) := Lib.hid (by have V := HV.out; simp only [av, pw, Dg] at V ⊢; simp at V ⊢; refine ⟨?_, ?_, ?_, ?_⟩ <;> omega)
          clear DD hs hC2
          go_upto_region 17 with (fail)
          go_region_held3 (fun (w' : World) => w'.cell? ⟨w.heap.size + 1 + 1 + 1, 4, none⟩ = some (.int .u64 o3)) (first | exact c3 | exact (by assumption) | simp [*]) (first | (go_at_call 92; refine (cRLow _ _ (by omega) (by omega)).mono ?_; rintro e w1 ⟨rfl, rfl⟩))
          go_wp2_with (first | (go_at_call 92; refine (cRLow _ _ (by omega) (by omega)).mono ?_; rintro e w1 ⟨rfl, rfl⟩))
          obtain ⟨k1, k2, k3, k4⟩ := K.out
          have hs1 := (St1.drew (⟨b0, bz, c0, c1, c2, c3, f0, f1, f2, f3⟩ : St1 W0 (w.heap.size + 1 + 1 + 1) o0 o1 o2 o3 _)).set3 sl
          exact ⟨⟨o0, o1, o2, sl, C2, 4, rfl, rfl, hs1, k3, k4, by omega, by omega, Lib.hid k1, Lib.hid k2⟩, by simp [RowKit.intOf]⟩
        · subst h
          exfalso; have V := HV.out; have DD := HD.out; simp only [av, pw, Dg] at V DD; simp at V; omega
  case rest =>
    obtain ⟨p0_0, p0_1, p0_2, p0_3, ⟨b0, bz, c0, c1, c2, c3, f0, f1, f2, f3⟩, HD, HV⟩ := hcut
    clear hS0 hD HP
    have rl1_0 := (b0.cell (p := ⟨w.heap.size + 1, 0, none⟩) (by simp)).trans rc1_0
    have rl1_1 := (b0.cell (p := ⟨w.heap.size + 1, 1, none⟩) (by simp)).trans rc1_1
    have rl2_0 := (b0.cell (p := ⟨w.heap.size + 1 + 1, 0, none⟩) (by simp)).trans rc2_0
    have rl2_1 := (b0.cell (p := ⟨w.heap.size + 1 + 1, 1, none⟩) (by simp)).trans rc2_1
    go_wp2_with (fail)
    rw [rounds_succ]
    go_upto_block 3 with (fail)
    have hS0 : St1 W0 (w.heap.size + 1 + 1 + 1) p0_0 p0_1 p0_2 p0_3 _ := ⟨b0, bz, c0, c1, c2, c3, f0, f1, f2, f3⟩
    have hD := HD
    have HP : Hid (av p0_0 p0_1 p0_2 p0_3 + B * pw 1 = (A + B * 4294967296)) := Lib.hid (by have V := HV.out; simp [pw]; omega)
    clear c0 c1 c2 c3 f0 f1 f2 f3
    go_cut [] (fun wx => ∃ o0 o1 o2 o3 : Int, St1 W0 (w.heap.size + 1 + 1 + 1) o0 o1 o2 o3 wx ∧ Hid (Dg o0 o1 o2 o3) ∧ Hid (av o0 o1 o2 o3 = (A + B * 4294967296)))
    case first =>
      go_upto_region 12 with (fail)
      go_quiet (fail)
      go_wp2_with (fail)
      have hS := hS0.drewN nq
      go_loopw [13, 14] (fun c at_ wx => ∃ (o0 o1 o2 o3 cc aa : Int), c = .int .u64 cc ∧ at_ = .int .i64 aa ∧ St1 W0 (w.heap.size + 1 + 1 + 1) o0 o1 o2 o3 wx ∧ 0 ≤ cc ∧ cc ≤ 18446744073709551615 ∧ 1 ≤ aa ∧ aa ≤ 4 ∧ Hid (Dg o0 o1 o2 o3) ∧ Hid (av o0 o1 o2 o3 + cc * pw aa = (A + B * 4294967296))) (fun _ at_ _ => (4 - RowKit.intOf at_).toNat)
      case atStart => exact ⟨p0_0, p0_1, p0_2, p0_3, B, 1, rfl, rfl, hS, by omega, by omega, by omega, by omega, hD, HP⟩
      case round =>
        obtain ⟨o0, o1, o2, o3, cc, aa, rfl, rfl, ⟨b0, bz, c0, c1, c2, c3, f0, f1, f2, f3⟩, C0, C1, A0, A1, HD, HV⟩ := hrel
        by_cases hc : cc = 0
        · subst hc
          by_cases h4 : aa = 4
          · subst h4
            go_wp2_with (fail)
            go_meet
            case rel => exact ⟨o0, o1, o2, o3, ⟨b0, bz, c0, c1, c2, c3, f0, f1, f2, f3⟩, HD, Lib.hid (by have := HV.out; omega)⟩
          · have h4 : aa < 4 := by omega
            go_wp2_with (fail)
            go_meet
            case rel => exact ⟨o0, o1, o2, o3, ⟨b0, bz, c0, c1, c2, c3, f0, f1, f2, f3⟩, HD, Lib.hid (by have := HV.out; omega)⟩
        · have hp : 0 < cc := by omega
          obtain ⟨lc, hlc⟩ : ∃ t, cc % 4294967296 = t := ⟨_, rfl⟩
          obtain ⟨ch, hch⟩ : ∃ t, cc / 4294967296 = t := ⟨_, rfl⟩
          rcases (show aa = 1 ∨ aa = 2 ∨ aa = 3 ∨ aa = 4 by omega) with h | h | h | h
          · subst h
            obtain ⟨s, hs⟩ : ∃ t, o1 + lc = t := ⟨_, rfl⟩
            obtain ⟨sl, hsl⟩ : ∃ t, s % 4294967296 = t := ⟨_, rfl⟩
            obtain ⟨sh, hsh⟩ : ∃ t, s / 4294967296 = t := ⟨_, rfl⟩
            obtain ⟨C2, hC2⟩ : ∃ t, ch + sh = t := ⟨_, rfl⟩
            have DD := HD.out
            unfold Dg at DD
            have ws : IntKind.u64.wrap (o1 + lc) = s := by rw [IntKind.wrap_u64]; omega
            have wc : IntKind.u64.wrap (ch + sh) = C2 := by rw [IntKind.wrap_u64]; omega
            have k0 : 0 ≤ s := by omega
            have k1 : s ≤ 18446744073709551615 := by omega
            have K : Hid (Dg o0 sl o2 o3 ∧ av o0 sl o2 o3 + C2 * pw 2 = (A + B * 4294967296) ∧ 0 ≤ C2 ∧ C2 ≤ 18446744073709551615) := Lib.hid (by have V := HV.out; simp only [av, pw, Dg] at V ⊢; simp at V ⊢; refine ⟨?_, ?_, ?_, ?_⟩ <;> omega)
            clear DD hs hC2
            go_upto_region 17 with (fail)
            go_region_held3 (fun (w' : World) => w'.cell? ⟨w.heap.size + 1 + 1 + 1, 2, none⟩ = some (.int .u64 o1)) (first | exact c1 | exact (by assumption) | simp [*]) (first | (go_at_call 92; refine (cRLow _ _ (by omega) (by omega)).mono ?_; rintro e w1 ⟨rfl, rfl⟩))
            go_wp2_with (first | (go_at_call 92; refine (cRLow _ _ (by omega) (by omega)).mono ?_; rintro e w1 ⟨rfl, rfl⟩))
            obtain ⟨k1, k2, k3, k4⟩ := K.out
            have hs1 := (St1.drew (⟨b0, bz, c0, c1, c2, c3, f0, f1, f2, f3⟩ : St1 W0 (w.heap.size + 1 + 1 + 1) o0 o1 o2 o3 _)).set1 sl
            exact ⟨⟨o0, sl, o2, o3, C2, 2, rfl, rfl, hs1, k3, k4, by omega, by omega, Lib.hid k1, Lib.hid k2⟩, by simp [RowKit.intOf]⟩
          · subst h
            obtain ⟨s, hs⟩ : ∃ t, o2 + lc = t := ⟨_, rfl⟩
            obtain ⟨sl, hsl⟩ : ∃ t, s % 4294967296 = t := ⟨_, rfl⟩
            obtain ⟨sh, hsh⟩ : ∃ t, s / 4294967296 = t := ⟨_, rfl⟩
            obtain ⟨C2, hC2⟩ : ∃ t, ch + sh = t := ⟨_, rfl⟩
            have DD := HD.out
            unfold Dg at DD
            have ws : IntKind.u64.wrap (o2 + lc) = s := by rw [IntKind.wrap_u64]; omega
            have wc : IntKind.u64.wrap (ch + sh) = C2 := by rw [IntKind.wrap_u64]; omega
            have k0 : 0 ≤ s := by omega
            have k1 : s ≤ 18446744073709551615 := by omega
            have K : Hid (Dg o0 o1 sl o3 ∧ av o0 o1 sl o3 + C2 * pw 3 = (A + B * 4294967296) ∧ 0 ≤ C2 ∧ C2 ≤ 18446744073709551615) := Lib.hid (by have V := HV.out; simp only [av, pw, Dg] at V ⊢; simp at V ⊢; refine ⟨?_, ?_, ?_, ?_⟩ <;> omega)
            clear DD hs hC2
            go_upto_region 17 with (fail)
            go_region_held3 (fun (w' : World) => w'.cell? ⟨w.heap.size + 1 + 1 + 1, 3, none⟩ = some (.int .u64 o2)) (first | exact c2 | exact (by assumption) | simp [*]) (first | (go_at_call 92; refine (cRLow _ _ (by omega) (by omega)).mono ?_; rintro e w1 ⟨rfl, rfl⟩))
            go_wp2_with (first | (go_at_call 92; refine (cRLow _ _ (by omega) (by omega)).mono ?_; rintro e w1 ⟨rfl, rfl⟩))
            obtain ⟨k1, k2, k3, k4⟩ := K.out
            have hs1 := (St1.drew (⟨b0, bz, c0, c1, c2, c3, f0, f1, f2, f3⟩ : St1 W0 (w.heap.size + 1 + 1 + 1) o0 o1 o2 o3 _)).set2 sl
            exact ⟨⟨o0, o1, sl, o3, C2, 3, rfl, rfl, hs1, k3, k4, by omega, by omega, Lib.hid k1, Lib.hid k2⟩, by simp [RowKit.intOf]⟩
          · subst h
            obtain ⟨s, hs⟩ : ∃ t, o3 + lc = t := ⟨_, rfl⟩
            obtain ⟨sl, hsl⟩ : ∃ t, s % 4294967296 = t := ⟨_, rfl⟩
            obtain ⟨sh, hsh⟩ : ∃ t, s / 4294967296 = t := ⟨_, rfl⟩
            obtain ⟨C2, hC2⟩ : ∃ t, ch + sh = t := ⟨_, rfl⟩
            have DD := HD.out
            unfold Dg at DD
            have ws : IntKind.u64.wrap (o3 + lc) = s := by rw [IntKind.wrap_u64]; omega
            have wc : IntKind.u64.wrap (ch + sh) = C2 := by rw [IntKind.wrap_u64]; omega
            have k0 : 0 ≤ s := by omega
            have k1 : s ≤ 18446744073709551615 := by omega
            have K : Hid (Dg o0 o1 o2 sl ∧ av o0 o1 o2 sl + C2 * pw 4 = (A + B * 4294967296) ∧ 0 ≤ C2 ∧ C2 ≤ 18446744073709551615) := Lib.hid (by have V := HV.out; simp only [av, pw, Dg] at V ⊢; simp at V ⊢; refine ⟨?_, ?_, ?_, ?_⟩ <;> omega)
            clear DD hs hC2
            go_upto_region 17 with (fail)
            go_region_held3 (fun (w' : World) => w'.cell? ⟨w.heap.size + 1 + 1 + 1, 4, none⟩ = some (.int .u64 o3)) (first | exact c3 | exact (by assumption) | simp [*]) (first | (go_at_call 92; refine (cRLow _ _ (by omega) (by omega)).mono ?_; rintro e w1 ⟨rfl, rfl⟩))
            go_wp2_with (first | (go_at_call 92; refine (cRLow _ _ (by omega) (by omega)).mono ?_; rintro e w1 ⟨rfl, rfl⟩))
            obtain ⟨k1, k2, k3, k4⟩ := K.out
            have hs1 := (St1.drew (⟨b0, bz, c0, c1, c2, c3, f0, f1, f2, f3⟩ : St1 W0 (w.heap.size + 1 + 1 + 1) o0 o1 o2 o3 _)).set3 sl
            exact ⟨⟨o0, o1, o2, sl, C2, 4, rfl, rfl, hs1, k3, k4, by omega, by omega, Lib.hid k1, Lib.hid k2⟩, by simp [RowKit.intOf]⟩
          · subst h
            exfalso; have V := HV.out; have DD := HD.out; simp only [av, pw, Dg] at V DD; simp at V; omega
    case rest =>
      obtain ⟨p1_0, p1_1, p1_2, p1_3, ⟨b0, bz, c0, c1, c2, c3, f0, f1, f2, f3⟩, HD, HV⟩ := hcut
      clear hS0 hD HP
      have rl1_0 := (b0.cell (p := ⟨w.heap.size + 1, 0, none⟩) (by simp)).trans rc1_0
      have rl1_1 := (b0.cell (p := ⟨w.heap.size + 1, 1, none⟩) (by simp)).trans rc1_1
      have rl2_0 := (b0.cell (p := ⟨w.heap.size + 1 + 1, 0, none⟩) (by simp)).trans rc2_0
      have rl2_1 := (b0.cell (p := ⟨w.heap.size + 1 + 1, 1, none⟩) (by simp)).trans rc2_1
      go_wp2_with (fail)
      rw [rounds_succ]
      go_wp2_with (fail)
      rw [rounds_succ]
      go_wp2_with (fail)
      refine wp_loop_rounds 3 ?_
      rw [rounds_succ]
      go_upto_block 3 with (fail)
      have hS0 : St1 W0 (w.heap.size + 1 + 1 + 1) p1_0 p1_1 p1_2 p1_3 _ := ⟨b0, bz, c0, c1, c2, c3, f0, f1, f2, f3⟩
      have hD := HD
      have HP : Hid (av p1_0 p1_1 p1_2 p1_3 + C * pw 1 = (A + (B + C) * 4294967296)) := Lib.hid (by have V := HV.out; simp [pw]; omega)
      clear c0 c1 c2 c3 f0 f1 f2 f3
      go_cut [] (fun wx => ∃ o0 o1 o2 o3 : Int, St1 W0 (w.heap.size + 1 + 1 + 1) o0 o1 o2 o3 wx ∧ Hid (Dg o0 o1 o2 o3) ∧ Hid (av o0 o1 o2 o3 = (A + (B + C) * 4294967296)))
      case first =>
        go_upto_region 12 with (fail)
        go_quiet (fail)
        go_wp2_with (fail)
        have hS := hS0.drewN nq
        go_loopw [13, 14] (fun c at_ wx => ∃ (o0 o1 o2 o3 cc aa : Int), c = .int .u64 cc ∧ at_ = .int .i64 aa ∧ St1 W0 (w.heap.size + 1 + 1 + 1) o0 o1 o2 o3 wx ∧ 0 ≤ cc ∧ cc ≤ 18446744073709551615 ∧ 1 ≤ aa ∧ aa ≤ 4 ∧ Hid (Dg o0 o1 o2 o3) ∧ Hid (av o0 o1 o2 o3 + cc * pw aa = (A + (B + C) * 4294967296))) (fun _ at_ _ => (4 - RowKit.intOf at_).toNat)
        case atStart => exact ⟨p1_0, p1_1, p1_2, p1_3, C, 1, rfl, rfl, hS, by omega, by omega, by omega, by omega, hD, HP⟩
        case round =>
          obtain ⟨o0, o1, o2, o3, cc, aa, rfl, rfl, ⟨b0, bz, c0, c1, c2, c3, f0, f1, f2, f3⟩, C0, C1, A0, A1, HD, HV⟩ := hrel
          by_cases hc : cc = 0
          · subst hc
            by_cases h4 : aa = 4
            · subst h4
              go_wp2_with (fail)
              go_meet
              case rel => exact ⟨o0, o1, o2, o3, ⟨b0, bz, c0, c1, c2, c3, f0, f1, f2, f3⟩, HD, Lib.hid (by have := HV.out; omega)⟩
            · have h4 : aa < 4 := by omega
              go_wp2_with (fail)
              go_meet
              case rel => exact ⟨o0, o1, o2, o3, ⟨b0, bz, c0, c1, c2, c3, f0, f1, f2, f3⟩, HD, Lib.hid (by have := HV.out; omega)⟩
          · have hp : 0 < cc := by omega
            obtain ⟨lc, hlc⟩ : ∃ t, cc % 4294967296 = t := ⟨_, rfl⟩
            obtain ⟨ch, hch⟩ : ∃ t, cc / 4294967296 = t := ⟨_, rfl⟩
            rcases (show aa = 1 ∨ aa = 2 ∨ aa = 3 ∨ aa = 4 by omega) with h | h | h | h
            · subst h
              obtain ⟨s, hs⟩ : ∃ t, o1 + lc = t := ⟨_, rfl⟩
              obtain ⟨sl, hsl⟩ : ∃ t, s % 4294967296 = t := ⟨_, rfl⟩
              obtain ⟨sh, hsh⟩ : ∃ t, s / 4294967296 = t := ⟨_, rfl⟩
              obtain ⟨C2, hC2⟩ : ∃ t, ch + sh = t := ⟨_, rfl⟩
              have DD := HD.out
              unfold Dg at DD
              have ws : IntKind.u64.wrap (o1 + lc) = s := by rw [IntKind.wrap_u64]; omega
              have wc : IntKind.u64.wrap (ch + sh) = C2 := by rw [IntKind.wrap_u64]; omega
              have k0 : 0 ≤ s := by omega
              have k1 : s ≤ 18446744073709551615 := by omega
              have K : Hid (Dg o0 sl o2 o3 ∧ av o0 sl o2 o3 + C2 * pw 2 = (A + (B + C) * 4294967296) ∧ 0 ≤ C2 ∧ C2 ≤ 18446744073709551615) := Lib.hid (by have V := HV.out; simp only [av, pw, Dg] at V ⊢; simp at V ⊢; refine ⟨?_, ?_, ?_, ?_⟩ <;> omega)
              clear DD hs hC2
              go_upto_region 17 with (fail)
              go_region_held3 (fun (w' : World) => w'.cell? ⟨w.heap.size + 1 + 1 + 1, 2, none⟩ = some (.int .u64 o1)) (first | exact c1 | exact (by assumption) | simp [*]) (first | (go_at_call 92; refine (cRLow _ _ (by omega) (by omega)).mono ?_; rintro e w1 ⟨rfl, rfl⟩))
              go_wp2_with (first | (go_at_call 92; refine (cRLow _ _ (by omega) (by omega)).mono ?_; rintro e w1 ⟨rfl, rfl⟩))
              obtain ⟨k1, k2, k3, k4⟩ := K.out
              have hs1 := (St1.drew (⟨b0, bz, c0, c1, c2, c3, f0, f1, f2, f3⟩ : St1 W0 (w.heap.size + 1 + 1 + 1) o0 o1 o2 o3 _)).set1 sl
              exact ⟨⟨o0, sl, o2, o3, C2, 2, rfl, rfl, hs1, k3, k4, by omega, by omega, Lib.hid k1, Lib.hid k2⟩, by simp [RowKit.intOf]⟩
            · subst h
              obtain ⟨s, hs⟩ : ∃ t, o2 + lc = t := ⟨_, rfl⟩
              obtain ⟨sl, hsl⟩ : ∃ t, s % 4294967296 = t := ⟨_, rfl⟩
              obtain ⟨sh, hsh⟩ : ∃ t, s / 4294967296 = t := ⟨_, rfl⟩
              obtain ⟨C2, hC2⟩ : ∃ t, ch + sh = t := ⟨_, rfl⟩
              have DD := HD.out
              unfold Dg at DD
              have ws : IntKind.u64.wrap (o2 + lc) = s := by rw [IntKind.wrap_u64]; omega
              have wc : IntKind.u64.wrap (ch + sh) = C2 := by rw [IntKind.wrap_u64]; omega
              have k0 : 0 ≤ s := by omega
              have k1 : s ≤ 18446744073709551615 := by omega
              have K : Hid (Dg o0 o1 sl o3 ∧ av o0 o1 sl o3 + C2 * pw 3 = (A + (B + C) * 4294967296) ∧ 0 ≤ C2 ∧ C2 ≤ 18446744073709551615) := Lib.hid (by have V := HV.out; simp only [av, pw, Dg] at V ⊢; simp at V ⊢; refine ⟨?_, ?_, ?_, ?_⟩ <;> omega)
              clear DD hs hC2
              go_upto_region 17 with (fail)
              go_region_held3 (fun (w' : World) => w'.cell? ⟨w.heap.size + 1 + 1 + 1, 3, none⟩ = some (.int .u64 o2)) (first | exact c2 | exact (by assumption) | simp [*]) (first | (go_at_call 92; refine (cRLow _ _ (by omega) (by omega)).mono ?_; rintro e w1 ⟨rfl, rfl⟩))
              go_wp2_with (first | (go_at_call 92; refine (cRLow _ _ (by omega) (by omega)).mono ?_; rintro e w1 ⟨rfl, rfl⟩))
              obtain ⟨k1, k2, k3, k4⟩ := K.out
              have hs1 := (St1.drew (⟨b0, bz, c0, c1, c2, c3, f0, f1, f2, f3⟩ : St1 W0 (w.heap.size + 1 + 1 + 1) o0 o1 o2 o3 _)).set2 sl
              exact ⟨⟨o0, o1, sl, o3, C2, 3, rfl, rfl, hs1, k3, k4, by omega, by omega, Lib.hid k1, Lib.hid k2⟩, by simp [RowKit.intOf]⟩
            · subst h
              obtain ⟨s, hs⟩ : ∃ t, o3 + lc = t := ⟨_, rfl⟩
              obtain ⟨sl, hsl⟩ : ∃ t, s % 4294967296 = t := ⟨_, rfl⟩
              obtain ⟨sh, hsh⟩ : ∃ t, s / 4294967296 = t := ⟨_, rfl⟩
              obtain ⟨C2, hC2⟩ : ∃ t, ch + sh = t := ⟨_, rfl⟩
              have DD := HD.out
              unfold Dg at DD
              have ws : IntKind.u64.wrap (o3 + lc) = s := by rw [IntKind.wrap_u64]; omega
              have wc : IntKind.u64.wrap (ch + sh) = C2 := by rw [IntKind.wrap_u64]; omega
              have k0 : 0 ≤ s := by omega
              have k1 : s ≤ 18446744073709551615 := by omega
              have K : Hid (Dg o0 o1 o2 sl ∧ av o0 o1 o2 sl + C2 * pw 4 = (A + (B + C) * 4294967296) ∧ 0 ≤ C2 ∧ C2 ≤ 18446744073709551615) := Lib.hid (by have V := HV.out; simp only [av, pw, Dg] at V ⊢; simp at V ⊢; refine ⟨?_, ?_, ?_, ?_⟩ <;> omega)
              clear DD hs hC2
              go_upto_region 17 with (fail)
              go_region_held3 (fun (w' : World) => w'.cell? ⟨w.heap.size + 1 + 1 + 1, 4, none⟩ = some (.int .u64 o3)) (first | exact c3 | exact (by assumption) | simp [*]) (first | (go_at_call 92; refine (cRLow _ _ (by omega) (by omega)).mono ?_; rintro e w1 ⟨rfl, rfl⟩))
              go_wp2_with (first | (go_at_call 92; refine (cRLow _ _ (by omega) (by omega)).mono ?_; rintro e w1 ⟨rfl, rfl⟩))
              obtain ⟨k1, k2, k3, k4⟩ := K.out
              have hs1 := (St1.drew (⟨b0, bz, c0, c1, c2, c3, f0, f1, f2, f3⟩ : St1 W0 (w.heap.size + 1 + 1 + 1) o0 o1 o2 o3 _)).set3 sl
              exact ⟨⟨o0, o1, o2, sl, C2, 4, rfl, rfl, hs1, k3, k4, by omega, by omega, Lib.hid k1, Lib.hid k2⟩, by simp [RowKit.intOf]⟩
            · subst h
              exfalso; have V := HV.out; have DD := HD.out; simp only [av, pw, Dg] at V DD; simp at V; omega
      case rest =>
        obtain ⟨p2_0, p2_1, p2_2, p2_3, ⟨b0, bz, c0, c1, c2, c3, f0, f1, f2, f3⟩, HD, HV⟩ := hcut
        clear hS0 hD HP
        have rl1_0 := (b0.cell (p := ⟨w.heap.size + 1, 0, none⟩) (by simp)).trans rc1_0
        have rl1_1 := (b0.cell (p := ⟨w.heap.size + 1, 1, none⟩) (by simp)).trans rc1_1
        have rl2_0 := (b0.cell (p := ⟨w.heap.size + 1 + 1, 0, none⟩) (by simp)).trans rc2_0
        have rl2_1 := (b0.cell (p := ⟨w.heap.size + 1 + 1, 1, none⟩) (by simp)).trans rc2_1
        go_wp2_with (fail)
        rw [rounds_succ]
        go_upto_block 3 with (fail)
        have hS0 : St1 W0 (w.heap.size + 1 + 1 + 1) p2_0 p2_1 p2_2 p2_3 _ := ⟨b0, bz, c0, c1, c2, c3, f0, f1, f2, f3⟩
        have hD := HD
        have HP : Hid (av p2_0 p2_1 p2_2 p2_3 + D * pw 2 = (A + (B + C) * 4294967296 + D * 18446744073709551616)) := Lib.hid (by have V := HV.out; simp [pw]; omega)
        clear c0 c1 c2 c3 f0 f1 f2 f3
        go_cut [] (fun wx => ∃ o0 o1 o2 o3 : Int, St1 W0 (w.heap.size + 1 + 1 + 1) o0 o1 o2 o3 wx ∧ Hid (Dg o0 o1 o2 o3) ∧ Hid (av o0 o1 o2 o3 = (A + (B + C) * 4294967296 + D * 18446744073709551616)))
        case first =>
          go_upto_region 12 with (fail)
          go_quiet (fail)
          go_wp2_with (fail)
          have hS := hS0.drewN nq
          go_loopw [13, 14] (fun c at_ wx => ∃ (o0 o1 o2 o3 cc aa : Int), c = .int .u64 cc ∧ at_ = .int .i64 aa ∧ St1 W0 (w.heap.size + 1 + 1 + 1) o0 o1 o2 o3 wx ∧ 0 ≤ cc ∧ cc ≤ 18446744073709551615 ∧ 2 ≤ aa ∧ aa ≤ 4 ∧ Hid (Dg o0 o1 o2 o3) ∧ Hid (av o0 o1 o2 o3 + cc * pw aa = (A + (B + C) * 4294967296 + D * 18446744073709551616))) (fun _ at_ _ => (4 - RowKit.intOf at_).toNat)
          case atStart => exact ⟨p2_0, p2_1, p2_2, p2_3, D, 2, rfl, rfl, hS, by omega, by omega, by omega, by omega, hD, HP⟩
          case round =>
            obtain ⟨o0, o1, o2, o3, cc, aa, rfl, rfl, ⟨b0, bz, c0, c1, c2, c3, f0, f1, f2, f3⟩, C0, C1, A0, A1, HD, HV⟩ := hrel
            by_cases hc : cc = 0
            · subst hc
              by_cases h4 : aa = 4
              · subst h4
                go_wp2_with (fail)
                go_meet
                case rel => exact ⟨o0, o1, o2, o3, ⟨b0, bz, c0, c1, c2, c3, f0, f1, f2, f3⟩, HD, Lib.hid (by have := HV.out; omega)⟩
              · have h4 : aa < 4 := by omega
                go_wp2_with (fail)
                go_meet
                case rel => exact ⟨o0, o1, o2, o3, ⟨b0, bz, c0, c1, c2, c3, f0, f1, f2, f3⟩, HD, Lib.hid (by have := HV.out; omega)⟩
            · have hp : 0 < cc := by omega
              obtain ⟨lc, hlc⟩ : ∃ t, cc % 4294967296 = t := ⟨_, rfl⟩
              obtain ⟨ch, hch⟩ : ∃ t, cc / 4294967296 = t := ⟨_, rfl⟩
              rcases (show aa = 2 ∨ aa = 3 ∨ aa = 4 by omega) with h | h | h
              · subst h
                obtain ⟨s, hs⟩ : ∃ t, o2 + lc = t := ⟨_, rfl⟩
                obtain ⟨sl, hsl⟩ : ∃ t, s % 4294967296 = t := ⟨_, rfl⟩
                obtain ⟨sh, hsh⟩ : ∃ t, s / 4294967296 = t := ⟨_, rfl⟩
                obtain ⟨C2, hC2⟩ : ∃ t, ch + sh = t := ⟨_, rfl⟩
                have DD := HD.out
                unfold Dg at DD
                have ws : IntKind.u64.wrap (o2 + lc) = s := by rw [IntKind.wrap_u64]; omega
                have wc : IntKind.u64.wrap (ch + sh) = C2 := by rw [IntKind.wrap_u64]; omega
                have k0 : 0 ≤ s := by omega
                have k1 : s ≤ 18446744073709551615 := by omega
                have K : Hid (Dg o0 o1 sl o3 ∧ av o0 o1 sl o3 + C2 * pw 3 = (A + (B + C) * 4294967296 + D * 18446744073709551616) ∧ 0 ≤ C2 ∧ C2 ≤ 18446744073709551615) := Lib.hid (by have V := HV.out; simp only [av, pw, Dg] at V ⊢; simp at V ⊢; refine ⟨?_, ?_, ?_, ?_⟩ <;> omega)
                clear DD hs hC2
                go_upto_region 17 with (fail)
                go_region_held3 (fun (w' : World) => w'.cell? ⟨w.heap.size + 1 + 1 + 1, 3, none⟩ = some (.int .u64 o2)) (first | exact c2 | exact (by assumption) | simp [*]) (first | (go_at_call 92; refine (cRLow _ _ (by omega) (by omega)).mono ?_; rintro e w1 ⟨rfl, rfl⟩))
                go_wp2_with (first | (go_at_call 92; refine (cRLow _ _ (by omega) (by omega)).mono ?_; rintro e w1 ⟨rfl, rfl⟩))
                obtain ⟨k1, k2, k3, k4⟩ := K.out
                have hs1 := (St1.drew (⟨b0, bz, c0, c1, c2, c3, f0, f1, f2, f3⟩ : St1 W0 (w.heap.size + 1 + 1 + 1) o0 o1 o2 o3 _)).set2 sl
                exact ⟨⟨o0, o1, sl, o3, C2, 3, rfl, rfl, hs1, k3, k4, by omega, by omega, Lib.hid k1, Lib.hid k2⟩, by simp [RowKit.intOf]⟩
              · subst h
                obtain ⟨s, hs⟩ : ∃ t, o3 + lc = t := ⟨_, rfl⟩
                obtain ⟨sl, hsl⟩ : ∃ t, s % 4294967296 = t := ⟨_, rfl⟩
                obtain ⟨sh, hsh⟩ : ∃ t, s / 4294967296 = t := ⟨_, rfl⟩
                obtain ⟨C2, hC2⟩ : ∃ t, ch + sh = t := ⟨_, rfl⟩
                have DD := HD.out
                unfold Dg at DD
                have ws : IntKind.u64.wrap (o3 + lc) = s := by rw [IntKind.wrap_u64]; omega
                have wc : IntKind.u64.wrap (ch + sh) = C2 := by rw [IntKind.wrap_u64]; omega
                have k0 : 0 ≤ s := by omega
                have k1 : s ≤ 18446744073709551615 := by omega
                have K : Hid (Dg o0 o1 o2 sl ∧ av o0 o1 o2 sl + C2 * pw 4 = (A + (B + C) * 4294967296 + D * 18446744073709551616) ∧ 0 ≤ C2 ∧ C2 ≤ 18446744073709551615) := Lib.hid (by have V := HV.out; simp only [av, pw, Dg] at V ⊢; simp at V ⊢; refine ⟨?_, ?_, ?_, ?_⟩ <;> omega)
                clear DD hs hC2
                go_upto_region 17 with (fail)
                go_region_held3 (fun (w' : World) => w'.cell? ⟨w.heap.size + 1 + 1 + 1, 4, none⟩ = some (.int .u64 o3)) (first | exact c3 | exact (by assumption) | simp [*]) (first | (go_at_call 92; refine (cRLow _ _ (by omega) (by omega)).mono ?_; rintro e w1 ⟨rfl, rfl⟩))
                go_wp2_with (first | (go_at_call 92; refine (cRLow _ _ (by omega) (by omega)).mono ?_; rintro e w1 ⟨rfl, rfl⟩))
                obtain ⟨k1, k2, k3, k4⟩ := K.out
                have hs1 := (St1.drew (⟨b0, bz, c0, c1, c2, c3, f0, f1, f2, f3⟩ : St1 W0 (w.heap.size + 1 + 1 + 1) o0 o1 o2 o3 _)).set3 sl
                exact ⟨⟨o0, o1, o2, sl, C2, 4, rfl, rfl, hs1, k3, k4, by omega, by omega, Lib.hid k1, Lib.hid k2⟩, by simp [RowKit.intOf]⟩
              · subst h
                exfalso; have V := HV.out; have DD := HD.out; simp only [av, pw, Dg] at V DD; simp at V; omega
        case rest =>
          obtain ⟨p3_0, p3_1, p3_2, p3_3, ⟨b0, bz, c0, c1, c2, c3, f0, f1, f2, f3⟩, HD, HV⟩ := hcut
          clear hS0 hD HP
          have rl1_0 := (b0.cell (p := ⟨w.heap.size + 1, 0, none⟩) (by simp)).trans rc1_0
          have rl1_1 := (b0.cell (p := ⟨w.heap.size + 1, 1, none⟩) (by simp)).trans rc1_1
          have rl2_0 := (b0.cell (p := ⟨w.heap.size + 1 + 1, 0, none⟩) (by simp)).trans rc2_0
          have rl2_1 := (b0.cell (p := ⟨w.heap.size + 1 + 1, 1, none⟩) (by simp)).trans rc2_1
          go_wp2_with (fail)
          rw [rounds_succ]
          go_wp2_with (fail)
          rw [rounds_succ]
          go_wp2_with (fail)
          obtain ⟨bz1, bz2, bz3⟩ := bz
          obtain ⟨hx, hy, hg⟩ := HXY.out
          obtain ⟨hm, hs⟩ := HMS.out
          have hm2 : m = av p3_0 p3_1 p3_2 p3_3 := by rw [HV.out, ← XY.out, ← hm, Int.natAbs_mul, ← hx, ← hy]; simp
          obtain ⟨dd0, dd1, dd2, dd3⟩ := HD.out
          obtain ⟨e0, e1, e2, e3⟩ := d_av _ _ _ _ dd0 dd1 dd2 dd3
          have mb := av_bd _ _ _ _ dd0 dd1 dd2 dd3
          rw [← hm2] at e0 e1 e2 e3 mb
          obtain ⟨mb0, mb1⟩ := mb
          have hgm : m ≠ 0 → g = decide (a * b < 0) := fun h => sgn_mul a b g hg (by intro h0; apply h; rw [← hm, h0]; rfl)
          have hz0 : m = 0 → decide (a * b < 0) = false := fun h => decide_eq_false (by omega)
          rw [hs] at hgm hz0
          have HG := Lib.hid hgm; have HZ := Lib.hid hz0
          clear hx hy hg hm hm2 dd0 dd1 dd2 dd3 hgm hz0 HV HD XY HXY wA wB wC wD p00 p01 p10 p11 bl0 bl1 bm0 bm1
          clear hs HMS
          subst e0 e1 e2 e3
          rw [rc3_0] at bz2; rw [rf3_0] at bz3
          have rr0 := (b0.cell (p := ⟨w.heap.size, 0, none⟩) (by dsimp only; omega)).trans rc0_0
          have rg0 := (b0.frozen (p := ⟨w.heap.size, 0, none⟩) (by dsimp only; omega)).trans rf0_0
          have rr1 := (b0.cell (p := ⟨w.heap.size, 1, none⟩) (by dsimp only; omega)).trans rc0_1
          have rg1 := (b0.frozen (p := ⟨w.heap.size, 1, none⟩) (by dsimp only; omega)).trans rf0_1
          have rr2 := (b0.cell (p := ⟨w.heap.size, 2, none⟩) (by dsimp only; omega)).trans rc0_2
          have rg2 := (b0.frozen (p := ⟨w.heap.size, 2, none⟩) (by dsimp only; omega)).trans rf0_2
          have rr3 := (b0.cell (p := ⟨w.heap.size, 3, none⟩) (by dsimp only; omega)).trans rc0_3
          have rg3 := (b0.frozen (p := ⟨w.heap.size, 3, none⟩) (by dsimp only; omega)).trans rf0_3
          have rr4 := (b0.cell (p := ⟨w.heap.size, 4, none⟩) (by dsimp only; omega)).trans rc0_4
          have rg4 := (b0.frozen (p := ⟨w.heap.size, 4, none⟩) (by dsimp only; omega)).trans rf0_4
          clear rc0_0 rf0_0 rc0_1 rf0_1 rc0_2 rf0_2 rc0_3 rf0_3 rc0_4 rf0_4 rc3_0 rf3_0 rc3_1 rf3_1 rc3_2 rf3_2 rc3_3 rf3_3 rc3_4 rf3_4 rc1_0 rc1_1 rc2_0 rc2_1 rl1_0 rl1_1 rl2_0 rl2_1
          have HBB := BW.trans (b0.mono (by omega))
          have kz := cRZero g m
          by_cases hM : m = 0
          · rw [decide_eq_true hM] at kz
            obtain rfl : s = false := HZ.out hM
            clear HG HZ
            go_wp2_with (fail)
            go_at_call 90
            refine (kz _ mb0 mb1).mono ?_
            rintro e w1 ⟨rfl, hB⟩
            have hzz := hB.size
            have g0 := frz_later hB bz2 bz3; have n0 := cell_later hB bz2
            have g1 := frz_later hB c0 f0; have n1 := cell_later hB c0
            have g2 := frz_later hB c1 f1; have n2 := cell_later hB c1
            have g3 := frz_later hB c2 f2; have n3 := cell_later hB c2
            have g4 := frz_later hB c3 f3; have n4 := cell_later hB c3
            have rg01 := frz_later hB rr0 rg0; have rr01 := cell_later hB rr0
            have rg11 := frz_later hB rr1 rg1; have rr11 := cell_later hB rr1
            have rg21 := frz_later hB rr2 rg2; have rr21 := cell_later hB rr2
            have rg31 := frz_later hB rr3 rg3; have rr31 := cell_later hB rr3
            have rg41 := frz_later hB rr4 rg4; have rr41 := cell_later hB rr4
            have HB2 := below_step HBB hB
            clear kz hB c0 c1 c2 c3 f0 f1 f2 f3 bz2 bz3 rr0 rr1 rr2 rr3 rr4 rg0 rg1 rg2 rg3 rg4 b0 HBB BW
            go_wp2
            simp (maxDischargeDepth := 8) [bodyPost, results, Try.results75, go_sem, *]
            repeat (first | exact HB2 | refine Below.setCell ?_ (by first | exact Nat.le_refl _ | (dsimp only; omega)) _)
          · rw [decide_eq_false hM] at kz
            obtain rfl : g = s := HG.out hM
            clear HG HZ
            go_wp2_with (fail)
            go_at_call 90
            refine (kz _ mb0 mb1).mono ?_
            rintro e w1 ⟨rfl, hB⟩
            have hzz := hB.size
            have g0 := frz_later hB bz2 bz3; have n0 := cell_later hB bz2
            have g1 := frz_later hB c0 f0; have n1 := cell_later hB c0
            have g2 := frz_later hB c1 f1; have n2 := cell_later hB c1
            have g3 := frz_later hB c2 f2; have n3 := cell_later hB c2
            have g4 := frz_later hB c3 f3; have n4 := cell_later hB c3
            have rg01 := frz_later hB rr0 rg0; have rr01 := cell_later hB rr0
            have rg11 := frz_later hB rr1 rg1; have rr11 := cell_later hB rr1
            have rg21 := frz_later hB rr2 rg2; have rr21 := cell_later hB rr2
            have rg31 := frz_later hB rr3 rg3; have rr31 := cell_later hB rr3
            have rg41 := frz_later hB rr4 rg4; have rr41 := cell_later hB rr4
            have HB2 := below_step HBB hB
            clear kz hB c0 c1 c2 c3 f0 f1 f2 f3 bz2 bz3 rr0 rr1 rr2 rr3 rr4 rg0 rg1 rg2 rg3 rg4 b0 HBB BW
            go_wp2
            simp (maxDischargeDepth := 8) [bodyPost, results, Try.results75, go_sem, *]
            repeat (first | exact HB2 | refine Below.setCell ?_ (by first | exact Nat.le_refl _ | (dsimp only; omega)) _)
end Go.Proofs.Ytjpkkpflamkjkaa
