/- Plain laws of the numbers of chapter 2, and the walk of its examples. -/
import Derived.Test.YtggpeefijdiiiaaF3
namespace Go.Proofs.Ytggpeefijdiiiaa
open Go.RowKit
theorem rsh_mono (p r : Int) (h : p ≤ r) : rsh p ≤ rsh r := by unfold rsh; split <;> split <;> omega
theorem sat_mono (p r : Int) (h : p ≤ r) : sat p ≤ sat r := by unfold sat; split <;> split <;> (try split) <;> (try split) <;> omega
theorem qn_mono (N M D : Int) (hN : 0 ≤ N) (h : N ≤ M) (hD : 0 < D) : qn N D ≤ qn M D := by
  have a1 : N / D ≤ M / D := Int.ediv_le_ediv hD h
  have a2 := Int.mul_ediv_add_emod N D
  have a3 := Int.mul_ediv_add_emod M D
  unfold qn
  rcases (show N / D = M / D ∨ N / D + 1 ≤ M / D from by omega) with h1 | h1
  · rw [h1] at a2 ⊢
    generalize D * (M / D) = k at *
    split <;> split <;> omega
  · split <;> split <;> omega
theorem rdiv_mono (a b c : Int) (h : a ≤ b) (hc : 0 < c) : rdiv a c ≤ rdiv b c := by
  have hn : ¬ c < 0 := by omega
  have k1 := qn_bd a.natAbs c.natAbs (by omega) (by omega)
  have k2 := qn_bd b.natAbs c.natAbs (by omega) (by omega)
  unfold rdiv
  rcases Int.lt_or_le a 0 with ha | ha
  · rcases Int.lt_or_le b 0 with hb | hb
    · have := qn_mono b.natAbs a.natAbs c.natAbs (by omega) (by omega) (by omega)
      simp [ha, hb, hn]; omega
    · have : ¬ b < 0 := by omega
      simp [ha, this, hn]; omega
  · have ha' : ¬ a < 0 := by omega
    have hb' : ¬ b < 0 := by omega
    have := qn_mono a.natAbs b.natAbs c.natAbs (by omega) (by omega) (by omega)
    simp [ha', hb', hn]; omega
theorem fq_mono (a b c : Int) (h : a ≤ b) (hc : 0 < c) : fq a c ≤ fq b c := by
  unfold fq
  rw [if_neg (by omega), if_neg (by omega)]
  exact sat_mono _ _ (rdiv_mono _ _ _ (by omega) hc)
theorem cFMulV (x y v : Int) (b : Nat) (o o' : Bool) (w : World) (hv : sat (rsh (x * y)) = v) (ho : (o || !fx (rsh (x * y))) = o') (x0 : -9223372036854775808 ≤ x) (x1 : x ≤ 9223372036854775807) (y0 : -9223372036854775808 ≤ y) (y1 : y ≤ 9223372036854775807)
    (hc : w.cell? ⟨b, 0, none⟩ = some (.bool o)) (hf : w.frozen? ⟨b, 0, none⟩ = false) :
    Calls Try.prog 11 #[.pointer (some ⟨b, 0, none⟩), .int .i64 x, .int .i64 y] w fun e w' => e = .returned (.int .i64 v) ∧ Mv b o' w w' := by
  rw [← hv, ← ho]; exact cFMul x y b o w x0 x1 y0 y1 hc hf
theorem cFDivV (x y v : Int) (b : Nat) (o o' : Bool) (w : World) (hv : fq x y = v) (ho : (o || !fqok x y) = o') (x0 : -9223372036854775808 ≤ x) (x1 : x ≤ 9223372036854775807) (y0 : -9223372036854775808 ≤ y) (y1 : y ≤ 9223372036854775807)
    (hc : w.cell? ⟨b, 0, none⟩ = some (.bool o)) (hf : w.frozen? ⟨b, 0, none⟩ = false) :
    Calls Try.prog 14 #[.pointer (some ⟨b, 0, none⟩), .int .i64 x, .int .i64 y] w fun e w' => e = .returned (.int .i64 v) ∧ Mv b o' w w' := by
  rw [← hv, ← ho]; exact cFDiv x y b o w x0 x1 y0 y1 hc hf
set_option maxHeartbeats 1000000 in
theorem cAwake2 (w : World) : Calls Try.prog 13 #[] w fun e w' => e = .returned (.bool true) ∧ Below w.heap.size w w' := by
  go_enter Try.func13, Try.ntmps13
  go_wp2_with (fail)
  refine (cFMulV 2147483648 1 0 w.heap.size false false _ (by decide) (by decide) (by decide) (by decide) (by decide) (by decide) (by simp [go_sem]) (by simp [go_sem])).mono ?_
  rintro e w1 ⟨rfl, hM1⟩
  have hc1 := hM1.cell
  have hf1 := hM1.free
  go_wp2_with (fail)
  refine (cFMulV 6442450944 1 2 w.heap.size false false _ (by decide) (by decide) (by decide) (by decide) (by decide) (by decide) (by assumption) (by assumption)).mono ?_
  rintro e w2 ⟨rfl, hM2⟩
  have hc2 := hM2.cell
  have hf2 := hM2.free
  clear hc1 hf1
  go_wp2_with (fail)
  refine (cFDivV 4294967296 12884901888 1431655765 w.heap.size false false _ (by decide) (by decide) (by decide) (by decide) (by decide) (by decide) (by assumption) (by assumption)).mono ?_
  rintro e w3 ⟨rfl, hM3⟩
  have hc3 := hM3.cell
  have hf3 := hM3.free
  clear hc2 hf2
  go_wp2_with (fail)
  refine (cFMulV 4611686018427387904 4611686018427387904 9223372036854775807 w.heap.size false true _ (by decide) (by decide) (by decide) (by decide) (by decide) (by decide) (by assumption) (by assumption)).mono ?_
  rintro e w4 ⟨rfl, hM4⟩
  have hc4 := hM4.cell
  go_wp2_with (fail)
  go_ret
  refine ⟨rfl, below_mv (W := _) ?_ (((hM1.trans hM2).trans hM3).trans hM4) (Nat.le_refl _)⟩
  (repeat (first | exact Below.refl _ _ | assumption | apply Below.drew | apply below_drewN | refine below_alloc ?_ _ | refine below_step ?_ (by assumption) | refine Below.alloc ?_ (by first | exact Nat.le_refl _ | omega | (simp; omega) | simp) _ | refine Below.setCell ?_ (by first | exact Nat.le_refl _ | omega | (simp; omega) | simp) _))
end Go.Proofs.Ytggpeefijdiiiaa
