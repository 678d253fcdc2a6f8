/- The walks of the laws of chapter 2 that ask no document's answer. -/
import Derived.Test.YtggpeefijdiiiaaL2a
namespace Go.Proofs.Ytggpeefijdiiiaa
open Go.RowKit
set_option maxHeartbeats 1000000 in
theorem walk_FxRises (a b c : Int) (w : World) (a0 : -9223372036854775808 ≤ a) (a1 : a ≤ 9223372036854775807) (b0 : -9223372036854775808 ≤ b) (b1 : b ≤ 9223372036854775807) (c0 : -9223372036854775808 ≤ c) (c1 : c ≤ 9223372036854775807) :
    Calls Try.prog 5 #[.int .i64 a, .int .i64 b, .int .i64 c] w fun e w' => e = .returned (.bool true) ∧ Below w.heap.size w w' := by
  rcases (show b < a ∨ (a ≤ b ∧ c < 0) ∨ (a ≤ b ∧ 0 ≤ c) from by omega) with h | ⟨g, h⟩ | ⟨g, h⟩
  · go_enter Try.func5, Try.ntmps5
    go_wp2_with (first | (go_at_call 13; refine (cAwake2 _).mono ?_; rintro e w1 ⟨rfl, hB⟩))
    go_ret
    exact ⟨rfl, by (repeat (first | exact Below.refl _ _ | assumption | apply Below.drew | apply below_drewN | refine below_alloc ?_ _ | refine below_step ?_ (by assumption) | refine Below.alloc ?_ (by first | exact Nat.le_refl _ | omega | (simp; omega) | simp) _ | refine Below.setCell ?_ (by first | exact Nat.le_refl _ | omega | (simp; omega) | simp) _))⟩
  · have g' : ¬ b < a := by omega
    go_enter Try.func5, Try.ntmps5
    go_wp2_with (first | (go_at_call 13; refine (cAwake2 _).mono ?_; rintro e w1 ⟨rfl, hB⟩))
    go_ret
    exact ⟨rfl, by (repeat (first | exact Below.refl _ _ | assumption | apply Below.drew | apply below_drewN | refine below_alloc ?_ _ | refine below_step ?_ (by assumption) | refine Below.alloc ?_ (by first | exact Nat.le_refl _ | omega | (simp; omega) | simp) _ | refine Below.setCell ?_ (by first | exact Nat.le_refl _ | omega | (simp; omega) | simp) _))⟩
  · have e1 : sat (rsh (a * c)) ≤ sat (rsh (b * c)) := sat_mono _ _ (rsh_mono _ _ (Int.mul_le_mul_of_nonneg_right g h))
    have g' : ¬ b < a := by omega
    have h' : ¬ c < 0 := by omega
    rcases (show c = 0 ∨ 0 < c from by omega) with k | k
    · subst k
      go_enter Try.func5, Try.ntmps5
      go_wp2_with (fail)
      refine (cFMul a 0 w.heap.size false _ (by omega) (by omega) (by omega) (by omega) (by simp [go_sem]) (by simp [go_sem])).mono ?_
      rintro e w1 ⟨rfl, hM1⟩
      have hc1 := hM1.cell
      have hf1 := hM1.free
      go_wp2_with (fail)
      refine (cFMul b 0 w.heap.size _ _ (by omega) (by omega) (by omega) (by omega) (by assumption) (by assumption)).mono ?_
      rintro e w2 ⟨rfl, hM2⟩
      go_wp2_with (first | (go_at_call 13; refine (cAwake2 _).mono ?_; rintro e w1 ⟨rfl, hB⟩))
      go_ret
      refine ⟨rfl, Below.trans (below_mv (W := _) ?_ (hM1.trans hM2) (Nat.le_refl _)) ?_⟩
      · (repeat (first | exact Below.refl _ _ | assumption | apply Below.drew | apply below_drewN | refine below_alloc ?_ _ | refine below_step ?_ (by assumption) | refine Below.alloc ?_ (by first | exact Nat.le_refl _ | omega | (simp; omega) | simp) _ | refine Below.setCell ?_ (by first | exact Nat.le_refl _ | omega | (simp; omega) | simp) _))
      · refine (by assumption : Below w2.heap.size w2 _).mono ?_
        have := hM1.size
        have := hM2.size
        simp at *
        omega
    · have k' : (c == 0) = false := by simp; omega
      have e2 : fq a c ≤ fq b c := fq_mono _ _ _ g k
      go_enter Try.func5, Try.ntmps5
      go_wp2_with (fail)
      refine (cFMul a c w.heap.size false _ (by omega) (by omega) (by omega) (by omega) (by simp [go_sem]) (by simp [go_sem])).mono ?_
      rintro e w1 ⟨rfl, hM1⟩
      have hc1 := hM1.cell
      have hf1 := hM1.free
      go_wp2_with (fail)
      refine (cFMul b c w.heap.size _ _ (by omega) (by omega) (by omega) (by omega) (by assumption) (by assumption)).mono ?_
      rintro e w2 ⟨rfl, hM2⟩
      have hc2 := hM2.cell
      have hf2 := hM2.free
      clear hc1 hf1
      go_wp2_with (fail)
      refine (cFDiv a c w.heap.size _ _ (by omega) (by omega) (by omega) (by omega) (by assumption) (by assumption)).mono ?_
      rintro e w3 ⟨rfl, hM3⟩
      have hc3 := hM3.cell
      have hf3 := hM3.free
      clear hc2 hf2
      go_wp2_with (fail)
      refine (cFDiv b c w.heap.size _ _ (by omega) (by omega) (by omega) (by omega) (by assumption) (by assumption)).mono ?_
      rintro e w4 ⟨rfl, hM4⟩
      clear hc3 hf3
      go_wp2_with (first | (go_at_call 13; refine (cAwake2 _).mono ?_; rintro e w1 ⟨rfl, hB⟩))
      go_ret
      refine ⟨rfl, Below.trans (below_mv (W := _) ?_ (((hM1.trans hM2).trans hM3).trans hM4) (Nat.le_refl _)) ?_⟩
      · (repeat (first | exact Below.refl _ _ | assumption | apply Below.drew | apply below_drewN | refine below_alloc ?_ _ | refine below_step ?_ (by assumption) | refine Below.alloc ?_ (by first | exact Nat.le_refl _ | omega | (simp; omega) | simp) _ | refine Below.setCell ?_ (by first | exact Nat.le_refl _ | omega | (simp; omega) | simp) _))
      · refine (by assumption : Below w4.heap.size w4 _).mono ?_
        have := hM1.size
        have := hM2.size
        have := hM3.size
        have := hM4.size
        simp at *
        omega
end Go.Proofs.Ytggpeefijdiiiaa
