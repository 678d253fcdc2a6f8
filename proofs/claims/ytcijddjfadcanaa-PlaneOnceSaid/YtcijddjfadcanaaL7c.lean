/- The walk of PlaneOnce. -/
import Derived.Test.YtcijddjfadcanaaH7
import Derived.Test.YtcijddjfadcanaaH9
set_option linter.unusedSimpArgs false
set_option linter.unusedVariables false
namespace Go.Proofs.Ytcijddjfadcanaa
open Go.RowKit
/-- What is known of the first places. -/
def Fst (x0 x1 x2 x3 x4 x5 : Int) (k : Nat) : Prop :=
  (0 < k → -1048576 ≤ x0 ∧ x0 ≤ 1048576 ∧ -1048576 ≤ x1 ∧ x1 ≤ 1048576) ∧ (1 < k → -1048576 ≤ x2 ∧ x2 ≤ 1048576 ∧ -1048576 ≤ x3 ∧ x3 ≤ 1048576) ∧ (2 < k → -1048576 ≤ x4 ∧ x4 ≤ 1048576 ∧ -1048576 ≤ x5 ∧ x5 ≤ 1048576)
set_option maxHeartbeats 8000000 in
theorem walk_PlaneOnce (x0 x1 x2 x3 x4 x5 x6 x7 : Int) (w : World) (x0_0 : -9223372036854775808 ≤ x0) (x0_1 : x0 ≤ 9223372036854775807) (x1_0 : -9223372036854775808 ≤ x1) (x1_1 : x1 ≤ 9223372036854775807) (x2_0 : -9223372036854775808 ≤ x2) (x2_1 : x2 ≤ 9223372036854775807) (x3_0 : -9223372036854775808 ≤ x3) (x3_1 : x3 ≤ 9223372036854775807) (x4_0 : -9223372036854775808 ≤ x4) (x4_1 : x4 ≤ 9223372036854775807) (x5_0 : -9223372036854775808 ≤ x5) (x5_1 : x5 ≤ 9223372036854775807) (x6_0 : -9223372036854775808 ≤ x6) (x6_1 : x6 ≤ 9223372036854775807) (x7_0 : -9223372036854775808 ≤ x7) (x7_1 : x7 ≤ 9223372036854775807) :
    Calls Try.prog 7 #[.agg #[.int .i64 x0, .int .i64 x1, .int .i64 x2, .int .i64 x3, .int .i64 x4, .int .i64 x5], .agg #[.int .i64 x6, .int .i64 x7]] w fun e w' => e = .returned (.bool true) ∧ Below w.heap.size w w' := by
  go_enter Try.func7, Try.ntmps7
  go_wp2
  go_loopw [5] (fun i wr => ∃ k : Nat, i = .int .i64 k ∧ k ≤ 3 ∧ Hid (Fst x0 x1 x2 x3 x4 x5 k) ∧ Below w.heap.size w wr ∧ Bk w.heap.size 0 [.int .i64 x0, .int .i64 x1, .int .i64 x2, .int .i64 x3, .int .i64 x4, .int .i64 x5] wr ∧ Bk (w.heap.size + 1) 0 [.int .i64 x6, .int .i64 x7] wr) (fun i _ => 3 - (RowKit.intOf i).toNat)
  case atStart => exact ⟨0, rfl, by omega, Lib.hid ⟨by omega, by omega, by omega⟩, by (repeat (first | with_reducible assumption | with_reducible exact Below.refl _ _ | ((with_reducible refine Below.setCell ?_ ?_ _); rotate_left; (first | exact Nat.le_refl _ | (dsimp only; omega) | (simp; done) | (simp; omega))) | with_reducible refine below_alloc ?_ _ | with_reducible apply below_drewN | with_reducible apply Below.drew | with_reducible refine below_step ?_ (by assumption))), by simp [Bk, go_sem], by simp [Bk, go_sem]⟩
  case round =>
    obtain ⟨k, rfl, hk, HN, HB, B0, B1⟩ := hrel
    have C0 := B0; simp only [Bk] at C0
    have C1 := B1; simp only [Bk] at C1
    rcases (show k = 0 ∨ k = 1 ∨ k = 2 ∨ k = 3 by omega) with rfl | rfl | rfl | rfl
    · by_cases t1 : 1048576 < x0
      · go_wp2
        go_ret
        exact ⟨rfl, by first | exact HB | (repeat (first | with_reducible assumption | with_reducible exact Below.refl _ _ | ((with_reducible refine Below.setCell ?_ ?_ _); rotate_left; (first | exact Nat.le_refl _ | (dsimp only; omega) | (simp; done) | (simp; omega))) | with_reducible refine below_alloc ?_ _ | with_reducible apply below_drewN | with_reducible apply Below.drew | with_reducible refine below_step ?_ (by assumption)))⟩
      by_cases t2 : x0 < -1048576
      · go_wp2
        go_ret
        exact ⟨rfl, by first | exact HB | (repeat (first | with_reducible assumption | with_reducible exact Below.refl _ _ | ((with_reducible refine Below.setCell ?_ ?_ _); rotate_left; (first | exact Nat.le_refl _ | (dsimp only; omega) | (simp; done) | (simp; omega))) | with_reducible refine below_alloc ?_ _ | with_reducible apply below_drewN | with_reducible apply Below.drew | with_reducible refine below_step ?_ (by assumption)))⟩
      by_cases t3 : 1048576 < x1
      · go_wp2
        go_ret
        exact ⟨rfl, by first | exact HB | (repeat (first | with_reducible assumption | with_reducible exact Below.refl _ _ | ((with_reducible refine Below.setCell ?_ ?_ _); rotate_left; (first | exact Nat.le_refl _ | (dsimp only; omega) | (simp; done) | (simp; omega))) | with_reducible refine below_alloc ?_ _ | with_reducible apply below_drewN | with_reducible apply Below.drew | with_reducible refine below_step ?_ (by assumption)))⟩
      by_cases t4 : x1 < -1048576
      · go_wp2
        go_ret
        exact ⟨rfl, by first | exact HB | (repeat (first | with_reducible assumption | with_reducible exact Below.refl _ _ | ((with_reducible refine Below.setCell ?_ ?_ _); rotate_left; (first | exact Nat.le_refl _ | (dsimp only; omega) | (simp; done) | (simp; omega))) | with_reducible refine below_alloc ?_ _ | with_reducible apply below_drewN | with_reducible apply Below.drew | with_reducible refine below_step ?_ (by assumption)))⟩
      have HS : Hid (Fst x0 x1 x2 x3 x4 x5 1) := Lib.hid (by have := HN.out; unfold Fst at this ⊢; omega)
      go_wp2
      exact ⟨⟨1, by go_num, by omega, HS, by first | exact HB | (repeat (first | with_reducible assumption | with_reducible exact Below.refl _ _ | ((with_reducible refine Below.setCell ?_ ?_ _); rotate_left; (first | exact Nat.le_refl _ | (dsimp only; omega) | (simp; done) | (simp; omega))) | with_reducible refine below_alloc ?_ _ | with_reducible apply below_drewN | with_reducible apply Below.drew | with_reducible refine below_step ?_ (by assumption))), B0, B1⟩, by simp [RowKit.intOf]⟩
    · by_cases t1 : 1048576 < x2
      · go_wp2
        go_ret
        exact ⟨rfl, by first | exact HB | (repeat (first | with_reducible assumption | with_reducible exact Below.refl _ _ | ((with_reducible refine Below.setCell ?_ ?_ _); rotate_left; (first | exact Nat.le_refl _ | (dsimp only; omega) | (simp; done) | (simp; omega))) | with_reducible refine below_alloc ?_ _ | with_reducible apply below_drewN | with_reducible apply Below.drew | with_reducible refine below_step ?_ (by assumption)))⟩
      by_cases t2 : x2 < -1048576
      · go_wp2
        go_ret
        exact ⟨rfl, by first | exact HB | (repeat (first | with_reducible assumption | with_reducible exact Below.refl _ _ | ((with_reducible refine Below.setCell ?_ ?_ _); rotate_left; (first | exact Nat.le_refl _ | (dsimp only; omega) | (simp; done) | (simp; omega))) | with_reducible refine below_alloc ?_ _ | with_reducible apply below_drewN | with_reducible apply Below.drew | with_reducible refine below_step ?_ (by assumption)))⟩
      by_cases t3 : 1048576 < x3
      · go_wp2
        go_ret
        exact ⟨rfl, by first | exact HB | (repeat (first | with_reducible assumption | with_reducible exact Below.refl _ _ | ((with_reducible refine Below.setCell ?_ ?_ _); rotate_left; (first | exact Nat.le_refl _ | (dsimp only; omega) | (simp; done) | (simp; omega))) | with_reducible refine below_alloc ?_ _ | with_reducible apply below_drewN | with_reducible apply Below.drew | with_reducible refine below_step ?_ (by assumption)))⟩
      by_cases t4 : x3 < -1048576
      · go_wp2
        go_ret
        exact ⟨rfl, by first | exact HB | (repeat (first | with_reducible assumption | with_reducible exact Below.refl _ _ | ((with_reducible refine Below.setCell ?_ ?_ _); rotate_left; (first | exact Nat.le_refl _ | (dsimp only; omega) | (simp; done) | (simp; omega))) | with_reducible refine below_alloc ?_ _ | with_reducible apply below_drewN | with_reducible apply Below.drew | with_reducible refine below_step ?_ (by assumption)))⟩
      have HS : Hid (Fst x0 x1 x2 x3 x4 x5 2) := Lib.hid (by have := HN.out; unfold Fst at this ⊢; omega)
      go_wp2
      exact ⟨⟨2, by go_num, by omega, HS, by first | exact HB | (repeat (first | with_reducible assumption | with_reducible exact Below.refl _ _ | ((with_reducible refine Below.setCell ?_ ?_ _); rotate_left; (first | exact Nat.le_refl _ | (dsimp only; omega) | (simp; done) | (simp; omega))) | with_reducible refine below_alloc ?_ _ | with_reducible apply below_drewN | with_reducible apply Below.drew | with_reducible refine below_step ?_ (by assumption))), B0, B1⟩, by simp [RowKit.intOf]⟩
    · by_cases t1 : 1048576 < x4
      · go_wp2
        go_ret
        exact ⟨rfl, by first | exact HB | (repeat (first | with_reducible assumption | with_reducible exact Below.refl _ _ | ((with_reducible refine Below.setCell ?_ ?_ _); rotate_left; (first | exact Nat.le_refl _ | (dsimp only; omega) | (simp; done) | (simp; omega))) | with_reducible refine below_alloc ?_ _ | with_reducible apply below_drewN | with_reducible apply Below.drew | with_reducible refine below_step ?_ (by assumption)))⟩
      by_cases t2 : x4 < -1048576
      · go_wp2
        go_ret
        exact ⟨rfl, by first | exact HB | (repeat (first | with_reducible assumption | with_reducible exact Below.refl _ _ | ((with_reducible refine Below.setCell ?_ ?_ _); rotate_left; (first | exact Nat.le_refl _ | (dsimp only; omega) | (simp; done) | (simp; omega))) | with_reducible refine below_alloc ?_ _ | with_reducible apply below_drewN | with_reducible apply Below.drew | with_reducible refine below_step ?_ (by assumption)))⟩
      by_cases t3 : 1048576 < x5
      · go_wp2
        go_ret
        exact ⟨rfl, by first | exact HB | (repeat (first | with_reducible assumption | with_reducible exact Below.refl _ _ | ((with_reducible refine Below.setCell ?_ ?_ _); rotate_left; (first | exact Nat.le_refl _ | (dsimp only; omega) | (simp; done) | (simp; omega))) | with_reducible refine below_alloc ?_ _ | with_reducible apply below_drewN | with_reducible apply Below.drew | with_reducible refine below_step ?_ (by assumption)))⟩
      by_cases t4 : x5 < -1048576
      · go_wp2
        go_ret
        exact ⟨rfl, by first | exact HB | (repeat (first | with_reducible assumption | with_reducible exact Below.refl _ _ | ((with_reducible refine Below.setCell ?_ ?_ _); rotate_left; (first | exact Nat.le_refl _ | (dsimp only; omega) | (simp; done) | (simp; omega))) | with_reducible refine below_alloc ?_ _ | with_reducible apply below_drewN | with_reducible apply Below.drew | with_reducible refine below_step ?_ (by assumption)))⟩
      have HS : Hid (Fst x0 x1 x2 x3 x4 x5 3) := Lib.hid (by have := HN.out; unfold Fst at this ⊢; omega)
      go_wp2
      exact ⟨⟨3, by go_num, by omega, HS, by first | exact HB | (repeat (first | with_reducible assumption | with_reducible exact Below.refl _ _ | ((with_reducible refine Below.setCell ?_ ?_ _); rotate_left; (first | exact Nat.le_refl _ | (dsimp only; omega) | (simp; done) | (simp; omega))) | with_reducible refine below_alloc ?_ _ | with_reducible apply below_drewN | with_reducible apply Below.drew | with_reducible refine below_step ?_ (by assumption))), B0, B1⟩, by simp [RowKit.intOf]⟩
    · by_cases t1 : 1048576 < x6
      · clear HN
        go_wp2
        go_ret
        exact ⟨rfl, by first | exact HB | (repeat (first | with_reducible assumption | with_reducible exact Below.refl _ _ | ((with_reducible refine Below.setCell ?_ ?_ _); rotate_left; (first | exact Nat.le_refl _ | (dsimp only; omega) | (simp; done) | (simp; omega))) | with_reducible refine below_alloc ?_ _ | with_reducible apply below_drewN | with_reducible apply Below.drew | with_reducible refine below_step ?_ (by assumption)))⟩
      by_cases t2 : x6 < -1048576
      · clear HN
        go_wp2
        go_ret
        exact ⟨rfl, by first | exact HB | (repeat (first | with_reducible assumption | with_reducible exact Below.refl _ _ | ((with_reducible refine Below.setCell ?_ ?_ _); rotate_left; (first | exact Nat.le_refl _ | (dsimp only; omega) | (simp; done) | (simp; omega))) | with_reducible refine below_alloc ?_ _ | with_reducible apply below_drewN | with_reducible apply Below.drew | with_reducible refine below_step ?_ (by assumption)))⟩
      by_cases t3 : 1048576 < x7
      · clear HN
        go_wp2
        go_ret
        exact ⟨rfl, by first | exact HB | (repeat (first | with_reducible assumption | with_reducible exact Below.refl _ _ | ((with_reducible refine Below.setCell ?_ ?_ _); rotate_left; (first | exact Nat.le_refl _ | (dsimp only; omega) | (simp; done) | (simp; omega))) | with_reducible refine below_alloc ?_ _ | with_reducible apply below_drewN | with_reducible apply Below.drew | with_reducible refine below_step ?_ (by assumption)))⟩
      by_cases t4 : x7 < -1048576
      · clear HN
        go_wp2
        go_ret
        exact ⟨rfl, by first | exact HB | (repeat (first | with_reducible assumption | with_reducible exact Below.refl _ _ | ((with_reducible refine Below.setCell ?_ ?_ _); rotate_left; (first | exact Nat.le_refl _ | (dsimp only; omega) | (simp; done) | (simp; omega))) | with_reducible refine below_alloc ?_ _ | with_reducible apply below_drewN | with_reducible apply Below.drew | with_reducible refine below_step ?_ (by assumption)))⟩
      have hF := HN.out
      unfold Fst at hF
      obtain ⟨⟨h1, h2, h3, h4⟩, ⟨h5, h6, h7, h8⟩, ⟨h9, h10, h11, h12⟩⟩ := (⟨hF.1 (by omega), hF.2.1 (by omega), hF.2.2 (by omega)⟩ : (_ ∧ _ ∧ _))
      clear hF HN
      obtain ⟨a, b, e1, e2, e3, e4⟩ := once x0 x1 x2 x3 x4 x5 x6 x7 (by omega)
      have k1 := fun W => cCrosses x0 x1 x2 x3 x4 x5 (x4 + 3 * x6) (x5 + 3 * x7) W
      have k2 := fun W => cCrosses x0 x1 x2 x3 x4 x5 (x4 + x6) (x5 + x7) W
      have k3 := fun W => cCrosses x0 x1 x2 x3 (x4 + x6) (x5 + x7) (x4 + 3 * x6) (x5 + 3 * x7) W
      rw [e1] at k1
      rw [e2] at k2
      rw [e3] at k3
      generalize cxv x0 x1 x2 x3 x4 x5 (x4 + 3 * x6) (x5 + 3 * x7) = v1 at *
      generalize cxv x0 x1 x2 x3 x4 x5 (x4 + x6) (x5 + x7) = v2 at *
      generalize cxv x0 x1 x2 x3 (x4 + x6) (x5 + x7) (x4 + 3 * x6) (x5 + 3 * x7) = v3 at *
      clear e1 e2 e3
      rename World => wr
      go_upto_region 11 with (fail)
      have hwr := HB.size
      have B9 : Bk w.heap.size 0 [.int .i64 x0, .int .i64 x1, .int .i64 x2, .int .i64 x3, .int .i64 x4, .int .i64 x5] (((wr.alloc (Obj.cells #[.int .i64 x4, .int .i64 x5] 24)).alloc (Obj.cells #[.int .i64 (x4 + x6), .int .i64 (x5 + x7)] 24)).alloc (Obj.cells #[.int .i64 (x4 + 3 * x6), .int .i64 (x5 + 3 * x7)] 24)) := by (repeat (first | with_reducible assumption | with_reducible apply Bk.drew | with_reducible apply Bk.alloc | with_reducible refine Bk.later ?_ hR | with_reducible refine Bk.later ?_ hM | ((with_reducible apply Bk.later); rotate_left; (with_reducible assumption)) | ((with_reducible apply Bk.put); rotate_left; (first | (dsimp only; omega)))))
      have C9 := B9; simp only [Bk] at C9
      go_wp2_with (fail)
      (go_at_call 13; (with_reducible refine (k1 _).mono ?_); rintro e w1 ⟨rfl, hM⟩)
      have P0 : Bk wr.heap.size 0 [.int .i64 x4, .int .i64 x5] w1 := Bk.later (by simp [Bk, go_sem]; done) hM
      have P1 : Bk (wr.heap.size + 1) 0 [.int .i64 (x4 + x6), .int .i64 (x5 + x7)] w1 := Bk.later (by simp [Bk, go_sem]; done) hM
      have P2 : Bk (wr.heap.size + 1 + 1) 0 [.int .i64 (x4 + 3 * x6), .int .i64 (x5 + 3 * x7)] w1 := Bk.later (by simp [Bk, go_sem]; done) hM
      have B0 : Bk w.heap.size 0 [.int .i64 x0, .int .i64 x1, .int .i64 x2, .int .i64 x3, .int .i64 x4, .int .i64 x5] w1 := by (repeat (first | with_reducible assumption | with_reducible apply Bk.drew | with_reducible apply Bk.alloc | with_reducible refine Bk.later ?_ hR | with_reducible refine Bk.later ?_ hM | ((with_reducible apply Bk.later); rotate_left; (with_reducible assumption)) | ((with_reducible apply Bk.put); rotate_left; (first | (dsimp only; omega)))))
      have HB : Below w.heap.size w w1 := by (repeat (first | with_reducible assumption | with_reducible exact Below.refl _ _ | ((with_reducible refine Below.setCell ?_ ?_ _); rotate_left; (first | exact Nat.le_refl _ | (dsimp only; omega) | (simp; done) | (simp; omega))) | with_reducible refine below_alloc ?_ _ | with_reducible apply below_drewN | with_reducible apply Below.drew | with_reducible refine below_step ?_ (by assumption)))
      have C_B0 := B0; simp only [Bk] at C_B0
      have C_P0 := P0; simp only [Bk] at C_P0
      have C_P1 := P1; simp only [Bk] at C_P1
      have C_P2 := P2; simp only [Bk] at C_P2
      clear hM k1 C0 C1 B9 C9
      go_wp2_with (fail)
      (go_at_call 13; (with_reducible refine (k2 _).mono ?_); rintro e9 w1 ⟨rfl, hM⟩; (first | have HB : Below w.heap.size w _ := below_step HB hM | have HB : Below w.heap.size w _ := below_step (W := _) (by (repeat (first | with_reducible assumption | with_reducible exact Below.refl _ _ | ((with_reducible refine Below.setCell ?_ ?_ _); rotate_left; (first | exact Nat.le_refl _ | (dsimp only; omega) | (simp; done) | (simp; omega))) | with_reducible refine below_alloc ?_ _ | with_reducible apply below_drewN | with_reducible apply Below.drew | with_reducible refine below_step ?_ (by assumption)))) hM); (first | have B0 := Bk.later B0 hM | have B0 := Bk.later (Bk.alloc B0 _) hM | have B0 := Bk.later (Bk.alloc (Bk.alloc B0 _) _) hM); have C_B0 := B0; simp only [Bk] at C_B0; (first | have P0 := Bk.later P0 hM | have P0 := Bk.later (Bk.alloc P0 _) hM | have P0 := Bk.later (Bk.alloc (Bk.alloc P0 _) _) hM); have C_P0 := P0; simp only [Bk] at C_P0; (first | have P1 := Bk.later P1 hM | have P1 := Bk.later (Bk.alloc P1 _) hM | have P1 := Bk.later (Bk.alloc (Bk.alloc P1 _) _) hM); have C_P1 := P1; simp only [Bk] at C_P1; (first | have P2 := Bk.later P2 hM | have P2 := Bk.later (Bk.alloc P2 _) hM | have P2 := Bk.later (Bk.alloc (Bk.alloc P2 _) _) hM); have C_P2 := P2; simp only [Bk] at C_P2)
      clear hM k2
      go_wp2_with (fail)
      (go_at_call 13; (with_reducible refine (k3 _).mono ?_); rintro e9 w1 ⟨rfl, hM⟩; (first | have HB : Below w.heap.size w _ := below_step HB hM | have HB : Below w.heap.size w _ := below_step (W := _) (by (repeat (first | with_reducible assumption | with_reducible exact Below.refl _ _ | ((with_reducible refine Below.setCell ?_ ?_ _); rotate_left; (first | exact Nat.le_refl _ | (dsimp only; omega) | (simp; done) | (simp; omega))) | with_reducible refine below_alloc ?_ _ | with_reducible apply below_drewN | with_reducible apply Below.drew | with_reducible refine below_step ?_ (by assumption)))) hM); (first | have B0 := Bk.later B0 hM | have B0 := Bk.later (Bk.alloc B0 _) hM | have B0 := Bk.later (Bk.alloc (Bk.alloc B0 _) _) hM); have C_B0 := B0; simp only [Bk] at C_B0; (first | have P0 := Bk.later P0 hM | have P0 := Bk.later (Bk.alloc P0 _) hM | have P0 := Bk.later (Bk.alloc (Bk.alloc P0 _) _) hM); have C_P0 := P0; simp only [Bk] at C_P0; (first | have P1 := Bk.later P1 hM | have P1 := Bk.later (Bk.alloc P1 _) hM | have P1 := Bk.later (Bk.alloc (Bk.alloc P1 _) _) hM); have C_P1 := P1; simp only [Bk] at C_P1; (first | have P2 := Bk.later P2 hM | have P2 := Bk.later (Bk.alloc P2 _) hM | have P2 := Bk.later (Bk.alloc (Bk.alloc P2 _) _) hM); have C_P2 := P2; simp only [Bk] at C_P2)
      clear hM k3
      cases a <;> cases b <;> (try (cases e4; done))
      all_goals go_wp2_with (first | (go_at_call 12; (with_reducible refine (cAwake7 _).mono ?_); rintro e9 w1 ⟨rfl, hM⟩; (first | have HB : Below w.heap.size w _ := below_step HB hM | have HB : Below w.heap.size w _ := below_step (W := _) (by (repeat (first | with_reducible assumption | with_reducible exact Below.refl _ _ | ((with_reducible refine Below.setCell ?_ ?_ _); rotate_left; (first | exact Nat.le_refl _ | (dsimp only; omega) | (simp; done) | (simp; omega))) | with_reducible refine below_alloc ?_ _ | with_reducible apply below_drewN | with_reducible apply Below.drew | with_reducible refine below_step ?_ (by assumption)))) hM)))
      all_goals go_ret
      all_goals exact ⟨rfl, by first | exact HB | (repeat (first | with_reducible assumption | with_reducible exact Below.refl _ _ | ((with_reducible refine Below.setCell ?_ ?_ _); rotate_left; (first | exact Nat.le_refl _ | (dsimp only; omega) | (simp; done) | (simp; omega))) | with_reducible refine below_alloc ?_ _ | with_reducible apply below_drewN | with_reducible apply Below.drew | with_reducible refine below_step ?_ (by assumption)))⟩
end Go.Proofs.Ytcijddjfadcanaa
