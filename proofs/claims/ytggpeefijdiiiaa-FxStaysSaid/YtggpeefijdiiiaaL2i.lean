/- The walk of FxStays. -/
import Derived.Test.YtggpeefijdiiiaaL2a
import Derived.Test.YtggpeefijdiiiaaF4
import Derived.LoopN
namespace Go.Proofs.Ytggpeefijdiiiaa
open Go.RowKit
set_option maxHeartbeats 4000000 in
theorem walk_FxStays (a : Addr) (len cap : Nat) (f : Nat → Int) (w : World) (hl : (len : Int) ≤ 9223372036854775807)
   (hc : ∀ j : Nat, j < len → w.cell? (a.add j) = some (.int .i64 (f j)) ∧ -9223372036854775808 ≤ f j ∧ f j ≤ 9223372036854775807) :
    Calls Try.prog 4 #[.slice (some a) len cap] w fun e w' => e = .returned (.bool true) ∧ Below w.heap.size w w' := by
  have HC := Lib.hid hc
  clear hc
  go_enter Try.func4, Try.ntmps4
  go_wp2_with (fail)
  go_loopw [5, 6, 7] (fun sa b c wx => ∃ (ov : Bool) (acc : Int) (j : Nat), sa = .bool ov ∧ b = .int .i64 acc ∧ c = .int .i64 (j : Int) ∧ Below w.heap.size w wx ∧ w.heap.size + 1 ≤ wx.heap.size ∧ wx.cell? ⟨w.heap.size, 0, none⟩ = some (.bool ov) ∧ wx.frozen? ⟨w.heap.size, 0, none⟩ = false ∧ -9223372036854775808 ≤ acc ∧ acc ≤ 9223372036854775807 ∧ j ≤ len) (fun _ _ c _ => (len - (RowKit.intOf c).toNat))
  case atStart =>
    exact ⟨false, 4294967296, 0, rfl, rfl, rfl, by (repeat (first | with_reducible assumption | with_reducible exact Below.refl _ _ | ((with_reducible refine Below.setCell ?_ ?_ _); rotate_left; (first | exact Nat.le_refl _ | (dsimp only; omega) | (simp; done) | (simp; omega))) | with_reducible refine below_alloc ?_ _ | with_reducible apply below_drewN | with_reducible apply Below.drew | with_reducible refine below_step ?_ (by assumption))), by simp, by simp [go_sem], by simp [go_sem], by decide, by decide, by omega⟩
  case round =>
    obtain ⟨ov, acc, j, rfl, rfl, rfl, b0, bz, m0, mf, a0, a1, hj⟩ := hrel
    by_cases hi : j = len
    · subst hi
      go_wp2_with (first | (go_at_call 13; refine (cAwake2 _).mono ?_; rintro e w1 ⟨rfl, hB⟩))
      go_ret
      exact ⟨rfl, by (repeat (first | with_reducible assumption | with_reducible exact Below.refl _ _ | ((with_reducible refine Below.setCell ?_ ?_ _); rotate_left; (first | exact Nat.le_refl _ | (dsimp only; omega) | (simp; done) | (simp; omega))) | with_reducible refine below_alloc ?_ _ | with_reducible apply below_drewN | with_reducible apply Below.drew | with_reducible refine below_step ?_ (by assumption)))⟩
    · have hj2 : (j : Int) < len := by omega
      obtain ⟨c0, x0, x1⟩ := HC.out j (by omega)
      have hq := World.block_lt_of_cell? w _ c0
      have c1 := (b0.cell (p := (a.add j)) hq).trans c0
      clear c0
      obtain ⟨x, hx⟩ : ∃ t, f j = t := ⟨_, rfl⟩
      rw [hx] at c1 x0 x1
      clear hx
      have kM := fun b o w => cFMul acc x b o w a0 a1 x0 x1
      have kN := fun w => cFMulNil acc x w a0 a1 x0 x1
      have s0 := sat_lo (rsh (acc * x))
      have s1 := sat_hi (rsh (acc * x))
      obtain ⟨N, hN⟩ : ∃ t, sat (rsh (acc * x)) = t := ⟨_, rfl⟩
      obtain ⟨u, hu⟩ : ∃ t, (!fx (rsh (acc * x))) = t := ⟨_, rfl⟩
      rw [hN] at kN s0 s1
      rw [hN, hu] at kM
      clear hN hu
      have c1a : (wr.alloc (Obj.cells #[.bool false] 25)).cell? (a.add j) = some (.int .i64 x) := cell_later ((Below.refl _ _).alloc (Nat.le_refl _) _) c1
      go_wp2_with (fail)
      go_at_call 11
      refine (kM wr.heap.size false _ (by simp [go_sem]) (by simp [go_sem])).mono ?_
      rintro e w1 ⟨rfl, hM⟩
      have o1 := hM.cell; have of1 := hM.free
      have hne : w.heap.size ≠ wr.heap.size := by omega
      have e1 : (wr.alloc (Obj.cells #[.bool false] 25)).cell? ⟨w.heap.size, 0, none⟩ = some (.bool ov) := cell_later ((Below.refl _ _).alloc (Nat.le_refl _) _) m0
      have e2 : (wr.alloc (Obj.cells #[.bool false] 25)).frozen? ⟨w.heap.size, 0, none⟩ = false := frozen_later ((Below.refl _ _).alloc (Nat.le_refl _) _) m0 mf
      have m1 := mv_cell hM hne e1
      have mf1 := mv_frozen hM hne e1 e2
      have B1 : Below w.heap.size w w1 := below_mv (W := _) (by (repeat (first | with_reducible assumption | with_reducible exact Below.refl _ _ | ((with_reducible refine Below.setCell ?_ ?_ _); rotate_left; (first | exact Nat.le_refl _ | (dsimp only; omega) | (simp; done) | (simp; omega))) | with_reducible refine below_alloc ?_ _ | with_reducible apply below_drewN | with_reducible apply Below.drew | with_reducible refine below_step ?_ (by assumption)))) hM (by omega)
      have hz1 := hM.size
      simp at hz1
      clear hM e1 e2
      have c2 := (B1.cell (p := (a.add j)) hq).trans ((b0.cell (p := (a.add j)) hq).symm.trans c1)
      go_wp2_with (fail)
      go_at_call 11
      refine (kM w.heap.size ov _ m1 mf1).mono ?_
      rintro e w2 ⟨rfl, hM⟩
      have m2 := hM.cell; have mf2 := hM.free
      have o2 := mv_cell hM (show wr.heap.size ≠ w.heap.size from hne.symm) o1
      have of2 := mv_frozen hM (show wr.heap.size ≠ w.heap.size from hne.symm) o1 of1
      have B2 : Below w.heap.size w w2 := below_mv (W := _) B1 hM (by omega)
      have hz2 := hM.size
      have c3 := (B2.cell (p := (a.add j)) hq).trans ((B1.cell (p := (a.add j)) hq).symm.trans c2)
      clear hM
      go_wp2_with (fail)
      go_at_call 11
      refine (kN _).mono ?_
      rintro e w3 ⟨rfl, hB⟩
      have m3 := cell_later hB m2; have mf3 := frozen_later hB m2 mf2
      have o3 := cell_later hB o2
      have B3 : Below w.heap.size w w3 := below_step B2 hB
      have hz3 := hB.size
      clear hB kM kN o1 of1 o2 of2 m1 mf1 m2 mf2 m0 mf c1 c2 c3
      cases ov <;> cases u
      all_goals (try simp only [Bool.false_or, Bool.true_or, Bool.or_false, Bool.or_true] at m3 o3)
      all_goals go_wp2
      all_goals exact ⟨⟨_, N, j + 1, rfl, rfl, by simp, B3, by omega, m3, mf3, s0, s1, by omega⟩, by simp [RowKit.intOf]; omega⟩
theorem walk_FxStaysNil (w : World) : Calls Try.prog 4 #[.slice none 0 0] w fun e w' => e = .returned (.bool true) ∧ Below w.heap.size w w' := by
  go_enter Try.func4, Try.ntmps4
  go_wp2_with (fail)
  refine wp_loop_rounds 1 ?_
  rw [rounds_succ]
  go_wp2_with (first | (go_at_call 13; refine (cAwake2 _).mono ?_; rintro e w1 ⟨rfl, hB⟩))
  go_ret
  exact ⟨rfl, by (repeat (first | with_reducible assumption | with_reducible exact Below.refl _ _ | ((with_reducible refine Below.setCell ?_ ?_ _); rotate_left; (first | exact Nat.le_refl _ | (dsimp only; omega) | (simp; done) | (simp; omega))) | with_reducible refine below_alloc ?_ _ | with_reducible apply below_drewN | with_reducible apply Below.drew | with_reducible refine below_step ?_ (by assumption)))⟩
end Go.Proofs.Ytggpeefijdiiiaa
