/- The contract of chapter 7's answer: sides. -/
import Derived.Test.YtcijddjfadcanaaH8
import Derived.Test.YtcijddjfadcanaaB5
set_option linter.unusedSimpArgs false
set_option linter.unusedVariables false
namespace Go.Proofs.Ytcijddjfadcanaa
open Go.RowKit
set_option maxHeartbeats 2000000 in
theorem c7Side (ax ay bx bY px py : Int) (w : World) :
    Calls Try.prog 11 #[.agg #[.int .i64 ax, .int .i64 ay], .agg #[.int .i64 bx, .int .i64 bY], .agg #[.int .i64 px, .int .i64 py]] w fun e w' => e = .returned (.int .i64 (sd ax ay bx bY px py)) ∧ Below w.heap.size w w' := by
  have k1 := fun q W => c7Near3 q ax ay bx bY px py W
  cases hn : (pn ax ay && pn bx bY && pn px py) with
  | false =>
    have E : Hid (sd ax ay bx bY px py = 0) := Lib.hid (by unfold sd; rw [hn]; rfl)
    rw [hn] at k1
    clear hn
    go_enter Try.func11, Try.ntmps11
    go_wp2_with (fail)
    (go_at_call 22; (with_reducible refine (k1 _ _ (by simp [go_sem]) (by simp [go_sem]) (by simp [go_sem]) (by simp [go_sem]) (by simp [go_sem]) (by simp [go_sem])).mono ?_); rintro e w1 ⟨rfl, hM⟩)
    go_wp2
    go_ret
    exact ⟨by rw [E.out]; rfl, by (repeat (first | with_reducible assumption | with_reducible exact Below.refl _ _ | ((with_reducible refine Below.setCell ?_ ?_ _); rotate_left; (first | exact Nat.le_refl _ | (dsimp only; omega) | (simp; done) | (simp; omega))) | with_reducible refine below_alloc ?_ _ | with_reducible apply below_drewN | with_reducible apply Below.drew | with_reducible refine below_step ?_ (by assumption)))⟩
  | true =>
    have E : Hid (sd ax ay bx bY px py = cmp3 (ar ax ay bx bY px py) 0) := Lib.hid (by unfold sd sgn; rw [hn]; rfl)
    rw [hn] at k1
    simp only [Bool.and_eq_true] at hn
    obtain ⟨⟨ha, hb⟩, hp⟩ := hn
    have k2 := fun W => c7Area ax ay bx bY px py W ha hb hp
    have bd := ar_bd ax ay bx bY px py ha hb hp
    have k3 := fun W => cRSign (ar ax ay bx bY px py) W (by omega)
    clear ha hb hp bd
    generalize sd ax ay bx bY px py = V at *
    generalize cmp3 (ar ax ay bx bY px py) 0 = z at *
    generalize decide (ar ax ay bx bY px py < 0) = g at *
    generalize ((ar ax ay bx bY px py).natAbs : Int) = m at *
    go_enter Try.func11, Try.ntmps11
    go_wp2_with (fail)
    (go_at_call 22; (with_reducible refine (k1 _ _ (by simp [go_sem]) (by simp [go_sem]) (by simp [go_sem]) (by simp [go_sem]) (by simp [go_sem]) (by simp [go_sem])).mono ?_); rintro e w1 ⟨rfl, hM⟩)
    have c0 := cell_later (a := ⟨w.heap.size, 0, none⟩) (v := .int .i64 ax) hM (by simp [go_sem])
    have c1 := cell_later (a := ⟨w.heap.size, 1, none⟩) (v := .int .i64 ay) hM (by simp [go_sem])
    have c2 := cell_later (a := ⟨w.heap.size + 1, 0, none⟩) (v := .int .i64 bx) hM (by simp [go_sem])
    have c3 := cell_later (a := ⟨w.heap.size + 1, 1, none⟩) (v := .int .i64 bY) hM (by simp [go_sem])
    have c4 := cell_later (a := ⟨w.heap.size + 1 + 1, 0, none⟩) (v := .int .i64 px) hM (by simp [go_sem])
    have c5 := cell_later (a := ⟨w.heap.size + 1 + 1, 1, none⟩) (v := .int .i64 py) hM (by simp [go_sem])
    have HB : Below w.heap.size w w1 := by (repeat (first | with_reducible assumption | with_reducible exact Below.refl _ _ | ((with_reducible refine Below.setCell ?_ ?_ _); rotate_left; (first | exact Nat.le_refl _ | (dsimp only; omega) | (simp; done) | (simp; omega))) | with_reducible refine below_alloc ?_ _ | with_reducible apply below_drewN | with_reducible apply Below.drew | with_reducible refine below_step ?_ (by assumption)))
    go_wp2_with (first | (go_at_call 24; (with_reducible refine (k2 _).mono ?_); rintro e w1 ⟨rfl, hM⟩) | (go_at_call 23; (with_reducible refine (k3 _).mono ?_); rintro e w1 ⟨rfl, hM⟩))
    go_ret
    exact ⟨by rw [E.out]; rfl, by (repeat (first | with_reducible assumption | with_reducible exact Below.refl _ _ | ((with_reducible refine Below.setCell ?_ ?_ _); rotate_left; (first | exact Nat.le_refl _ | (dsimp only; omega) | (simp; done) | (simp; omega))) | with_reducible refine below_alloc ?_ _ | with_reducible apply below_drewN | with_reducible apply Below.drew | with_reducible refine below_step ?_ (by assumption)))⟩
end Go.Proofs.Ytcijddjfadcanaa
