/- The walks of TrigTable, TrigSin, TrigTowards. -/
import Derived.Test.YtdbbandpobifhaaL4a
import Derived.Test.YtdbbandpobifhaaT6
set_option linter.unusedSimpArgs false
set_option linter.unusedVariables false
namespace Go.Proofs.Ytdbbandpobifhaa
open Go.RowKit
set_option maxHeartbeats 4000000 in
theorem walk_TrigTable (x0 : Int) (w : World) (x0_0 : -9223372036854775808 ≤ x0) (x0_1 : x0 ≤ 9223372036854775807) :
    Calls Try.prog 3 #[.int .i64 x0] w fun e w' => e = .returned (.bool true) ∧ Below w.heap.size w w' := by
  have k1 := fun W => cTable x0 W x0_0 x0_1
  have k2 := fun W => cRTable x0 W x0_0 x0_1
  generalize tbz x0 = z at *
  go_enter Try.func3, Try.ntmps3
  go_wp2_with (first | (go_at_call 10; (with_reducible refine (k1 _).mono ?_); rintro e w1 ⟨rfl, hM⟩) | (go_at_call 11; (with_reducible refine (k2 _).mono ?_); rintro e w1 ⟨rfl, hM⟩) | (go_at_call 12; (with_reducible refine (cAwake4 _).mono ?_); rintro e w1 ⟨rfl, hM⟩))
  go_ret
  exact ⟨rfl, by (repeat (first | with_reducible assumption | with_reducible exact Below.refl _ _ | ((with_reducible refine Below.setCell ?_ ?_ _); rotate_left; (first | exact Nat.le_refl _ | (dsimp only; omega) | (simp; done) | (simp; omega))) | with_reducible refine below_alloc ?_ _ | with_reducible apply below_drewN | with_reducible apply Below.drew | with_reducible refine below_step ?_ (by assumption)))⟩
set_option maxHeartbeats 4000000 in
theorem walk_TrigSin (x0 : Int) (w : World) (x0_0 : 0 ≤ x0) (x0_1 : x0 ≤ 4294967295) :
    Calls Try.prog 4 #[.int .u32 x0] w fun e w' => e = .returned (.bool true) ∧ Below w.heap.size w w' := by
  have k1 := fun W => cSin x0 W x0_0 x0_1
  have k2 := fun W => cRSin x0 W x0_0 x0_1
  have k3 := fun W => cCos x0 W x0_0 x0_1
  have k4 := fun W => cRCos x0 W x0_0 x0_1
  generalize sinv x0 = s at *
  generalize cosv x0 = c at *
  go_enter Try.func4, Try.ntmps4
  go_wp2_with (first | (go_at_call 13; (with_reducible refine (k1 _).mono ?_); rintro e w1 ⟨rfl, hM⟩) | (go_at_call 14; (with_reducible refine (k2 _).mono ?_); rintro e w1 ⟨rfl, hM⟩) | (go_at_call 15; (with_reducible refine (k3 _).mono ?_); rintro e w1 ⟨rfl, hM⟩) | (go_at_call 16; (with_reducible refine (k4 _).mono ?_); rintro e w1 ⟨rfl, hM⟩) | (go_at_call 12; (with_reducible refine (cAwake4 _).mono ?_); rintro e w1 ⟨rfl, hM⟩))
  go_ret
  exact ⟨rfl, by (repeat (first | with_reducible assumption | with_reducible exact Below.refl _ _ | ((with_reducible refine Below.setCell ?_ ?_ _); rotate_left; (first | exact Nat.le_refl _ | (dsimp only; omega) | (simp; done) | (simp; omega))) | with_reducible refine below_alloc ?_ _ | with_reducible apply below_drewN | with_reducible apply Below.drew | with_reducible refine below_step ?_ (by assumption)))⟩
set_option maxHeartbeats 4000000 in
theorem walk_TrigTowards (x0 x1 : Int) (w : World) (x0_0 : -9223372036854775808 ≤ x0) (x0_1 : x0 ≤ 9223372036854775807) (x1_0 : -9223372036854775808 ≤ x1) (x1_1 : x1 ≤ 9223372036854775807) :
    Calls Try.prog 5 #[.int .i64 x0, .int .i64 x1] w fun e w' => e = .returned (.bool true) ∧ Below w.heap.size w w' := by
  obtain ⟨d, hd⟩ := isT_ex (max x0 (-9223372036854775807)) (max x1 (-9223372036854775807))
  have hb := isT_bd hd
  have k1 := fun W => cTow x0 x1 d W (by omega) (by omega) (by omega) (by omega) hd
  have k2 := fun W => cRTow x0 x1 d W (by omega) (by omega) (by omega) (by omega) hd
  clear hd
  go_enter Try.func5, Try.ntmps5
  go_wp2_with (first | (go_at_call 17; (with_reducible refine (k1 _).mono ?_); rintro e w1 ⟨rfl, hM⟩) | (go_at_call 18; (with_reducible refine (k2 _).mono ?_); rintro e w1 ⟨rfl, hM⟩) | (go_at_call 12; (with_reducible refine (cAwake4 _).mono ?_); rintro e w1 ⟨rfl, hM⟩))
  go_ret
  exact ⟨rfl, by (repeat (first | with_reducible assumption | with_reducible exact Below.refl _ _ | ((with_reducible refine Below.setCell ?_ ?_ _); rotate_left; (first | exact Nat.le_refl _ | (dsimp only; omega) | (simp; done) | (simp; omega))) | with_reducible refine below_alloc ?_ _ | with_reducible apply below_drewN | with_reducible apply Below.drew | with_reducible refine below_step ?_ (by assumption)))⟩
end Go.Proofs.Ytdbbandpobifhaa
