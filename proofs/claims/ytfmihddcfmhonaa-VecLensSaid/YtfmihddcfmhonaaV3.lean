/- The walk of chapter 5's example. -/
import Derived.Test.YtfmihddcfmhonaaV2
import Derived.Test.YtfmihddcfmhonaaM1
namespace Go.Proofs.Ytfmihddcfmhonaa
open Go.RowKit
set_option maxHeartbeats 1000000 in
theorem cAwake5 (w : World) : Calls Try.prog 12 #[] w fun e w' => e = .returned (.bool true) ∧ Below w.heap.size w w' := by
  have k1 := fun W => cVCross 4294967296 0 0 0 4294967296 0 w.heap.size false W (by decide) (by decide) (by decide) (by decide) (by decide) (by decide) (by decide) (by decide) (by decide) (by decide) (by decide) (by decide)
  rw [show cr 0 0 0 4294967296 = 0 by decide, show cr 0 0 4294967296 0 = 0 by decide, show cr 4294967296 4294967296 0 0 = 4294967296 by decide, show xok 4294967296 0 0 0 4294967296 0 = true by decide] at k1
  have k2 := fun W => cVDot 4294967296 0 8589934592 12884901888 0 4294967296 w.heap.size false W (by decide) (by decide) (by decide) (by decide) (by decide) (by decide) (by decide) (by decide) (by decide) (by decide) (by decide) (by decide)
  rw [show dt 4294967296 0 8589934592 12884901888 0 4294967296 = 21474836480 by decide, show dtok 4294967296 0 8589934592 12884901888 0 4294967296 = true by decide] at k2
  go_enter Try.func12, Try.ntmps12
  go_wp2_with (fail)
  (go_at_call 10; (with_reducible refine (k1 _ (by simp [go_sem]) (by simp [go_sem])).mono ?_); rintro e w1 ⟨rfl, hM⟩)
  have HT : On w.heap.size false w w1 := On.start (by (repeat (first | with_reducible assumption | with_reducible exact Below.refl _ _ | ((with_reducible refine Below.setCell ?_ ?_ _); rotate_left; (first | exact Nat.le_refl _ | (dsimp only; omega) | (simp; done) | (simp; omega))) | with_reducible refine below_alloc ?_ _ | with_reducible apply below_drewN | with_reducible apply Below.drew | with_reducible refine below_step ?_ (by assumption)))) hM (Nat.le_refl _)
  go_wp2_with (fail)
  (go_at_call 8; (with_reducible refine (On.call (by (repeat (first | with_reducible assumption | with_reducible apply On.alloc | with_reducible apply On.drew | ((with_reducible apply On.after); rotate_left; (with_reducible assumption)) | ((with_reducible apply On.setCell); rotate_left; (first | (dsimp only; omega) | omega | (simp; omega)); (first | (dsimp only; omega) | omega | (simp; omega)); (first | (dsimp only; omega) | omega | (simp; omega)))))) (k2 _)).mono ?_); rintro e w2 ⟨rfl, hM, HT⟩)
  have hc := HT.cb
  go_wp2
  go_ret
  exact ⟨rfl, HT.below⟩
end Go.Proofs.Ytfmihddcfmhonaa
