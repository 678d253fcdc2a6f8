/- The walk of chapter 49's example, and a disc as the document's. -/
import Derived.Test.YtgdoaibgcjdklaaN5
set_option linter.unusedSimpArgs false
set_option linter.unusedVariables false
namespace Go.Proofs.Ytgdoaibgcjdklaa
open Go.RowKit
set_option maxHeartbeats 2000000 in
theorem cPlain9 (ax ay vx vy s m : Int) (w : World) : Calls Try.prog 9 #[.agg #[.int .i64 ax, .int .i64 ay, .int .i64 vx, .int .i64 vy, .int .i64 s, .int .i64 m]] w fun e w' => e = .returned (.agg #[.int .i64 ax, .int .i64 ay, .int .i64 vx, .int .i64 vy, .int .i64 s, .int .i64 m]) ∧ Below w.heap.size w w' := by
  go_enter Try.func9, Try.ntmps9
  go_wp2
  simp (maxDischargeDepth := 8) [bodyPost, results, Try.results9, go_sem, *]
  (repeat (first | with_reducible assumption | with_reducible exact Below.refl _ _ | ((with_reducible refine Below.setCell ?_ ?_ _); rotate_left; (first | exact Nat.le_refl _ | (dsimp only; omega) | (simp; done) | (simp; omega))) | with_reducible refine below_alloc ?_ _ | with_reducible apply below_drewN | with_reducible apply Below.drew | with_reducible refine below_step ?_ (by assumption)))
theorem aw_n : sqs (sat (6442450944 - 0)) (sat (0 - 0)) = 6442450944 := by
  rw [show sat (6442450944 - 0) = 6442450944 by decide, show sat (0 - 0) = 0 by decide]
  unfold sqs ln lnok
  rw [rt_unique (6442450944 * 6442450944 + 0 * 0) 6442450944 (by decide) (by decide) (by decide)]
  decide
theorem aw_l : lnok (sat (6442450944 - 0) * sat (6442450944 - 0) + sat (0 - 0) * sat (0 - 0)) = true := by
  rw [show sat (6442450944 - 0) = 6442450944 by decide, show sat (0 - 0) = 0 by decide]
  unfold lnok
  rw [rt_unique (6442450944 * 6442450944 + 0 * 0) 6442450944 (by decide) (by decide) (by decide)]
  decide
theorem aw_ap : apok 0 0 6442450944 0 4294967296 4294967296 = true := by
  unfold apok
  rw [aw_n, aw_l]
  decide
set_option maxHeartbeats 4000000 in
theorem cAwake9 (w : World) : Calls Try.prog 12 #[] w fun e w' => e = .returned (.bool true) ∧ Below w.heap.size w w' := by
  have k1 := fun W => cBumpY 0 0 17179869184 0 4294967296 274877906944 6442450944 0 0 0 4294967296 274877906944 4294967296 w.heap.size false W (by decide) (by decide) (by decide) (by decide) 4294967296 0 6442450944 true
    (by rw [aw_n]; decide) (by rw [aw_n]; decide) aw_n (by decide) (by decide) (by decide) (by decide) (by decide)
  rw [aw_ap, show bcl 4294967296 0 17179869184 0 0 0 = 17179869184 by decide, show bclok 4294967296 0 17179869184 0 0 0 = true by decide, show bsh 17179869184 4294967296 274877906944 274877906944 = 268435456 by decide,
    show bshok 17179869184 4294967296 274877906944 274877906944 = true by decide, show ml 268435456 274877906944 = 17179869184 by decide, show tn true 17179869184 4294967296 17179869184 = 0 by decide, show tn true 0 0 17179869184 = 0 by decide,
    show tn false 0 4294967296 17179869184 = 17179869184 by decide, show tn false 0 0 17179869184 = 0 by decide, show turnok 268435456 274877906944 274877906944 17179869184 0 0 0 4294967296 0 = true by decide] at k1
  simp only [Bool.true_and, decide_true, if_true, show decide ((0 : Int) < 17179869184) = true from by decide, Bool.not_true, Bool.or_false, Bool.and_false, Bool.or_self, Bool.and_self, Bool.false_and] at k1
  have k2 := fun W => cApart 0 0 17179869184 0 4294967296 274877906944 6442450944 0 0 0 4294967296 274877906944 w.heap.size false W (by decide) (by decide) (by decide) (by decide) (by decide) (by decide) (by decide) (by decide) (by decide) (by decide) (by decide) (by decide)
  rw [aw_ap, aw_n, show uq (sat (6442450944 - 0)) 6442450944 = 4294967296 by decide, show uq (sat (0 - 0)) 6442450944 = 0 by decide, show tou 6442450944 4294967296 4294967296 = true by decide] at k2
  simp only [Bool.not_true, Bool.or_false] at k2
  have k3 := fun W => cBRight 0 0 17179869184 0 4294967296 274877906944 W (by decide) (by decide) (by decide) (by decide)
  rw [show drn 0 0 17179869184 0 4294967296 274877906944 = 0 by decide] at k3
  have k4 := fun W => cBRight 0 0 0 0 0 0 W (by decide) (by decide) (by decide) (by decide)
  rw [show drn 0 0 0 0 0 0 = 40 by decide] at k4
  go_enter Try.func12, Try.ntmps12
  go_wp2_with (fail)
  (go_at_call 13; (with_reducible refine (k1 _ (by simp [go_sem]) (by simp [go_sem])).mono ?_); rintro e w1 ⟨rfl, hM⟩)
  have HT : On w.heap.size false w w1 := On.start (by (repeat (first | with_reducible assumption | with_reducible exact Below.refl _ _ | ((with_reducible refine Below.setCell ?_ ?_ _); rotate_left; (first | exact Nat.le_refl _ | (dsimp only; omega) | (simp; done) | (simp; omega))) | with_reducible refine below_alloc ?_ _ | with_reducible apply below_drewN | with_reducible apply Below.drew | with_reducible refine below_step ?_ (by assumption)))) hM (Nat.le_refl _)
  have A : Bk (w.heap.size + 1) 0 [.int .i64 0, .int .i64 0, .int .i64 17179869184, .int .i64 0, .int .i64 4294967296, .int .i64 274877906944] w1 := Bk.mv hM (by omega) (by simp [Bk, go_sem]; done)
  have B : Bk (w.heap.size + 1 + 1) 0 [.int .i64 6442450944, .int .i64 0, .int .i64 0, .int .i64 0, .int .i64 4294967296, .int .i64 274877906944] w1 := Bk.mv hM (by omega) (by simp [Bk, go_sem]; done)
  have C_A := A; simp only [Bk] at C_A
  have C_B := B; simp only [Bk] at C_B
  have hz := World.block_lt_of_cell? w1 _ B.1
  dsimp only at hz
  rename World => g
  clear hM k1
  go_wp2_with (fail)
  (go_at_call 7; (with_reducible refine (On.call (by (repeat (first | with_reducible assumption | with_reducible apply On.alloc | with_reducible apply On.drew | ((with_reducible apply On.after); rotate_left; (with_reducible assumption)) | ((with_reducible apply On.setCell); rotate_left; (first | (dsimp only; omega) | omega | (simp; omega)); (first | (dsimp only; omega) | omega | (simp; omega)); (first | (dsimp only; omega) | omega | (simp; omega)))))) (k2 _)).mono ?_); rintro e w1 ⟨rfl, hM, HT⟩)
  have V0 : Bk g.heap.size 0 [.int .i64 0, .int .i64 0] w1 := Bk.mv hM (by omega) (by simp [Bk, go_sem]; done)
  have V1 : Bk (g.heap.size + 1) 0 [.int .i64 17179869184, .int .i64 0] w1 := Bk.mv hM (by omega) (by simp [Bk, go_sem]; done)
  have A : Bk (w.heap.size + 1) 0 [.int .i64 0, .int .i64 0, .int .i64 17179869184, .int .i64 0, .int .i64 4294967296, .int .i64 274877906944] w1 := Bk.mv hM (by omega) (Bk.alloc (Bk.alloc A _) _)
  have C_A := A; simp only [Bk] at C_A
  have C_V0 := V0; simp only [Bk] at C_V0
  have C_V1 := V1; simp only [Bk] at C_V1
  have Q : Bk w.heap.size 0 [.bool false] w1 := ⟨HT.cb, HT.fb, trivial⟩
  have C_Q := Q; simp only [Bk] at C_Q
  clear hM k2 B C_B
  have HB := HT.below
  go_wp2_with (first | (go_at_call 10; (with_reducible refine (k3 _).mono ?_); rintro e9 w1 ⟨rfl, hM⟩; (first | have HB : Below w.heap.size w _ := below_step HB hM | have HB : Below w.heap.size w _ := below_step (W := _) (by (repeat (first | with_reducible assumption | with_reducible exact Below.refl _ _ | ((with_reducible refine Below.setCell ?_ ?_ _); rotate_left; (first | exact Nat.le_refl _ | (dsimp only; omega) | (simp; done) | (simp; omega))) | with_reducible refine below_alloc ?_ _ | with_reducible apply below_drewN | with_reducible apply Below.drew | with_reducible refine below_step ?_ (by assumption)))) hM); (first | have A := Bk.later A hM | have A := Bk.later (Bk.alloc A _) hM | have A := Bk.later (Bk.alloc (Bk.alloc A _) _) hM); have C_A := A; simp only [Bk] at C_A; (first | have V0 := Bk.later V0 hM | have V0 := Bk.later (Bk.alloc V0 _) hM | have V0 := Bk.later (Bk.alloc (Bk.alloc V0 _) _) hM); have C_V0 := V0; simp only [Bk] at C_V0; (first | have V1 := Bk.later V1 hM | have V1 := Bk.later (Bk.alloc V1 _) hM | have V1 := Bk.later (Bk.alloc (Bk.alloc V1 _) _) hM); have C_V1 := V1; simp only [Bk] at C_V1; (first | have Q := Bk.later Q hM | have Q := Bk.later (Bk.alloc Q _) hM | have Q := Bk.later (Bk.alloc (Bk.alloc Q _) _) hM); have C_Q := Q; simp only [Bk] at C_Q) | (go_at_call 10; (with_reducible refine (k4 _).mono ?_); rintro e9 w1 ⟨rfl, hM⟩; (first | have HB : Below w.heap.size w _ := below_step HB hM | have HB : Below w.heap.size w _ := below_step (W := _) (by (repeat (first | with_reducible assumption | with_reducible exact Below.refl _ _ | ((with_reducible refine Below.setCell ?_ ?_ _); rotate_left; (first | exact Nat.le_refl _ | (dsimp only; omega) | (simp; done) | (simp; omega))) | with_reducible refine below_alloc ?_ _ | with_reducible apply below_drewN | with_reducible apply Below.drew | with_reducible refine below_step ?_ (by assumption)))) hM); (first | have A := Bk.later A hM | have A := Bk.later (Bk.alloc A _) hM | have A := Bk.later (Bk.alloc (Bk.alloc A _) _) hM); have C_A := A; simp only [Bk] at C_A; (first | have V0 := Bk.later V0 hM | have V0 := Bk.later (Bk.alloc V0 _) hM | have V0 := Bk.later (Bk.alloc (Bk.alloc V0 _) _) hM); have C_V0 := V0; simp only [Bk] at C_V0; (first | have V1 := Bk.later V1 hM | have V1 := Bk.later (Bk.alloc V1 _) hM | have V1 := Bk.later (Bk.alloc (Bk.alloc V1 _) _) hM); have C_V1 := V1; simp only [Bk] at C_V1; (first | have Q := Bk.later Q hM | have Q := Bk.later (Bk.alloc Q _) hM | have Q := Bk.later (Bk.alloc (Bk.alloc Q _) _) hM); have C_Q := Q; simp only [Bk] at C_Q))
  go_ret
  exact ⟨rfl, by first | exact HB | (repeat (first | with_reducible assumption | with_reducible exact Below.refl _ _ | ((with_reducible refine Below.setCell ?_ ?_ _); rotate_left; (first | exact Nat.le_refl _ | (dsimp only; omega) | (simp; done) | (simp; omega))) | with_reducible refine below_alloc ?_ _ | with_reducible apply below_drewN | with_reducible apply Below.drew | with_reducible refine below_step ?_ (by assumption)))⟩
end Go.Proofs.Ytgdoaibgcjdklaa
