/- The walk of SplineClose. -/
import Derived.Test.YthieinnlpfdemaaS13
set_option linter.unusedSimpArgs false
set_option linter.unusedVariables false
namespace Go.Proofs.Ythieinnlpfdemaa
open Go.RowKit
theorem cSquare (x y px py : Int) (w : World) (h1 : pn x y = true) (h2 : pn px py = true) : Calls Try.prog 23 #[.agg #[.int .i64 x, .int .i64 y], .agg #[.int .i64 px, .int .i64 py]] w fun e w' => e = .returned (.agg #[.int .i64 (hw ((x - px) * (x - px) + (y - py) * (y - py))), .int .u64 (lw ((x - px) * (x - px) + (y - py) * (y - py)))]) ∧ Below w.heap.size w w' := by
  obtain ⟨D0, D1, ⟨⟨u0, u1⟩, v0, v1⟩, ⟨s0, s1⟩, s2, s3⟩ := sq2_bd (fun _ => x) (fun _ => y) px py 0 h1 h2
  unfold sq2 at D0 D1
  clear h1 h2
  have kM1 := fun W => cWMul (x - px) (x - px) W (by omega) (by omega) (by omega) (by omega)
  have kM2 := fun W => cWMul (y - py) (y - py) W (by omega) (by omega) (by omega) (by omega)
  have kA := fun W => nWAdd ((x - px) * (x - px)) ((y - py) * (y - py)) W (by omega) (by omega) (by omega) (by omega)
  rw [cw_yes _ (by omega) (by omega), fw_yes _ (by omega) (by omega)] at kA
  have wx1 : IntKind.i64.wrap (x - px) = x - px := by have := IntWalk.i64_in (x - px) ⟨by omega, by omega⟩; exact this
  have wy1 : IntKind.i64.wrap (y - py) = y - py := by have := IntWalk.i64_in (y - py) ⟨by omega, by omega⟩; exact this
  generalize (x - px) * (x - px) + (y - py) * (y - py) = D at *
  generalize (x - px) * (x - px) = xx at *
  generalize (y - py) * (y - py) = yy at *
  generalize hdx : x - px = dx at *
  generalize hdy : y - py = dy at *
  go_enter Try.func23, Try.ntmps23
  go_wp2_with (fail)
  (go_at_call 43; (with_reducible refine (kM1 _).mono ?_); rintro e w1 ⟨rfl, hM⟩; have hr := cell_later (a := ⟨w.heap.size + 1 + 1, 0, none⟩) (v := .int .i64 0) hM (by first | assumption | (simp (maxDischargeDepth := 6) [go_sem, *]; done)); have hg := frozen_later (a := ⟨w.heap.size + 1 + 1, 0, none⟩) (v := .int .i64 0) hM (by first | assumption | (simp (maxDischargeDepth := 6) [go_sem, *]; done)) (by first | assumption | (simp (maxDischargeDepth := 6) [go_sem, *]; done)); have hr := cell_later (a := ⟨w.heap.size + 1 + 1, 1, none⟩) (v := .int .u64 0) hM (by first | assumption | (simp (maxDischargeDepth := 6) [go_sem, *]; done)); have hg := frozen_later (a := ⟨w.heap.size + 1 + 1, 1, none⟩) (v := .int .u64 0) hM (by first | assumption | (simp (maxDischargeDepth := 6) [go_sem, *]; done)) (by first | assumption | (simp (maxDischargeDepth := 6) [go_sem, *]; done)))
  clear kM1
  go_wp2_with (fail)
  (go_at_call 43; (with_reducible refine (kM2 _).mono ?_); rintro e w1 ⟨rfl, hM⟩; have hr := cell_later (a := ⟨w.heap.size + 1 + 1, 0, none⟩) (v := .int .i64 0) hM (by first | assumption | (simp (maxDischargeDepth := 6) [go_sem, *]; done)); have hg := frozen_later (a := ⟨w.heap.size + 1 + 1, 0, none⟩) (v := .int .i64 0) hM (by first | assumption | (simp (maxDischargeDepth := 6) [go_sem, *]; done)) (by first | assumption | (simp (maxDischargeDepth := 6) [go_sem, *]; done)); have hr := cell_later (a := ⟨w.heap.size + 1 + 1, 1, none⟩) (v := .int .u64 0) hM (by first | assumption | (simp (maxDischargeDepth := 6) [go_sem, *]; done)); have hg := frozen_later (a := ⟨w.heap.size + 1 + 1, 1, none⟩) (v := .int .u64 0) hM (by first | assumption | (simp (maxDischargeDepth := 6) [go_sem, *]; done)) (by first | assumption | (simp (maxDischargeDepth := 6) [go_sem, *]; done)))
  clear kM2
  go_wp2_with (fail)
  (go_at_call 42; (with_reducible refine (kA _).mono ?_); rintro e w1 ⟨rfl, hM⟩; have hr := cell_later (a := ⟨w.heap.size + 1 + 1, 0, none⟩) (v := .int .i64 0) hM (by first | assumption | (simp (maxDischargeDepth := 6) [go_sem, *]; done)); have hg := frozen_later (a := ⟨w.heap.size + 1 + 1, 0, none⟩) (v := .int .i64 0) hM (by first | assumption | (simp (maxDischargeDepth := 6) [go_sem, *]; done)) (by first | assumption | (simp (maxDischargeDepth := 6) [go_sem, *]; done)); have hr := cell_later (a := ⟨w.heap.size + 1 + 1, 1, none⟩) (v := .int .u64 0) hM (by first | assumption | (simp (maxDischargeDepth := 6) [go_sem, *]; done)); have hg := frozen_later (a := ⟨w.heap.size + 1 + 1, 1, none⟩) (v := .int .u64 0) hM (by first | assumption | (simp (maxDischargeDepth := 6) [go_sem, *]; done)) (by first | assumption | (simp (maxDischargeDepth := 6) [go_sem, *]; done)))
  clear kA
  have hz := World.block_lt_of_cell? w1 ⟨w.heap.size + 1 + 1, 1, none⟩ hr
  dsimp only at hz
  go_wp2
  simp [bodyPost, results, Try.results23, go_sem, *]
  (repeat (first | with_reducible assumption | with_reducible exact Below.refl _ _ | ((with_reducible refine Below.setCell ?_ ?_ _); rotate_left; (first | exact Nat.le_refl _ | (dsimp only; omega) | (simp; done) | (simp; omega))) | with_reducible refine below_alloc ?_ _ | with_reducible apply below_drewN | with_reducible apply Below.drew | with_reducible refine below_step ?_ (by assumption)))
end Go.Proofs.Ythieinnlpfdemaa
