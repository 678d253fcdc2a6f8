/- The contracts of the document's numbers: Sign, Cmp, Add. -/
import Derived.Test.YthieinnlpfdemaaB4
import Derived.Test.YthieinnlpfdemaaW0
set_option linter.unusedSimpArgs false
set_option linter.unusedVariables false
namespace Go.Proofs.Ythieinnlpfdemaa
open Go.RowKit
theorem cRSign (v : Int) (w : World) (h0 : (v.natAbs : Int) ≤ 340282366920938463463374607431768211455) :
    Calls Try.prog 70 #[.agg #[.bool (decide (v < 0)), .int .u64 (d0 (v.natAbs)), .int .u64 (d1 (v.natAbs)), .int .u64 (d2 (v.natAbs)), .int .u64 (d3 (v.natAbs))]] w fun e w' => e = .returned (.int .i64 (cmp3 v 0)) ∧ Below w.heap.size w w' := by
  rcases (show v = 0 ∨ v < 0 ∨ 0 < v by omega) with h | h | h
  · subst h
    go_enter Try.func70, Try.ntmps70
    go_wp2_with (first | (go_at_call 66; refine (cRZero _ _ _ (by omega) (by omega)).mono ?_; rintro e w1 ⟨rfl, hB⟩))
    go_ret
    exact ⟨rfl, by (repeat (first | with_reducible assumption | with_reducible exact Below.refl _ _ | ((with_reducible refine Below.setCell ?_ ?_ _); rotate_left; (first | exact Nat.le_refl _ | (dsimp only; omega) | (simp; done) | (simp; omega))) | with_reducible refine below_alloc ?_ _ | with_reducible apply below_drewN | with_reducible apply Below.drew | with_reducible refine below_step ?_ (by assumption)))⟩
  · have z : decide ((v.natAbs : Int) = 0) = false := decide_eq_false (by omega)
    have n : decide (v < 0) = true := decide_eq_true h
    have c : cmp3 v 0 = -1 := by unfold cmp3; rw [if_pos h]
    go_enter Try.func70, Try.ntmps70
    go_wp2_with (first | (go_at_call 66; refine (cRZero _ _ _ (by omega) (by omega)).mono ?_; rintro e w1 ⟨rfl, hB⟩; have q0 := cell_later (a := ⟨w.heap.size, 0, none⟩) (v := .bool (decide (v < 0))) hB (by simp [go_sem, *])))
    go_ret
    exact ⟨by rw [c]; rfl, by (repeat (first | with_reducible assumption | with_reducible exact Below.refl _ _ | ((with_reducible refine Below.setCell ?_ ?_ _); rotate_left; (first | exact Nat.le_refl _ | (dsimp only; omega) | (simp; done) | (simp; omega))) | with_reducible refine below_alloc ?_ _ | with_reducible apply below_drewN | with_reducible apply Below.drew | with_reducible refine below_step ?_ (by assumption)))⟩
  · have z : decide ((v.natAbs : Int) = 0) = false := decide_eq_false (by omega)
    have n : decide (v < 0) = false := decide_eq_false (by omega)
    have c : cmp3 v 0 = 1 := by unfold cmp3; rw [if_neg (by omega), if_pos h]
    go_enter Try.func70, Try.ntmps70
    go_wp2_with (first | (go_at_call 66; refine (cRZero _ _ _ (by omega) (by omega)).mono ?_; rintro e w1 ⟨rfl, hB⟩; have q0 := cell_later (a := ⟨w.heap.size, 0, none⟩) (v := .bool (decide (v < 0))) hB (by simp [go_sem, *])))
    go_ret
    exact ⟨by rw [c]; rfl, by (repeat (first | with_reducible assumption | with_reducible exact Below.refl _ _ | ((with_reducible refine Below.setCell ?_ ?_ _); rotate_left; (first | exact Nat.le_refl _ | (dsimp only; omega) | (simp; done) | (simp; omega))) | with_reducible refine below_alloc ?_ _ | with_reducible apply below_drewN | with_reducible apply Below.drew | with_reducible refine below_step ?_ (by assumption)))⟩
theorem eqAr (d : Nat) (a0 a1 a2 a3 b0 b1 b2 b3 : Int) (w : World) : Sem.run Try.prog (Op.equalIn (d + 2) 71 (.agg #[.int .u64 a0, .int .u64 a1, .int .u64 a2, .int .u64 a3]) (.agg #[.int .u64 b0, .int .u64 b1, .int .u64 b2, .int .u64 b3])) w = .ok (a0 == b0 && a1 == b1 && a2 == b2 && a3 == b3) w := by
  have hu : Try.prog.underlying 71 = some (.array 4 48) := by kernel_rfl
  have hv : Try.prog.underlying 48 = some (.int .u64) := by kernel_rfl
  have he : ∀ (a b : Int) (w : World), Sem.run Try.prog (Op.equalIn (d + 1) 48 (.int .u64 a) (.int .u64 b)) w = .ok (a == b) w := fun a b w => run_equalIn_int w d _ _ _ a b hv
  rw [Op.equalIn.eq_def]
  simp only [Sem.run_bind, run_underlying hu, Result.andThen_ok]
  simp [go_sem, he]
  rw [show List.range' 0 4 = [0, 1, 2, 3] from rfl]
  by_cases h0 : a0 = b0 <;> by_cases h1 : a1 = b1 <;> by_cases h2 : a2 = b2 <;> by_cases h3 : a3 = b3 <;> simp [go_sem, he, h0, h1, h2, h3]
theorem eqDg (m n : Int) (hm : 0 ≤ m) (hm' : m ≤ 340282366920938463463374607431768211455) (hn : 0 ≤ n) (hn' : n ≤ 340282366920938463463374607431768211455) (w : World) :
    Sem.run Try.prog (Op.equalIn 10000 71 (.agg #[.int .u64 (d0 (m)), .int .u64 (d1 (m)), .int .u64 (d2 (m)), .int .u64 (d3 (m))]) (.agg #[.int .u64 (d0 (n)), .int .u64 (d1 (n)), .int .u64 (d2 (n)), .int .u64 (d3 (n))])) w = .ok (decide (m = n)) w := by
  rw [show (10000 : Nat) = 9998 + 2 from rfl, eqAr]
  have em := dg m hm hm'
  have en := dg n hn hn'
  have a0 := d0_bd m; have a1 := d1_bd m; have a2 := d2_bd m; have a3 := d3_bd m
  have b0 := d0_bd n; have b1 := d1_bd n; have b2 := d2_bd n; have b3 := d3_bd n
  generalize d0 m = x0 at *; generalize d1 m = x1 at *; generalize d2 m = x2 at *; generalize d3 m = x3 at *
  generalize d0 n = y0 at *; generalize d1 n = y1 at *; generalize d2 n = y2 at *; generalize d3 n = y3 at *
  congr 1
  rw [Bool.eq_iff_iff]
  simp
  omega
theorem cRCmpA (x y : Int) (w : World) (h0 : (x.natAbs : Int) ≤ 340282366920938463463374607431768211455) (h1 : (y.natAbs : Int) ≤ 340282366920938463463374607431768211455) (hn : (cmp3 x 0 != cmp3 y 0) = true) :
    Calls Try.prog 46 #[.agg #[.bool (decide (x < 0)), .int .u64 (d0 (x.natAbs)), .int .u64 (d1 (x.natAbs)), .int .u64 (d2 (x.natAbs)), .int .u64 (d3 (x.natAbs))], .agg #[.bool (decide (y < 0)), .int .u64 (d0 (y.natAbs)), .int .u64 (d1 (y.natAbs)), .int .u64 (d2 (y.natAbs)), .int .u64 (d3 (y.natAbs))]] w fun e w' => e = .returned (.int .i64 (cmp3 x y)) ∧ Below w.heap.size w w' := by
  obtain ⟨b, hb⟩ : ∃ b, decide (cmp3 x 0 < cmp3 y 0) = b := ⟨_, rfl⟩
  have R : Hid (cmp3 x y = if b = true then -1 else 1) := Lib.hid (by subst hb; unfold cmp3 at *; split <;> split <;> simp_all <;> omega)
  go_enter Try.func46, Try.ntmps46
  go_upto_region 1 with (fail)
  go_region_held3 (fun w' => w'.cell? ⟨w.heap.size, 0, none⟩ = some (.bool (decide (x < 0))) ∧ w'.cell? ⟨w.heap.size, 1, none⟩ = some (.int .u64 (d0 (x.natAbs))) ∧ w'.cell? ⟨w.heap.size, 2, none⟩ = some (.int .u64 (d1 (x.natAbs))) ∧ w'.cell? ⟨w.heap.size, 3, none⟩ = some (.int .u64 (d2 (x.natAbs))) ∧ w'.cell? ⟨w.heap.size, 4, none⟩ = some (.int .u64 (d3 (x.natAbs))) ∧ w'.cell? ⟨w.heap.size + 1, 0, none⟩ = some (.bool (decide (y < 0))) ∧ w'.cell? ⟨w.heap.size + 1, 1, none⟩ = some (.int .u64 (d0 (y.natAbs))) ∧ w'.cell? ⟨w.heap.size + 1, 2, none⟩ = some (.int .u64 (d1 (y.natAbs))) ∧ w'.cell? ⟨w.heap.size + 1, 3, none⟩ = some (.int .u64 (d2 (y.natAbs))) ∧ w'.cell? ⟨w.heap.size + 1, 4, none⟩ = some (.int .u64 (d3 (y.natAbs)))) (first | (refine ⟨cell_later hR ?_, cell_later hR ?_, cell_later hR ?_, cell_later hR ?_, cell_later hR ?_, cell_later hR ?_, cell_later hR ?_, cell_later hR ?_, cell_later hR ?_, cell_later hR ?_⟩ <;> (simp (maxDischargeDepth := 6) [go_sem, *]; done)) | (simp (maxDischargeDepth := 6) [go_sem, *]; done) | (exact ⟨alloc_swap (‹_ ∧ _›).1 (by first | exact hz | omega), alloc_swap (‹_ ∧ _›).2.1 (by first | exact hz | omega), alloc_swap (‹_ ∧ _›).2.2.1 (by first | exact hz | omega), alloc_swap (‹_ ∧ _›).2.2.2.1 (by first | exact hz | omega), alloc_swap (‹_ ∧ _›).2.2.2.2.1 (by first | exact hz | omega), alloc_swap (‹_ ∧ _›).2.2.2.2.2.1 (by first | exact hz | omega), alloc_swap (‹_ ∧ _›).2.2.2.2.2.2.1 (by first | exact hz | omega), alloc_swap (‹_ ∧ _›).2.2.2.2.2.2.2.1 (by first | exact hz | omega), alloc_swap (‹_ ∧ _›).2.2.2.2.2.2.2.2.1 (by first | exact hz | omega), alloc_swap (‹_ ∧ _›).2.2.2.2.2.2.2.2.2 (by first | exact hz | omega)⟩)) (first | (go_at_call 70; refine (cRSign _ _ (by omega)).mono ?_; rintro e w1 ⟨rfl, hR⟩; have hcR := bsome hR; have hfR := bfrozen hR))
  go_upto_region 2 with (fail)
  go_region_held3 (fun w' => w'.cell? ⟨w.heap.size, 0, none⟩ = some (.bool (decide (x < 0))) ∧ w'.cell? ⟨w.heap.size, 1, none⟩ = some (.int .u64 (d0 (x.natAbs))) ∧ w'.cell? ⟨w.heap.size, 2, none⟩ = some (.int .u64 (d1 (x.natAbs))) ∧ w'.cell? ⟨w.heap.size, 3, none⟩ = some (.int .u64 (d2 (x.natAbs))) ∧ w'.cell? ⟨w.heap.size, 4, none⟩ = some (.int .u64 (d3 (x.natAbs))) ∧ w'.cell? ⟨w.heap.size + 1, 0, none⟩ = some (.bool (decide (y < 0))) ∧ w'.cell? ⟨w.heap.size + 1, 1, none⟩ = some (.int .u64 (d0 (y.natAbs))) ∧ w'.cell? ⟨w.heap.size + 1, 2, none⟩ = some (.int .u64 (d1 (y.natAbs))) ∧ w'.cell? ⟨w.heap.size + 1, 3, none⟩ = some (.int .u64 (d2 (y.natAbs))) ∧ w'.cell? ⟨w.heap.size + 1, 4, none⟩ = some (.int .u64 (d3 (y.natAbs)))) (first | (refine ⟨cell_later hR ?_, cell_later hR ?_, cell_later hR ?_, cell_later hR ?_, cell_later hR ?_, cell_later hR ?_, cell_later hR ?_, cell_later hR ?_, cell_later hR ?_, cell_later hR ?_⟩ <;> (simp (maxDischargeDepth := 6) [go_sem, *]; done)) | (simp (maxDischargeDepth := 6) [go_sem, *]; done) | (exact ⟨alloc_swap (‹_ ∧ _›).1 (by first | exact hz | omega), alloc_swap (‹_ ∧ _›).2.1 (by first | exact hz | omega), alloc_swap (‹_ ∧ _›).2.2.1 (by first | exact hz | omega), alloc_swap (‹_ ∧ _›).2.2.2.1 (by first | exact hz | omega), alloc_swap (‹_ ∧ _›).2.2.2.2.1 (by first | exact hz | omega), alloc_swap (‹_ ∧ _›).2.2.2.2.2.1 (by first | exact hz | omega), alloc_swap (‹_ ∧ _›).2.2.2.2.2.2.1 (by first | exact hz | omega), alloc_swap (‹_ ∧ _›).2.2.2.2.2.2.2.1 (by first | exact hz | omega), alloc_swap (‹_ ∧ _›).2.2.2.2.2.2.2.2.1 (by first | exact hz | omega), alloc_swap (‹_ ∧ _›).2.2.2.2.2.2.2.2.2 (by first | exact hz | omega)⟩)) (first | (go_at_call 70; refine (cRSign _ _ (by omega)).mono ?_; rintro e w1 ⟨rfl, hR⟩; have hcR := bsome hR; have hfR := bfrozen hR))
  cases b
  · go_wp2
    go_ret
    exact ⟨by rw [R.out]; rfl, by (repeat (first | with_reducible assumption | with_reducible exact Below.refl _ _ | ((with_reducible refine Below.setCell ?_ ?_ _); rotate_left; (first | exact Nat.le_refl _ | (dsimp only; omega) | (simp; done) | (simp; omega))) | with_reducible refine below_alloc ?_ _ | with_reducible apply below_drewN | with_reducible apply Below.drew | with_reducible refine below_step ?_ (by assumption)))⟩
  · go_wp2
    go_ret
    exact ⟨by rw [R.out]; rfl, by (repeat (first | with_reducible assumption | with_reducible exact Below.refl _ _ | ((with_reducible refine Below.setCell ?_ ?_ _); rotate_left; (first | exact Nat.le_refl _ | (dsimp only; omega) | (simp; done) | (simp; omega))) | with_reducible refine below_alloc ?_ _ | with_reducible apply below_drewN | with_reducible apply Below.drew | with_reducible refine below_step ?_ (by assumption)))⟩
theorem cRCmpB (x y : Int) (w : World) (h0 : (x.natAbs : Int) ≤ 340282366920938463463374607431768211455) (h1 : (y.natAbs : Int) ≤ 340282366920938463463374607431768211455) (hn : (cmp3 x 0 != cmp3 y 0) = false) :
    Calls Try.prog 46 #[.agg #[.bool (decide (x < 0)), .int .u64 (d0 (x.natAbs)), .int .u64 (d1 (x.natAbs)), .int .u64 (d2 (x.natAbs)), .int .u64 (d3 (x.natAbs))], .agg #[.bool (decide (y < 0)), .int .u64 (d0 (y.natAbs)), .int .u64 (d1 (y.natAbs)), .int .u64 (d2 (y.natAbs)), .int .u64 (d3 (y.natAbs))]] w fun e w' => e = .returned (.int .i64 (cmp3 x y)) ∧ Below w.heap.size w w' := by
  have q := eqDg x.natAbs y.natAbs (by omega) h0 (by omega) h1
  by_cases h : (x.natAbs : Int) = y.natAbs
  · have hxy : cmp3 x y = 0 := by
      have e : cmp3 x 0 = cmp3 y 0 := by simpa using hn
      unfold cmp3 at e ⊢
      by_cases k1 : x < 0 <;> by_cases k2 : 0 < x <;> by_cases k3 : y < 0 <;> by_cases k4 : 0 < y <;> simp only [k1, k2, k3, k4, if_true, if_false] at e ⊢ <;> first | omega | (rw [if_neg (by omega), if_neg (by omega)])
    rw [decide_eq_true h] at q
    clear h
    go_enter Try.func46, Try.ntmps46
    go_upto_region 1 with (fail)
    go_region_held3 (fun w' => w'.cell? ⟨w.heap.size, 0, none⟩ = some (.bool (decide (x < 0))) ∧ w'.cell? ⟨w.heap.size, 1, none⟩ = some (.int .u64 (d0 (x.natAbs))) ∧ w'.cell? ⟨w.heap.size, 2, none⟩ = some (.int .u64 (d1 (x.natAbs))) ∧ w'.cell? ⟨w.heap.size, 3, none⟩ = some (.int .u64 (d2 (x.natAbs))) ∧ w'.cell? ⟨w.heap.size, 4, none⟩ = some (.int .u64 (d3 (x.natAbs))) ∧ w'.cell? ⟨w.heap.size + 1, 0, none⟩ = some (.bool (decide (y < 0))) ∧ w'.cell? ⟨w.heap.size + 1, 1, none⟩ = some (.int .u64 (d0 (y.natAbs))) ∧ w'.cell? ⟨w.heap.size + 1, 2, none⟩ = some (.int .u64 (d1 (y.natAbs))) ∧ w'.cell? ⟨w.heap.size + 1, 3, none⟩ = some (.int .u64 (d2 (y.natAbs))) ∧ w'.cell? ⟨w.heap.size + 1, 4, none⟩ = some (.int .u64 (d3 (y.natAbs)))) (first | (refine ⟨cell_later hR ?_, cell_later hR ?_, cell_later hR ?_, cell_later hR ?_, cell_later hR ?_, cell_later hR ?_, cell_later hR ?_, cell_later hR ?_, cell_later hR ?_, cell_later hR ?_⟩ <;> (simp (maxDischargeDepth := 6) [go_sem, *]; done)) | (simp (maxDischargeDepth := 6) [go_sem, *]; done) | (exact ⟨alloc_swap (‹_ ∧ _›).1 (by first | exact hz | omega), alloc_swap (‹_ ∧ _›).2.1 (by first | exact hz | omega), alloc_swap (‹_ ∧ _›).2.2.1 (by first | exact hz | omega), alloc_swap (‹_ ∧ _›).2.2.2.1 (by first | exact hz | omega), alloc_swap (‹_ ∧ _›).2.2.2.2.1 (by first | exact hz | omega), alloc_swap (‹_ ∧ _›).2.2.2.2.2.1 (by first | exact hz | omega), alloc_swap (‹_ ∧ _›).2.2.2.2.2.2.1 (by first | exact hz | omega), alloc_swap (‹_ ∧ _›).2.2.2.2.2.2.2.1 (by first | exact hz | omega), alloc_swap (‹_ ∧ _›).2.2.2.2.2.2.2.2.1 (by first | exact hz | omega), alloc_swap (‹_ ∧ _›).2.2.2.2.2.2.2.2.2 (by first | exact hz | omega)⟩)) (first | (go_at_call 70; refine (cRSign _ _ (by omega)).mono ?_; rintro e w1 ⟨rfl, hR⟩; have hcR := bsome hR; have hfR := bfrozen hR))
    go_wp2
    go_ret
    exact ⟨by rw [hxy]; rfl, by (repeat (first | with_reducible assumption | with_reducible exact Below.refl _ _ | ((with_reducible refine Below.setCell ?_ ?_ _); rotate_left; (first | exact Nat.le_refl _ | (dsimp only; omega) | (simp; done) | (simp; omega))) | with_reducible refine below_alloc ?_ _ | with_reducible apply below_drewN | with_reducible apply Below.drew | with_reducible refine below_step ?_ (by assumption)))⟩
  · rw [decide_eq_false h] at q
    obtain ⟨b, hb⟩ : ∃ b, (decide (x.natAbs < y.natAbs) == decide (x < 0)) = b := ⟨_, rfl⟩
    have R : Hid (cmp3 x y = if b = true then 1 else -1) := Lib.hid (by subst hb; unfold cmp3 at *; split <;> split <;> simp_all <;> omega)
    clear h
    go_enter Try.func46, Try.ntmps46
    go_upto_region 1 with (fail)
    go_region_held3 (fun w' => w'.cell? ⟨w.heap.size, 0, none⟩ = some (.bool (decide (x < 0))) ∧ w'.cell? ⟨w.heap.size, 1, none⟩ = some (.int .u64 (d0 (x.natAbs))) ∧ w'.cell? ⟨w.heap.size, 2, none⟩ = some (.int .u64 (d1 (x.natAbs))) ∧ w'.cell? ⟨w.heap.size, 3, none⟩ = some (.int .u64 (d2 (x.natAbs))) ∧ w'.cell? ⟨w.heap.size, 4, none⟩ = some (.int .u64 (d3 (x.natAbs))) ∧ w'.cell? ⟨w.heap.size + 1, 0, none⟩ = some (.bool (decide (y < 0))) ∧ w'.cell? ⟨w.heap.size + 1, 1, none⟩ = some (.int .u64 (d0 (y.natAbs))) ∧ w'.cell? ⟨w.heap.size + 1, 2, none⟩ = some (.int .u64 (d1 (y.natAbs))) ∧ w'.cell? ⟨w.heap.size + 1, 3, none⟩ = some (.int .u64 (d2 (y.natAbs))) ∧ w'.cell? ⟨w.heap.size + 1, 4, none⟩ = some (.int .u64 (d3 (y.natAbs)))) (first | (refine ⟨cell_later hR ?_, cell_later hR ?_, cell_later hR ?_, cell_later hR ?_, cell_later hR ?_, cell_later hR ?_, cell_later hR ?_, cell_later hR ?_, cell_later hR ?_, cell_later hR ?_⟩ <;> (simp (maxDischargeDepth := 6) [go_sem, *]; done)) | (simp (maxDischargeDepth := 6) [go_sem, *]; done) | (exact ⟨alloc_swap (‹_ ∧ _›).1 (by first | exact hz | omega), alloc_swap (‹_ ∧ _›).2.1 (by first | exact hz | omega), alloc_swap (‹_ ∧ _›).2.2.1 (by first | exact hz | omega), alloc_swap (‹_ ∧ _›).2.2.2.1 (by first | exact hz | omega), alloc_swap (‹_ ∧ _›).2.2.2.2.1 (by first | exact hz | omega), alloc_swap (‹_ ∧ _›).2.2.2.2.2.1 (by first | exact hz | omega), alloc_swap (‹_ ∧ _›).2.2.2.2.2.2.1 (by first | exact hz | omega), alloc_swap (‹_ ∧ _›).2.2.2.2.2.2.2.1 (by first | exact hz | omega), alloc_swap (‹_ ∧ _›).2.2.2.2.2.2.2.2.1 (by first | exact hz | omega), alloc_swap (‹_ ∧ _›).2.2.2.2.2.2.2.2.2 (by first | exact hz | omega)⟩)) (first | (go_at_call 70; refine (cRSign _ _ (by omega)).mono ?_; rintro e w1 ⟨rfl, hR⟩; have hcR := bsome hR; have hfR := bfrozen hR))
    go_upto_region 7 with (fail)
    go_region_held3 (fun w' => w'.cell? ⟨w.heap.size, 0, none⟩ = some (.bool (decide (x < 0))) ∧ w'.cell? ⟨w.heap.size, 1, none⟩ = some (.int .u64 (d0 (x.natAbs))) ∧ w'.cell? ⟨w.heap.size, 2, none⟩ = some (.int .u64 (d1 (x.natAbs))) ∧ w'.cell? ⟨w.heap.size, 3, none⟩ = some (.int .u64 (d2 (x.natAbs))) ∧ w'.cell? ⟨w.heap.size, 4, none⟩ = some (.int .u64 (d3 (x.natAbs))) ∧ w'.cell? ⟨w.heap.size + 1, 0, none⟩ = some (.bool (decide (y < 0))) ∧ w'.cell? ⟨w.heap.size + 1, 1, none⟩ = some (.int .u64 (d0 (y.natAbs))) ∧ w'.cell? ⟨w.heap.size + 1, 2, none⟩ = some (.int .u64 (d1 (y.natAbs))) ∧ w'.cell? ⟨w.heap.size + 1, 3, none⟩ = some (.int .u64 (d2 (y.natAbs))) ∧ w'.cell? ⟨w.heap.size + 1, 4, none⟩ = some (.int .u64 (d3 (y.natAbs)))) (first | (refine ⟨cell_later hR ?_, cell_later hR ?_, cell_later hR ?_, cell_later hR ?_, cell_later hR ?_, cell_later hR ?_, cell_later hR ?_, cell_later hR ?_, cell_later hR ?_, cell_later hR ?_⟩ <;> (simp (maxDischargeDepth := 6) [go_sem, *]; done)) | (simp (maxDischargeDepth := 6) [go_sem, *]; done) | (exact ⟨alloc_swap (‹_ ∧ _›).1 (by first | exact hz | omega), alloc_swap (‹_ ∧ _›).2.1 (by first | exact hz | omega), alloc_swap (‹_ ∧ _›).2.2.1 (by first | exact hz | omega), alloc_swap (‹_ ∧ _›).2.2.2.1 (by first | exact hz | omega), alloc_swap (‹_ ∧ _›).2.2.2.2.1 (by first | exact hz | omega), alloc_swap (‹_ ∧ _›).2.2.2.2.2.1 (by first | exact hz | omega), alloc_swap (‹_ ∧ _›).2.2.2.2.2.2.1 (by first | exact hz | omega), alloc_swap (‹_ ∧ _›).2.2.2.2.2.2.2.1 (by first | exact hz | omega), alloc_swap (‹_ ∧ _›).2.2.2.2.2.2.2.2.1 (by first | exact hz | omega), alloc_swap (‹_ ∧ _›).2.2.2.2.2.2.2.2.2 (by first | exact hz | omega)⟩)) (first | (go_at_call 64; refine (cRLess _ _ _ (by omega) (by omega) (by omega) (by omega)).mono ?_; rintro e w1 ⟨rfl, hR⟩; have hcR := bsome hR; have hfR := bfrozen hR))
    cases b
    · go_wp2
      go_ret
      exact ⟨by rw [R.out]; rfl, by (repeat (first | with_reducible assumption | with_reducible exact Below.refl _ _ | ((with_reducible refine Below.setCell ?_ ?_ _); rotate_left; (first | exact Nat.le_refl _ | (dsimp only; omega) | (simp; done) | (simp; omega))) | with_reducible refine below_alloc ?_ _ | with_reducible apply below_drewN | with_reducible apply Below.drew | with_reducible refine below_step ?_ (by assumption)))⟩
    · go_wp2
      go_ret
      exact ⟨by rw [R.out]; rfl, by (repeat (first | with_reducible assumption | with_reducible exact Below.refl _ _ | ((with_reducible refine Below.setCell ?_ ?_ _); rotate_left; (first | exact Nat.le_refl _ | (dsimp only; omega) | (simp; done) | (simp; omega))) | with_reducible refine below_alloc ?_ _ | with_reducible apply below_drewN | with_reducible apply Below.drew | with_reducible refine below_step ?_ (by assumption)))⟩
theorem cRCmp (x y : Int) (w : World) (h0 : (x.natAbs : Int) ≤ 340282366920938463463374607431768211455) (h1 : (y.natAbs : Int) ≤ 340282366920938463463374607431768211455) :
    Calls Try.prog 46 #[.agg #[.bool (decide (x < 0)), .int .u64 (d0 (x.natAbs)), .int .u64 (d1 (x.natAbs)), .int .u64 (d2 (x.natAbs)), .int .u64 (d3 (x.natAbs))], .agg #[.bool (decide (y < 0)), .int .u64 (d0 (y.natAbs)), .int .u64 (d1 (y.natAbs)), .int .u64 (d2 (y.natAbs)), .int .u64 (d3 (y.natAbs))]] w fun e w' => e = .returned (.int .i64 (cmp3 x y)) ∧ Below w.heap.size w w' := by
  by_cases h : (cmp3 x 0 != cmp3 y 0) = true
  · exact cRCmpA x y w h0 h1 h
  · exact cRCmpB x y w h0 h1 (by simpa using h)
end Go.Proofs.Ythieinnlpfdemaa
