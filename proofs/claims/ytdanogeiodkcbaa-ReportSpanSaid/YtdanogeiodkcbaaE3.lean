/- Contracts of a time's thousandths and text: the program's and the document's. -/
import Derived.Test.YtdanogeiodkcbaaA6
import Derived.Test.YtdanogeiodkcbaaW2
import Derived.Test.YtdanogeiodkcbaaE0
import Derived.Test.YtdanogeiodkcbaaE2
set_option linter.unusedSimpArgs false
set_option linter.unusedVariables false
namespace Go.Proofs.Ytdanogeiodkcbaa
open Go.RowKit
theorem cmp3_le {a b : Int} (h : a ≤ b) : cmp3 a b ≤ 0 := by unfold cmp3; split <;> (try split) <;> omega
theorem cmp3_gt {a b : Int} (h : b < a) : 0 < cmp3 a b := by unfold cmp3; split <;> (try split) <;> omega
theorem cThsN (t r : Int) (w : World) (h : t < 0 ∨ r < 1 ∨ 1024 < r) : Calls Try.prog 12 #[.int .i64 t, .int .i64 r] w fun e w' => e = .returned (.int .i64 (-1)) ∧ Below w.heap.size w w' := by
  rcases (show t < 0 ∨ (0 ≤ t ∧ r < 1) ∨ (0 ≤ t ∧ 1 ≤ r ∧ 1024 < r) by omega) with h1 | ⟨h1, h2⟩ | ⟨h1, h2, h3⟩
  all_goals clear h
  all_goals go_enter Try.func12, Try.ntmps12
  all_goals go_wp2
  all_goals go_ret
  all_goals exact ⟨rfl, by (repeat (first | with_reducible assumption | with_reducible exact Below.refl _ _ | ((with_reducible refine Below.setCell ?_ ?_ _); rotate_left; (first | exact Nat.le_refl _ | (dsimp only; omega) | (simp; done) | (simp; omega))) | with_reducible refine below_alloc ?_ _ | with_reducible apply below_drewN | with_reducible apply Below.drew | with_reducible refine below_step ?_ (by assumption)))⟩
set_option maxHeartbeats 4000000 in
theorem cThsY (t r : Int) (w : World) (t0 : 0 ≤ t) (t1 : t ≤ 9223372036854775807) (r0 : 1 ≤ r) (r1 : r ≤ 1024) : Calls Try.prog 12 #[.int .i64 t, .int .i64 r] w fun e w' => e = .returned (.int .i64 (ths t r)) ∧ Below w.heap.size w w' := by
  have near := ths_near t r t0 r0
  have bd := ths_bd t r t0 t1 r0
  have k1 := fun W => cWMul t 1000 W (by omega) (by omega) (by decide) (by decide)
  have k2 := fun W => nWDiv (t * 1000) (r * 4294967296) W (by omega) (by omega) (by omega) (by omega)
  have ok : dok (t * 1000) (r * 4294967296) = true := by
    unfold dok fx
    rw [decide_eq_false (show ¬ r * 4294967296 = 0 by omega), decide_eq_true (show _ ∧ _ from ⟨by rcases near with h | h <;> omega, by rcases near with h | h <;> omega⟩)]; rfl
  have eq : dq (t * 1000) (r * 4294967296) = rdiv (t * 1000) (r * 4294967296) := by unfold dq; rw [if_pos ok]
  rw [ok, eq] at k2
  clear ok eq
  have k3 := fun W => cWMul (rdiv (t * 1000) (r * 4294967296)) (r * 4294967296) W (by rcases near with h | h <;> omega) (by rcases near with h | h <;> omega) (by omega) (by omega)
  have k4 := fun W => nWCmp (rdiv (t * 1000) (r * 4294967296) * (r * 4294967296)) (t * 1000) W
  generalize rdiv (t * 1000) (r * 4294967296) = q at *
  generalize ths t r = n at *
  obtain ⟨B, hB⟩ : ∃ B, r * 4294967296 = B := ⟨_, rfl⟩
  obtain ⟨A, hA⟩ : ∃ A, t * 1000 = A := ⟨_, rfl⟩
  rw [hB, hA] at k2 k4 near
  rw [hB] at k3
  rw [hA] at k1
  generalize hC : q * B = C at *
  have HB0 := Lib.hid (And.intro hB (And.intro hA hC))
  have hB2 : 4294967296 ≤ B ∧ B ≤ 4398046511104 := by omega
  clear hA hC
  go_enter Try.func12, Try.ntmps12
  go_wp2_with (fail)
  (go_at_call 19; (with_reducible refine (k1 _).mono ?_); rintro e w1 ⟨rfl, hM⟩)
  have HB : Below w.heap.size w w1 := hM
  rename World => g
  go_wp2_with (fail)
  (go_at_call 20; (with_reducible refine (k2 _).mono ?_); rintro e w1 ⟨rfl, hN⟩)
  have G : Bk g.heap.size 0 [.int .i64 (hw A), .int .u64 (lw A)] w1 := Bk.later (by simp [Bk, go_sem]; done) hN
  have HB : Below w.heap.size w w1 := below_step (W := _) (by (repeat (first | with_reducible assumption | with_reducible exact Below.refl _ _ | ((with_reducible refine Below.setCell ?_ ?_ _); rotate_left; (first | exact Nat.le_refl _ | (dsimp only; omega) | (simp; done) | (simp; omega))) | with_reducible refine below_alloc ?_ _ | with_reducible apply below_drewN | with_reducible apply Below.drew | with_reducible refine below_step ?_ (by assumption)))) hN
  clear hN hM k1 k2
  have C_G := G; simp only [Bk] at C_G
  go_upto_region 5 with (fail)
  (try refine wp_region_noPanic ?_)
  refine wp_region_held_drew (S := (fun (w' : World) => w'.cell? ⟨g.heap.size, 0, none⟩ = some (.int .i64 (hw A)) ∧ w'.cell? ⟨g.heap.size, 1, none⟩ = some (.int .u64 (lw A)))) (by kernel_rfl) ⟨(by first | (simp (maxDischargeDepth := 6) [go_sem, *]; done)), (by first | (simp (maxDischargeDepth := 6) [go_sem, *]; done))⟩ (fun hHeld => ?_)
  refine wpAnyH_take (i := 0) (v := ?_) (by simp only [List.getElem?_toArray, List.getElem?_cons_succ, List.getElem?_cons_zero]; rfl) (by kernel_rfl) (by kernel_rfl) (by kernel_rfl) (fun _ _ _ h => h) (Or.inl ⟨by rfl, ?_⟩) (by assumption) ?_
  rotate_left
  · intro w hSw; (try dsimp only at hSw); go_simp; try with_reducible rfl
  try simp only [Act.put, List.setIfInBounds_toArray, List.set_cons_zero, List.set_cons_succ]
  refine wpAnyH_take (i := 1) (v := ?_) (by simp only [List.getElem?_toArray, List.getElem?_cons_succ, List.getElem?_cons_zero]; rfl) (by kernel_rfl) (by kernel_rfl) (by kernel_rfl) (fun _ _ _ h => h) (Or.inl ⟨by rfl, ?_⟩) (by assumption) ?_
  rotate_left
  · intro w hSw; (try dsimp only at hSw); go_simp; try with_reducible rfl
  try simp only [Act.put, List.setIfInBounds_toArray, List.set_cons_zero, List.set_cons_succ]
  refine wpAnyH_take (i := 3) (v := ?_) (by simp only [List.getElem?_toArray, List.getElem?_cons_succ, List.getElem?_cons_zero]; rfl) (by kernel_rfl) (by kernel_rfl) (by kernel_rfl) (fun _ _ _ h => h) (Or.inl ⟨by rfl, ?_⟩) (by assumption) ?_
  rotate_left
  · intro w hSw; (try dsimp only at hSw); go_simp; try with_reducible rfl
  try simp only [Act.put, List.setIfInBounds_toArray, List.set_cons_zero, List.set_cons_succ]
  refine wpAnyH_ready (rs := [2]) (by kernel_rfl) (by simp) ?_
  refine AllReadyH.cons rfl (fun K hK => ?_) AllReadyH.nil
  have hOld := hHeld; clear hHeld
  go_simp
  (go_at_call 19; (with_reducible refine (k3 _).mono ?_); rintro e w1 ⟨rfl, hM⟩)
  (try go_wp2_with (fail))
  refine hK.out _ _ ⟨(by first | exact mv_cell hM (by first | (dsimp only; omega) | (simp; omega)) hOld.1 | exact cell_later hM hOld.1 | exact HT.cb | exact HT.cc | (simp (maxDischargeDepth := 6) [go_sem, *]; done)), (by first | exact mv_cell hM (by first | (dsimp only; omega) | (simp; omega)) hOld.2 | exact cell_later hM hOld.2 | exact HT.cb | exact HT.cc | (simp (maxDischargeDepth := 6) [go_sem, *]; done))⟩ (fun hHeld => ?_)
  clear hK K hOld
  try simp only [Act.put, List.setIfInBounds_toArray, List.set_cons_zero, List.set_cons_succ]
  have HB := below_step (W := _) (by (repeat (first | with_reducible assumption | with_reducible exact Below.refl _ _ | ((with_reducible refine Below.setCell ?_ ?_ _); rotate_left; (first | exact Nat.le_refl _ | (dsimp only; omega) | (simp; done) | (simp; omega))) | with_reducible refine below_alloc ?_ _ | with_reducible apply below_drewN | with_reducible apply Below.drew | with_reducible refine below_step ?_ (by assumption)))) hM
  refine wpAnyH_ready (rs := [4]) (by kernel_rfl) (by simp) ?_
  refine AllReadyH.cons rfl (fun K hK => ?_) AllReadyH.nil
  have hOld := hHeld; clear hHeld
  go_simp
  (go_at_call 21; (with_reducible refine (k4 _).mono ?_); rintro e w1 ⟨rfl, hM⟩)
  (try go_wp2_with (fail))
  refine hK.out _ _ ⟨(by first | exact mv_cell hM (by first | (dsimp only; omega) | (simp; omega)) hOld.1 | exact cell_later hM hOld.1 | exact HT.cb | exact HT.cc | (simp (maxDischargeDepth := 6) [go_sem, *]; done)), (by first | exact mv_cell hM (by first | (dsimp only; omega) | (simp; omega)) hOld.2 | exact cell_later hM hOld.2 | exact HT.cb | exact HT.cc | (simp (maxDischargeDepth := 6) [go_sem, *]; done))⟩ (fun hHeld => ?_)
  clear hK K hOld
  try simp only [Act.put, List.setIfInBounds_toArray, List.set_cons_zero, List.set_cons_succ]
  have HB := below_step HB hM
  refine wpAnyH_take (i := 5) (v := ?_) (by simp only [List.getElem?_toArray, List.getElem?_cons_succ, List.getElem?_cons_zero]; rfl) (by kernel_rfl) (by kernel_rfl) (by kernel_rfl) (fun _ _ _ h => h) (Or.inl ⟨by rfl, ?_⟩) (by assumption) ?_
  rotate_left
  · intro w hSw; (try dsimp only at hSw); go_simp; try with_reducible rfl
  try simp only [Act.put, List.setIfInBounds_toArray, List.set_cons_zero, List.set_cons_succ]
  refine wpAnyH_done (by kernel_rfl) ?_ _
  (try refine NoPanic.normal ?_)
  (try clear q0); (try clear q1); obtain ⟨q0, q1⟩ := hHeld
  rcases near with ⟨h1, rfl⟩ | ⟨h1, rfl⟩
  · have hc := cmp3_le h1
    generalize cmp3 C A = c at *
    go_wp2
    go_ret
    exact ⟨rfl, by (repeat (first | with_reducible assumption | with_reducible exact Below.refl _ _ | ((with_reducible refine Below.setCell ?_ ?_ _); rotate_left; (first | exact Nat.le_refl _ | (dsimp only; omega) | (simp; done) | (simp; omega))) | with_reducible refine below_alloc ?_ _ | with_reducible apply below_drewN | with_reducible apply Below.drew | with_reducible refine below_step ?_ (by assumption)))⟩
  · have hc := cmp3_gt h1
    generalize cmp3 C A = c at *
    go_wp2
    go_ret
    exact ⟨by first | rfl | (congr 2; omega), by (repeat (first | with_reducible assumption | with_reducible exact Below.refl _ _ | ((with_reducible refine Below.setCell ?_ ?_ _); rotate_left; (first | exact Nat.le_refl _ | (dsimp only; omega) | (simp; done) | (simp; omega))) | with_reducible refine below_alloc ?_ _ | with_reducible apply below_drewN | with_reducible apply Below.drew | with_reducible refine below_step ?_ (by assumption)))⟩
theorem rThsN (t r : Int) (w : World) (h : t < 0 ∨ r < 1 ∨ 1024 < r) : Calls Try.prog 15 #[.int .i64 t, .int .i64 r] w fun e w' => e = .returned (.tuple #[.int .i64 0, .bool false]) ∧ Below w.heap.size w w' := by
  rcases (show t < 0 ∨ (0 ≤ t ∧ r < 1) ∨ (0 ≤ t ∧ 1 ≤ r ∧ 1024 < r) by omega) with h1 | ⟨h1, h2⟩ | ⟨h1, h2, h3⟩
  all_goals clear h
  all_goals go_enter Try.func15, Try.ntmps15
  all_goals go_wp2
  all_goals go_ret2
  all_goals exact ⟨rfl, by (repeat (first | with_reducible assumption | with_reducible exact Below.refl _ _ | ((with_reducible refine Below.setCell ?_ ?_ _); rotate_left; (first | exact Nat.le_refl _ | (dsimp only; omega) | (simp; done) | (simp; omega))) | with_reducible refine below_alloc ?_ _ | with_reducible apply below_drewN | with_reducible apply Below.drew | with_reducible refine below_step ?_ (by assumption)))⟩
set_option maxHeartbeats 4000000 in
theorem rThsY (t r : Int) (w : World) (t0 : 0 ≤ t) (t1 : t ≤ 9223372036854775807) (r0 : 1 ≤ r) (r1 : r ≤ 1024) : Calls Try.prog 15 #[.int .i64 t, .int .i64 r] w fun e w' => e = .returned (.tuple #[.int .i64 (ths t r), .bool true]) ∧ Below w.heap.size w w' := by
  have hd := ths_doc t r t0 r0
  have HD := Lib.hid hd
  clear hd
  generalize ths t r = n at *
  have a0 : 0 ≤ t / 4294967296 ∧ t / 4294967296 ≤ 2147483647 := by omega
  have a1 : 0 ≤ t % 4294967296 ∧ t % 4294967296 ≤ 4294967295 := by omega
  go_enter Try.func15, Try.ntmps15
  go_wp2
  go_ret2
  exact ⟨by rw [← HD.out] <;> rfl, by (repeat (first | with_reducible assumption | with_reducible exact Below.refl _ _ | ((with_reducible refine Below.setCell ?_ ?_ _); rotate_left; (first | exact Nat.le_refl _ | (dsimp only; omega) | (simp; done) | (simp; omega))) | with_reducible refine below_alloc ?_ _ | with_reducible apply below_drewN | with_reducible apply Below.drew | with_reducible refine below_step ?_ (by assumption)))⟩
end Go.Proofs.Ytdanogeiodkcbaa
