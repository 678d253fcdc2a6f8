/- Contracts of package trig: the table, sines. -/
import Derived.Test.YtjpkkpflamkjkaaT2
import Derived.Test.YtjpkkpflamkjkaaW2
import Derived.Test.YtjpkkpflamkjkaaF0
set_option linter.unusedSimpArgs false
set_option linter.unusedVariables false
namespace Go.Proofs.Ytjpkkpflamkjkaa
open Go.RowKit
theorem wrT (x : Int) (h0 : -9223372036854775808 ≤ x) (h1 : x ≤ 9223372036854775807) : IntKind.i64.wrap x = x := by rw [IntKind.wrap_i64]; omega
theorem andT1 : ∀ c : Nat, c < 65 → bits .and .i64 (c : Int) 1 = ((c % 2 : Nat) : Int) := by decide +kernel
theorem cMuP (a b : Int) (w : World) (a0 : -9223372036854775808 ≤ a) (a1 : a ≤ 9223372036854775807) (b0 : -9223372036854775808 ≤ b) (b1 : b ≤ 9223372036854775807) :
    Calls Try.prog 103 #[.int .i64 a, .int .i64 b] w fun e w' => e = .returned (.int .i64 (mu a b)) ∧ Below w.heap.size w w' := by
  have m := mul_bd a b a0 a1 b0 b1
  have k1 := fun W => cWMul a b W a0 a1 b0 b1
  have k2 := fun W => nWDiv (a * b) 1000000000000000000 W (by omega) (by omega) (by decide) (by decide)
  unfold mu
  clear m
  generalize a * b = p at *
  generalize dq p 1000000000000000000 = q at *
  generalize dok p 1000000000000000000 = ok at *
  generalize hw p = h at *
  generalize lw p = l at *
  go_enter Try.func103, Try.ntmps103
  go_wp2_with (first | (go_at_call 66; (with_reducible refine (k1 _).mono ?_); rintro e w1 ⟨rfl, hM⟩) | (go_at_call 73; (with_reducible refine (k2 _).mono ?_); rintro e w1 ⟨rfl, hM⟩))
  go_ret
  exact ⟨rfl, by (repeat (first | with_reducible assumption | with_reducible exact Below.refl _ _ | ((with_reducible refine Below.setCell ?_ ?_ _); rotate_left; (first | exact Nat.le_refl _ | (dsimp only; omega) | (simp; done) | (simp; omega))) | with_reducible refine below_alloc ?_ _ | with_reducible apply below_drewN | with_reducible apply Below.drew | with_reducible refine below_step ?_ (by assumption)))⟩
set_option maxHeartbeats 2000000 in
theorem cTimes (a b c d : Int) (w : World) (a0 : -1100000000000000000 ≤ a) (a1 : a ≤ 1100000000000000000) (b0 : -1100000000000000000 ≤ b) (b1 : b ≤ 1100000000000000000) (c0 : -1100000000000000000 ≤ c) (c1 : c ≤ 1100000000000000000) (d0 : -1100000000000000000 ≤ d) (d1 : d ≤ 1100000000000000000) :
    Calls Try.prog 96 #[.agg #[.int .i64 a, .int .i64 b], .agg #[.int .i64 c, .int .i64 d]] w fun e w' => e = .returned (.agg #[.int .i64 (mu a c - mu b d), .int .i64 (mu b c + mu a d)]) ∧ Below w.heap.size w w' := by
  have k1 := fun W => cMuP a c W (by omega) (by omega) (by omega) (by omega)
  have k2 := fun W => cMuP b d W (by omega) (by omega) (by omega) (by omega)
  have k3 := fun W => cMuP b c W (by omega) (by omega) (by omega) (by omega)
  have k4 := fun W => cMuP a d W (by omega) (by omega) (by omega) (by omega)
  have m1 := (mu_yes a c (by omega) (by omega) (by omega) (by omega)).2
  have m2 := (mu_yes b d (by omega) (by omega) (by omega) (by omega)).2
  have m3 := (mu_yes b c (by omega) (by omega) (by omega) (by omega)).2
  have m4 := (mu_yes a d (by omega) (by omega) (by omega) (by omega)).2
  generalize mu a c = p1 at *
  generalize mu b d = p2 at *
  generalize mu b c = p3 at *
  generalize mu a d = p4 at *
  have e1 := wrT (p1 - p2) (by omega) (by omega)
  have e2 := wrT (p3 + p4) (by omega) (by omega)
  clear m1 m2 m3 m4 a0 a1 b0 b1 c0 c1 d0 d1
  go_enter Try.func96, Try.ntmps96
  go_upto_region 1 with (fail)
  (try refine wp_region_noPanic ?_)
  refine wp_region_held_drew (S := (fun (w' : World) => w'.cell? ⟨w.heap.size, 0, none⟩ = some (.int .i64 a) ∧ w'.cell? ⟨w.heap.size, 1, none⟩ = some (.int .i64 b) ∧ w'.cell? ⟨w.heap.size + 1, 0, none⟩ = some (.int .i64 c) ∧ w'.cell? ⟨w.heap.size + 1, 1, none⟩ = some (.int .i64 d))) (by kernel_rfl) ⟨(by first | (simp (maxDischargeDepth := 6) [go_sem, *]; done)), (by first | (simp (maxDischargeDepth := 6) [go_sem, *]; done)), (by first | (simp (maxDischargeDepth := 6) [go_sem, *]; done)), (by first | (simp (maxDischargeDepth := 6) [go_sem, *]; done))⟩ (fun hHeld => ?_)
  refine wpAnyH_take (i := 0) (v := ?_) (by simp only [List.getElem?_toArray, List.getElem?_cons_succ, List.getElem?_cons_zero]; rfl) (by kernel_rfl) (by kernel_rfl) (by kernel_rfl) (fun _ _ _ h => h) (Or.inl ⟨by rfl, ?_⟩) (by assumption) ?_
  rotate_left
  · intro w hSw; (try dsimp only at hSw); go_simp; try with_reducible rfl
  try simp only [Act.put, List.setIfInBounds_toArray, List.set_cons_zero, List.set_cons_succ]
  refine wpAnyH_take (i := 2) (v := ?_) (by simp only [List.getElem?_toArray, List.getElem?_cons_succ, List.getElem?_cons_zero]; rfl) (by kernel_rfl) (by kernel_rfl) (by kernel_rfl) (fun _ _ _ h => h) (Or.inl ⟨by rfl, ?_⟩) (by assumption) ?_
  rotate_left
  · intro w hSw; (try dsimp only at hSw); go_simp; try with_reducible rfl
  try simp only [Act.put, List.setIfInBounds_toArray, List.set_cons_zero, List.set_cons_succ]
  refine wpAnyH_take (i := 5) (v := ?_) (by simp only [List.getElem?_toArray, List.getElem?_cons_succ, List.getElem?_cons_zero]; rfl) (by kernel_rfl) (by kernel_rfl) (by kernel_rfl) (fun _ _ _ h => h) (Or.inl ⟨by rfl, ?_⟩) (by assumption) ?_
  rotate_left
  · intro w hSw; (try dsimp only at hSw); go_simp; try with_reducible rfl
  try simp only [Act.put, List.setIfInBounds_toArray, List.set_cons_zero, List.set_cons_succ]
  refine wpAnyH_take (i := 7) (v := ?_) (by simp only [List.getElem?_toArray, List.getElem?_cons_succ, List.getElem?_cons_zero]; rfl) (by kernel_rfl) (by kernel_rfl) (by kernel_rfl) (fun _ _ _ h => h) (Or.inl ⟨by rfl, ?_⟩) (by assumption) ?_
  rotate_left
  · intro w hSw; (try dsimp only at hSw); go_simp; try with_reducible rfl
  try simp only [Act.put, List.setIfInBounds_toArray, List.set_cons_zero, List.set_cons_succ]
  refine wpAnyH_take (i := 11) (v := ?_) (by simp only [List.getElem?_toArray, List.getElem?_cons_succ, List.getElem?_cons_zero]; rfl) (by kernel_rfl) (by kernel_rfl) (by kernel_rfl) (fun _ _ _ h => h) (Or.inl ⟨by rfl, ?_⟩) (by assumption) ?_
  rotate_left
  · intro w hSw; (try dsimp only at hSw); go_simp; try with_reducible rfl
  try simp only [Act.put, List.setIfInBounds_toArray, List.set_cons_zero, List.set_cons_succ]
  refine wpAnyH_take (i := 13) (v := ?_) (by simp only [List.getElem?_toArray, List.getElem?_cons_succ, List.getElem?_cons_zero]; rfl) (by kernel_rfl) (by kernel_rfl) (by kernel_rfl) (fun _ _ _ h => h) (Or.inl ⟨by rfl, ?_⟩) (by assumption) ?_
  rotate_left
  · intro w hSw; (try dsimp only at hSw); go_simp; try with_reducible rfl
  try simp only [Act.put, List.setIfInBounds_toArray, List.set_cons_zero, List.set_cons_succ]
  refine wpAnyH_take (i := 16) (v := ?_) (by simp only [List.getElem?_toArray, List.getElem?_cons_succ, List.getElem?_cons_zero]; rfl) (by kernel_rfl) (by kernel_rfl) (by kernel_rfl) (fun _ _ _ h => h) (Or.inl ⟨by rfl, ?_⟩) (by assumption) ?_
  rotate_left
  · intro w hSw; (try dsimp only at hSw); go_simp; try with_reducible rfl
  try simp only [Act.put, List.setIfInBounds_toArray, List.set_cons_zero, List.set_cons_succ]
  refine wpAnyH_take (i := 18) (v := ?_) (by simp only [List.getElem?_toArray, List.getElem?_cons_succ, List.getElem?_cons_zero]; rfl) (by kernel_rfl) (by kernel_rfl) (by kernel_rfl) (fun _ _ _ h => h) (Or.inl ⟨by rfl, ?_⟩) (by assumption) ?_
  rotate_left
  · intro w hSw; (try dsimp only at hSw); go_simp; try with_reducible rfl
  try simp only [Act.put, List.setIfInBounds_toArray, List.set_cons_zero, List.set_cons_succ]
  refine wpAnyH_take (i := 1) (v := ?_) (by simp only [List.getElem?_toArray, List.getElem?_cons_succ, List.getElem?_cons_zero]; rfl) (by kernel_rfl) (by kernel_rfl) (by kernel_rfl) (fun _ _ _ h => h) (Or.inl ⟨by rfl, ?_⟩) (by assumption) ?_
  rotate_left
  · intro w hSw; (try dsimp only at hSw); go_simp; try with_reducible rfl
  try simp only [Act.put, List.setIfInBounds_toArray, List.set_cons_zero, List.set_cons_succ]
  refine wpAnyH_take (i := 3) (v := ?_) (by simp only [List.getElem?_toArray, List.getElem?_cons_succ, List.getElem?_cons_zero]; rfl) (by kernel_rfl) (by kernel_rfl) (by kernel_rfl) (fun _ _ _ h => h) (Or.inl ⟨by rfl, ?_⟩) (by assumption) ?_
  rotate_left
  · intro w hSw; (try dsimp only at hSw); go_simp; try with_reducible rfl
  try simp only [Act.put, List.setIfInBounds_toArray, List.set_cons_zero, List.set_cons_succ]
  refine wpAnyH_take (i := 6) (v := ?_) (by simp only [List.getElem?_toArray, List.getElem?_cons_succ, List.getElem?_cons_zero]; rfl) (by kernel_rfl) (by kernel_rfl) (by kernel_rfl) (fun _ _ _ h => h) (Or.inl ⟨by rfl, ?_⟩) (by assumption) ?_
  rotate_left
  · intro w hSw; (try dsimp only at hSw); go_simp; try with_reducible rfl
  try simp only [Act.put, List.setIfInBounds_toArray, List.set_cons_zero, List.set_cons_succ]
  refine wpAnyH_take (i := 8) (v := ?_) (by simp only [List.getElem?_toArray, List.getElem?_cons_succ, List.getElem?_cons_zero]; rfl) (by kernel_rfl) (by kernel_rfl) (by kernel_rfl) (fun _ _ _ h => h) (Or.inl ⟨by rfl, ?_⟩) (by assumption) ?_
  rotate_left
  · intro w hSw; (try dsimp only at hSw); go_simp; try with_reducible rfl
  try simp only [Act.put, List.setIfInBounds_toArray, List.set_cons_zero, List.set_cons_succ]
  refine wpAnyH_take (i := 12) (v := ?_) (by simp only [List.getElem?_toArray, List.getElem?_cons_succ, List.getElem?_cons_zero]; rfl) (by kernel_rfl) (by kernel_rfl) (by kernel_rfl) (fun _ _ _ h => h) (Or.inl ⟨by rfl, ?_⟩) (by assumption) ?_
  rotate_left
  · intro w hSw; (try dsimp only at hSw); go_simp; try with_reducible rfl
  try simp only [Act.put, List.setIfInBounds_toArray, List.set_cons_zero, List.set_cons_succ]
  refine wpAnyH_take (i := 14) (v := ?_) (by simp only [List.getElem?_toArray, List.getElem?_cons_succ, List.getElem?_cons_zero]; rfl) (by kernel_rfl) (by kernel_rfl) (by kernel_rfl) (fun _ _ _ h => h) (Or.inl ⟨by rfl, ?_⟩) (by assumption) ?_
  rotate_left
  · intro w hSw; (try dsimp only at hSw); go_simp; try with_reducible rfl
  try simp only [Act.put, List.setIfInBounds_toArray, List.set_cons_zero, List.set_cons_succ]
  refine wpAnyH_take (i := 17) (v := ?_) (by simp only [List.getElem?_toArray, List.getElem?_cons_succ, List.getElem?_cons_zero]; rfl) (by kernel_rfl) (by kernel_rfl) (by kernel_rfl) (fun _ _ _ h => h) (Or.inl ⟨by rfl, ?_⟩) (by assumption) ?_
  rotate_left
  · intro w hSw; (try dsimp only at hSw); go_simp; try with_reducible rfl
  try simp only [Act.put, List.setIfInBounds_toArray, List.set_cons_zero, List.set_cons_succ]
  refine wpAnyH_take (i := 19) (v := ?_) (by simp only [List.getElem?_toArray, List.getElem?_cons_succ, List.getElem?_cons_zero]; rfl) (by kernel_rfl) (by kernel_rfl) (by kernel_rfl) (fun _ _ _ h => h) (Or.inl ⟨by rfl, ?_⟩) (by assumption) ?_
  rotate_left
  · intro w hSw; (try dsimp only at hSw); go_simp; try with_reducible rfl
  try simp only [Act.put, List.setIfInBounds_toArray, List.set_cons_zero, List.set_cons_succ]
  have hOld := hHeld; clear hHeld
  refine wpAnyH_ready (rs := [4]) (by kernel_rfl) (by simp) (AllReadyH.cons rfl (fun K hK => ?_) AllReadyH.nil)
  go_simp
  (go_at_call 103; (with_reducible refine (k1 _).mono ?_); rintro e w1 ⟨rfl, hM⟩; have hr := cell_later (a := ⟨w.heap.size + 1 + 1, 0, none⟩) (v := .int .i64 0) hM (by first | assumption | (simp (maxDischargeDepth := 6) [go_sem, *]; done)); have hg := frozen_later (a := ⟨w.heap.size + 1 + 1, 0, none⟩) (v := .int .i64 0) hM (by first | assumption | (simp (maxDischargeDepth := 6) [go_sem, *]; done)) (by first | assumption | (simp (maxDischargeDepth := 6) [go_sem, *]; done)); have hr := cell_later (a := ⟨w.heap.size + 1 + 1, 1, none⟩) (v := .int .i64 0) hM (by first | assumption | (simp (maxDischargeDepth := 6) [go_sem, *]; done)); have hg := frozen_later (a := ⟨w.heap.size + 1 + 1, 1, none⟩) (v := .int .i64 0) hM (by first | assumption | (simp (maxDischargeDepth := 6) [go_sem, *]; done)) (by first | assumption | (simp (maxDischargeDepth := 6) [go_sem, *]; done)))
  (try go_wp2_with (fail))
  refine hK.out _ _ ⟨(by first | exact mv_cell hM (by first | (dsimp only; omega) | (simp; omega)) hOld.1 | exact cell_later hM hOld.1 | exact HT.cb | exact HT.cc | (simp (maxDischargeDepth := 6) [go_sem, *]; done)), (by first | exact mv_cell hM (by first | (dsimp only; omega) | (simp; omega)) hOld.2.1 | exact cell_later hM hOld.2.1 | exact HT.cb | exact HT.cc | (simp (maxDischargeDepth := 6) [go_sem, *]; done)), (by first | exact mv_cell hM (by first | (dsimp only; omega) | (simp; omega)) hOld.2.2.1 | exact cell_later hM hOld.2.2.1 | exact HT.cb | exact HT.cc | (simp (maxDischargeDepth := 6) [go_sem, *]; done)), (by first | exact mv_cell hM (by first | (dsimp only; omega) | (simp; omega)) hOld.2.2.2 | exact cell_later hM hOld.2.2.2 | exact HT.cb | exact HT.cc | (simp (maxDischargeDepth := 6) [go_sem, *]; done))⟩ (fun hHeld => ?_)
  clear hK K hOld
  try simp only [Act.put, List.setIfInBounds_toArray, List.set_cons_zero, List.set_cons_succ]
  have hOld := hHeld; clear hHeld
  refine wpAnyH_ready (rs := [9]) (by kernel_rfl) (by simp) (AllReadyH.cons rfl (fun K hK => ?_) AllReadyH.nil)
  go_simp
  (go_at_call 103; (with_reducible refine (k2 _).mono ?_); rintro e w1 ⟨rfl, hM⟩; have hr := cell_later (a := ⟨w.heap.size + 1 + 1, 0, none⟩) (v := .int .i64 0) hM (by first | assumption | (simp (maxDischargeDepth := 6) [go_sem, *]; done)); have hg := frozen_later (a := ⟨w.heap.size + 1 + 1, 0, none⟩) (v := .int .i64 0) hM (by first | assumption | (simp (maxDischargeDepth := 6) [go_sem, *]; done)) (by first | assumption | (simp (maxDischargeDepth := 6) [go_sem, *]; done)); have hr := cell_later (a := ⟨w.heap.size + 1 + 1, 1, none⟩) (v := .int .i64 0) hM (by first | assumption | (simp (maxDischargeDepth := 6) [go_sem, *]; done)); have hg := frozen_later (a := ⟨w.heap.size + 1 + 1, 1, none⟩) (v := .int .i64 0) hM (by first | assumption | (simp (maxDischargeDepth := 6) [go_sem, *]; done)) (by first | assumption | (simp (maxDischargeDepth := 6) [go_sem, *]; done)))
  (try go_wp2_with (fail))
  refine hK.out _ _ ⟨(by first | exact mv_cell hM (by first | (dsimp only; omega) | (simp; omega)) hOld.1 | exact cell_later hM hOld.1 | exact HT.cb | exact HT.cc | (simp (maxDischargeDepth := 6) [go_sem, *]; done)), (by first | exact mv_cell hM (by first | (dsimp only; omega) | (simp; omega)) hOld.2.1 | exact cell_later hM hOld.2.1 | exact HT.cb | exact HT.cc | (simp (maxDischargeDepth := 6) [go_sem, *]; done)), (by first | exact mv_cell hM (by first | (dsimp only; omega) | (simp; omega)) hOld.2.2.1 | exact cell_later hM hOld.2.2.1 | exact HT.cb | exact HT.cc | (simp (maxDischargeDepth := 6) [go_sem, *]; done)), (by first | exact mv_cell hM (by first | (dsimp only; omega) | (simp; omega)) hOld.2.2.2 | exact cell_later hM hOld.2.2.2 | exact HT.cb | exact HT.cc | (simp (maxDischargeDepth := 6) [go_sem, *]; done))⟩ (fun hHeld => ?_)
  clear hK K hOld
  try simp only [Act.put, List.setIfInBounds_toArray, List.set_cons_zero, List.set_cons_succ]
  refine wpAnyH_take (i := 10) (v := ?_) (by simp only [List.getElem?_toArray, List.getElem?_cons_succ, List.getElem?_cons_zero]; rfl) (by kernel_rfl) (by kernel_rfl) (by kernel_rfl) (fun _ _ _ h => h) (Or.inl ⟨by rfl, ?_⟩) (by assumption) ?_
  rotate_left
  · intro w hSw; (try dsimp only at hSw); go_simp; try with_reducible rfl
  try simp only [Act.put, List.setIfInBounds_toArray, List.set_cons_zero, List.set_cons_succ]
  have hOld := hHeld; clear hHeld
  refine wpAnyH_ready (rs := [15]) (by kernel_rfl) (by simp) (AllReadyH.cons rfl (fun K hK => ?_) AllReadyH.nil)
  go_simp
  (go_at_call 103; (with_reducible refine (k3 _).mono ?_); rintro e w1 ⟨rfl, hM⟩; have hr := cell_later (a := ⟨w.heap.size + 1 + 1, 0, none⟩) (v := .int .i64 0) hM (by first | assumption | (simp (maxDischargeDepth := 6) [go_sem, *]; done)); have hg := frozen_later (a := ⟨w.heap.size + 1 + 1, 0, none⟩) (v := .int .i64 0) hM (by first | assumption | (simp (maxDischargeDepth := 6) [go_sem, *]; done)) (by first | assumption | (simp (maxDischargeDepth := 6) [go_sem, *]; done)); have hr := cell_later (a := ⟨w.heap.size + 1 + 1, 1, none⟩) (v := .int .i64 0) hM (by first | assumption | (simp (maxDischargeDepth := 6) [go_sem, *]; done)); have hg := frozen_later (a := ⟨w.heap.size + 1 + 1, 1, none⟩) (v := .int .i64 0) hM (by first | assumption | (simp (maxDischargeDepth := 6) [go_sem, *]; done)) (by first | assumption | (simp (maxDischargeDepth := 6) [go_sem, *]; done)))
  (try go_wp2_with (fail))
  refine hK.out _ _ ⟨(by first | exact mv_cell hM (by first | (dsimp only; omega) | (simp; omega)) hOld.1 | exact cell_later hM hOld.1 | exact HT.cb | exact HT.cc | (simp (maxDischargeDepth := 6) [go_sem, *]; done)), (by first | exact mv_cell hM (by first | (dsimp only; omega) | (simp; omega)) hOld.2.1 | exact cell_later hM hOld.2.1 | exact HT.cb | exact HT.cc | (simp (maxDischargeDepth := 6) [go_sem, *]; done)), (by first | exact mv_cell hM (by first | (dsimp only; omega) | (simp; omega)) hOld.2.2.1 | exact cell_later hM hOld.2.2.1 | exact HT.cb | exact HT.cc | (simp (maxDischargeDepth := 6) [go_sem, *]; done)), (by first | exact mv_cell hM (by first | (dsimp only; omega) | (simp; omega)) hOld.2.2.2 | exact cell_later hM hOld.2.2.2 | exact HT.cb | exact HT.cc | (simp (maxDischargeDepth := 6) [go_sem, *]; done))⟩ (fun hHeld => ?_)
  clear hK K hOld
  try simp only [Act.put, List.setIfInBounds_toArray, List.set_cons_zero, List.set_cons_succ]
  have hOld := hHeld; clear hHeld
  refine wpAnyH_ready (rs := [20]) (by kernel_rfl) (by simp) (AllReadyH.cons rfl (fun K hK => ?_) AllReadyH.nil)
  go_simp
  (go_at_call 103; (with_reducible refine (k4 _).mono ?_); rintro e w1 ⟨rfl, hM⟩; have hr := cell_later (a := ⟨w.heap.size + 1 + 1, 0, none⟩) (v := .int .i64 0) hM (by first | assumption | (simp (maxDischargeDepth := 6) [go_sem, *]; done)); have hg := frozen_later (a := ⟨w.heap.size + 1 + 1, 0, none⟩) (v := .int .i64 0) hM (by first | assumption | (simp (maxDischargeDepth := 6) [go_sem, *]; done)) (by first | assumption | (simp (maxDischargeDepth := 6) [go_sem, *]; done)); have hr := cell_later (a := ⟨w.heap.size + 1 + 1, 1, none⟩) (v := .int .i64 0) hM (by first | assumption | (simp (maxDischargeDepth := 6) [go_sem, *]; done)); have hg := frozen_later (a := ⟨w.heap.size + 1 + 1, 1, none⟩) (v := .int .i64 0) hM (by first | assumption | (simp (maxDischargeDepth := 6) [go_sem, *]; done)) (by first | assumption | (simp (maxDischargeDepth := 6) [go_sem, *]; done)))
  (try go_wp2_with (fail))
  refine hK.out _ _ ⟨(by first | exact mv_cell hM (by first | (dsimp only; omega) | (simp; omega)) hOld.1 | exact cell_later hM hOld.1 | exact HT.cb | exact HT.cc | (simp (maxDischargeDepth := 6) [go_sem, *]; done)), (by first | exact mv_cell hM (by first | (dsimp only; omega) | (simp; omega)) hOld.2.1 | exact cell_later hM hOld.2.1 | exact HT.cb | exact HT.cc | (simp (maxDischargeDepth := 6) [go_sem, *]; done)), (by first | exact mv_cell hM (by first | (dsimp only; omega) | (simp; omega)) hOld.2.2.1 | exact cell_later hM hOld.2.2.1 | exact HT.cb | exact HT.cc | (simp (maxDischargeDepth := 6) [go_sem, *]; done)), (by first | exact mv_cell hM (by first | (dsimp only; omega) | (simp; omega)) hOld.2.2.2 | exact cell_later hM hOld.2.2.2 | exact HT.cb | exact HT.cc | (simp (maxDischargeDepth := 6) [go_sem, *]; done))⟩ (fun hHeld => ?_)
  clear hK K hOld
  try simp only [Act.put, List.setIfInBounds_toArray, List.set_cons_zero, List.set_cons_succ]
  refine wpAnyH_take (i := 21) (v := ?_) (by simp only [List.getElem?_toArray, List.getElem?_cons_succ, List.getElem?_cons_zero]; rfl) (by kernel_rfl) (by kernel_rfl) (by kernel_rfl) (fun _ _ _ h => h) (Or.inl ⟨by rfl, ?_⟩) (by assumption) ?_
  rotate_left
  · intro w hSw; (try dsimp only at hSw); go_simp; try with_reducible rfl
  try simp only [Act.put, List.setIfInBounds_toArray, List.set_cons_zero, List.set_cons_succ]
  refine wpAnyH_take (i := 22) (v := ?_) (by simp only [List.getElem?_toArray, List.getElem?_cons_succ, List.getElem?_cons_zero]; rfl) (by kernel_rfl) (by kernel_rfl) (by kernel_rfl) (fun _ _ _ h => h) (Or.inl ⟨by rfl, ?_⟩) (by assumption) ?_
  rotate_left
  · intro w hSw; (try dsimp only at hSw); go_simp; try with_reducible rfl
  try simp only [Act.put, List.setIfInBounds_toArray, List.set_cons_zero, List.set_cons_succ]
  have hOld := hHeld; clear hHeld
  refine wpAnyH_ready (rs := [23]) (by kernel_rfl) (by simp) (AllReadyH.cons rfl (fun K hK => ?_) AllReadyH.nil)
  go_simp
  (try go_wp2_with (fail))
  refine hK.out _ _ ⟨(by first | exact mv_cell hM (by first | (dsimp only; omega) | (simp; omega)) hOld.1 | exact cell_later hM hOld.1 | exact HT.cb | exact HT.cc | (simp (maxDischargeDepth := 6) [go_sem, *]; done)), (by first | exact mv_cell hM (by first | (dsimp only; omega) | (simp; omega)) hOld.2.1 | exact cell_later hM hOld.2.1 | exact HT.cb | exact HT.cc | (simp (maxDischargeDepth := 6) [go_sem, *]; done)), (by first | exact mv_cell hM (by first | (dsimp only; omega) | (simp; omega)) hOld.2.2.1 | exact cell_later hM hOld.2.2.1 | exact HT.cb | exact HT.cc | (simp (maxDischargeDepth := 6) [go_sem, *]; done)), (by first | exact mv_cell hM (by first | (dsimp only; omega) | (simp; omega)) hOld.2.2.2 | exact cell_later hM hOld.2.2.2 | exact HT.cb | exact HT.cc | (simp (maxDischargeDepth := 6) [go_sem, *]; done))⟩ (fun hHeld => ?_)
  clear hK K hOld
  try simp only [Act.put, List.setIfInBounds_toArray, List.set_cons_zero, List.set_cons_succ]
  refine wpAnyH_done (by kernel_rfl) ?_ _
  (try refine NoPanic.normal ?_)
  (try clear q0); (try clear q1); (try clear q2); (try clear q3); obtain ⟨q0, q1, q2, q3⟩ := hHeld
  go_wp2
  simp (maxDischargeDepth := 8) [bodyPost, results, Try.results96, go_sem, *]
  (repeat (first | with_reducible assumption | with_reducible exact Below.refl _ _ | ((with_reducible refine Below.setCell ?_ ?_ _); rotate_left; (first | exact Nat.le_refl _ | (dsimp only; omega) | (simp; done) | (simp; omega))) | with_reducible refine below_alloc ?_ _ | with_reducible apply below_drewN | with_reducible apply Below.drew | with_reducible refine below_step ?_ (by assumption)))
theorem sm_up (r n : Nat) : sm r (n + 1) = sm r n + if n % 4 = r then tm n else 0 := rfl
set_option maxHeartbeats 4000000 in
theorem cSmall (w : World) : Calls Try.prog 95 #[] w fun e w' => e = .returned (.agg #[.int .i64 ((stp 0).1), .int .i64 ((stp 0).2)]) ∧ Below w.heap.size w w' := by
  go_enter Try.func95, Try.ntmps95
  go_wp2
  go_loopw [2, 4] (fun t i wr => ∃ k : Nat, i = .int .i64 k ∧ k ≤ 20 ∧ t = .int .i64 (tm k) ∧ Bk (w.heap.size + 1) 0 [.int .i64 (sm 0 k), .int .i64 (sm 1 k), .int .i64 (sm 2 k), .int .i64 (sm 3 k)] wr ∧ Bk w.heap.size 0 [.int .i64 0, .int .i64 0] wr ∧ Below w.heap.size w wr) (fun _ i _ => 20 - (RowKit.intOf i).toNat)
  case atStart => exact ⟨0, rfl, by omega, rfl, by simp [Bk, go_sem, sm], by simp [Bk, go_sem], by (repeat (first | with_reducible assumption | with_reducible exact Below.refl _ _ | ((with_reducible refine Below.setCell ?_ ?_ _); rotate_left; (first | exact Nat.le_refl _ | (dsimp only; omega) | (simp; done) | (simp; omega))) | with_reducible refine below_alloc ?_ _ | with_reducible apply below_drewN | with_reducible apply Below.drew | with_reducible refine below_step ?_ (by assumption)))⟩
  case round =>
    obtain ⟨k, rfl, hk, rfl, A, R, HB⟩ := hrel
    have C := A; simp only [Bk] at C
    have D := R; simp only [Bk] at D
    by_cases hlt : k < 20
    · have bt := tm_bd k (by omega)
      have s0 := sm_bd k (by omega) 0 (by decide)
      have s1 := sm_bd k (by omega) 1 (by decide)
      have s2 := sm_bd k (by omega) 2 (by decide)
      have s3 := sm_bd k (by omega) 3 (by decide)
      have km := fun W => cMuP (tm k) 24543692606170259 W (by omega) (by omega) (by decide) (by decide)
      have mb := mu_yes (tm k) 24543692606170259 (by omega) (by omega) (by decide) (by decide)
      have u0 := sm_up 0 k
      have u1 := sm_up 1 k
      have u2 := sm_up 2 k
      have u3 := sm_up 3 k
      have ut : tm (k + 1) = mu (tm k) 24543692606170259 / ((k : Int) + 1) := rfl
      have mx := tmx_bd k (by omega)
      generalize mu (tm k) 24543692606170259 = m at *
      generalize tm k = t0 at *
      generalize sm 0 k = b0 at *
      generalize sm 1 k = b1 at *
      generalize sm 2 k = b2 at *
      generalize sm 3 k = b3 at *
      have HU := Lib.hid (And.intro ut (And.intro u0 (And.intro u1 (And.intro u2 u3))))
      clear ut u0 u1 u2 u3 mb
      rcases (show k % 4 = 0 ∨ k % 4 = 1 ∨ k % 4 = 2 ∨ k % 4 = 3 by omega) with hr | hr | hr | hr
      all_goals have HR := Lib.hid hr
      all_goals have hr' : (k : Int) % 4 = ((k % 4 : Nat) : Int) := by omega
      all_goals rw [hr] at hr'
      all_goals clear hr
      all_goals go_wp2_with (first | (go_at_call 103; (with_reducible refine (km _).mono ?_); rintro e w1 ⟨rfl, hM⟩))
      all_goals refine ⟨⟨k + 1, by go_num, by omega, by rw [HU.out.1], ?_, by (repeat (first | with_reducible assumption | with_reducible apply Bk.drew | with_reducible apply Bk.alloc | with_reducible apply Bk.later (hB := hR) | with_reducible apply Bk.later (hB := hM) | ((with_reducible apply Bk.mv hM); (focus omega)) | ((with_reducible apply Bk.later); rotate_left; (with_reducible assumption)) | ((with_reducible apply Bk.put); rotate_left; (first | (dsimp only; omega))))), by (repeat (first | with_reducible assumption | with_reducible exact Below.refl _ _ | ((with_reducible refine Below.setCell ?_ ?_ _); rotate_left; (first | exact Nat.le_refl _ | (dsimp only; omega) | (simp; done) | (simp; omega))) | with_reducible refine below_alloc ?_ _ | with_reducible apply below_drewN | with_reducible apply Below.drew | with_reducible refine below_step ?_ (by assumption)))⟩, by simp [RowKit.intOf]; omega⟩
      all_goals rw [HU.out.2.1, HU.out.2.2.1, HU.out.2.2.2.1, HU.out.2.2.2.2, HR.out]
      all_goals exact Bk.later (by simp [Bk, go_sem, *]) hM
    · obtain rfl : k = 20 := by omega
      have s0 := sm_bd 20 (by decide) 0 (by decide)
      have s1 := sm_bd 20 (by decide) 1 (by decide)
      have s2 := sm_bd 20 (by decide) 2 (by decide)
      have s3 := sm_bd 20 (by decide) 3 (by decide)
      have HU := Lib.hid stp_0
      generalize sm 0 20 = b0 at *
      generalize sm 1 20 = b1 at *
      generalize sm 2 20 = b2 at *
      generalize sm 3 20 = b3 at *
      generalize tm 20 = t0 at *
      go_wp2
      simp (maxDischargeDepth := 8) [bodyPost, results, Try.results95, go_sem, *]
      rw [← HU.out]
      exact ⟨⟨rfl, rfl⟩, by (repeat (first | with_reducible assumption | with_reducible exact Below.refl _ _ | ((with_reducible refine Below.setCell ?_ ?_ _); rotate_left; (first | exact Nat.le_refl _ | (dsimp only; omega) | (simp; done) | (simp; omega))) | with_reducible refine below_alloc ?_ _ | with_reducible apply below_drewN | with_reducible apply Below.drew | with_reducible refine below_step ?_ (by assumption)))⟩
set_option maxHeartbeats 4000000 in
theorem cTabN (n : Nat) (w : World) (hn : n < 65) : Calls Try.prog 80 #[.int .i64 (n : Int)] w fun e w' => e = .returned (.int .i64 (tb n)) ∧ Below w.heap.size w w' := by
  have ks := fun W => cSmall W
  have HN := Lib.hid hn
  go_enter Try.func80, Try.ntmps80
  go_wp2_with (fail)
  (go_at_call 95; (with_reducible refine (ks _).mono ?_); rintro e w1 ⟨rfl, hM⟩)
  have HB : Below w.heap.size w w1 := by (repeat (first | with_reducible assumption | with_reducible exact Below.refl _ _ | ((with_reducible refine Below.setCell ?_ ?_ _); rotate_left; (first | exact Nat.le_refl _ | (dsimp only; omega) | (simp; done) | (simp; omega))) | with_reducible refine below_alloc ?_ _ | with_reducible apply below_drewN | with_reducible apply Below.drew | with_reducible refine below_step ?_ (by assumption)))
  have hws := hM.size
  rename World => ws
  clear ks hM
  go_wp2_with (fail)
  go_loopw [0] (fun i wr => ∃ (j : Nat) (c s p q : Int), j ≤ 7 ∧ i = .int .i64 ((n / 2 ^ j : Nat) : Int) ∧ Hid (arr (n % 2 ^ j) = (c, s)) ∧ Hid (stp j = (p, q)) ∧ Bk ws.heap.size 0 [.int .i64 c, .int .i64 s] wr ∧ Bk (ws.heap.size + 1) 0 [.int .i64 p, .int .i64 q] wr ∧ Below w.heap.size w wr) (fun i _ => (RowKit.intOf i).toNat)
  case atStart =>
    obtain ⟨⟨p, q⟩, hp⟩ : ∃ x, stp 0 = x := ⟨_, rfl⟩
    exact ⟨0, 1000000000000000000, 0, p, q, by omega, by simp, Lib.hid (by rw [show n % 2 ^ 0 = 0 by omega]; rfl), Lib.hid hp, by simp [Bk, go_sem], by simp [Bk, go_sem, hp], by (repeat (first | with_reducible assumption | with_reducible exact Below.refl _ _ | ((with_reducible refine Below.setCell ?_ ?_ _); rotate_left; (first | exact Nat.le_refl _ | (dsimp only; omega) | (simp; done) | (simp; omega))) | with_reducible refine below_alloc ?_ _ | with_reducible apply below_drewN | with_reducible apply Below.drew | with_reducible refine below_step ?_ (by assumption)))⟩
  case round =>
    obtain ⟨j, c, s, p, q, hj, rfl, H1, H2, A, B, HB⟩ := hrel
    have C_A := A; simp only [Bk] at C_A
    have C_B := B; simp only [Bk] at C_B
    have hn := HN.out
    obtain ⟨m, hm⟩ : ∃ m, n / 2 ^ j = m := ⟨_, rfl⟩
    rw [hm]
    have HM := Lib.hid hm
    have hm65 : m < 65 := by rw [← hm]; exact Nat.lt_of_le_of_lt (Nat.div_le_self _ _) hn
    have han := andT1 m hm65
    have bd := arr_bd (n % 2 ^ j) (Nat.lt_of_le_of_lt (Nat.mod_le _ _) hn)
    rw [H1.out] at bd
    have bs := stp_bd j (by omega)
    rw [H2.out] at bs
    dsimp only at bd bs
    by_cases hz : m = 0
    · subst hz
      have ea : arr n = (c, s) := by
        rw [← H1.out, Nat.mod_eq_of_lt]
        rcases Nat.lt_or_ge n (2 ^ j) with h | h
        · exact h
        · have := Nat.div_pos h (Nat.two_pow_pos j); omega
      have ev := tb_arr n hn
      rw [ea] at ev
      dsimp only at ev
      have mb := mul_bd s 4294967296 (by omega) (by omega) (by omega) (by omega)
      have kM := fun W => cWMul s 4294967296 W (by omega) (by omega) (by omega) (by omega)
      have kD := fun W => nWDiv (s * 4294967296) 1000000000000000000 W (by omega) (by omega) (by decide) (by decide)
      rw [ev] at kD
      generalize s * 4294967296 = z at *
      generalize hw z = zh at *
      generalize lw z = zl at *
      generalize dok z 1000000000000000000 = ok at *
      clear ev mb ea hn hm han
      go_wp2_with (first | (go_at_call 66; (with_reducible refine (kM _).mono ?_); rintro e w1 ⟨rfl, hM⟩) | (go_at_call 73; (with_reducible refine (kD _).mono ?_); rintro e w1 ⟨rfl, hM⟩))
      go_ret
      exact ⟨rfl, by (repeat (first | with_reducible assumption | with_reducible exact Below.refl _ _ | ((with_reducible refine Below.setCell ?_ ?_ _); rotate_left; (first | exact Nat.le_refl _ | (dsimp only; omega) | (simp; done) | (simp; omega))) | with_reducible refine below_alloc ?_ _ | with_reducible apply below_drewN | with_reducible apply Below.drew | with_reducible refine below_step ?_ (by assumption)))⟩
    · have j7 : j < 7 := by
        rcases Nat.lt_or_ge j 7 with h | h
        · exact h
        · have e : j = 7 := by omega
          subst e
          have : n / 2 ^ 7 = 0 := Nat.div_eq_of_lt (by omega)
          omega
      have up := arr_up n hn j j7
      rw [hm, H1.out, H2.out] at up
      have us := stp_up j j7
      rw [H2.out] at us
      have nx : n / 2 ^ (j + 1) = m / 2 := by rw [← hm, Nat.pow_succ, Nat.div_div_eq_div_mul]
      have k1 := fun W => cTimes c s p q W (by omega) (by omega) (by omega) (by omega) (by omega) (by omega) (by omega) (by omega)
      have k2 := fun W => cTimes p q p q W (by omega) (by omega) (by omega) (by omega) (by omega) (by omega) (by omega) (by omega)
      unfold tms at up us
      dsimp only at up us
      have HX := Lib.hid (And.intro up (And.intro us nx))
      generalize mu c p - mu s q = c1 at *
      generalize mu s p + mu c q = s1 at *
      generalize mu p p - mu q q = p1 at *
      generalize mu q p + mu p q = q1 at *
      clear up us nx hm hn bd bs
      by_cases ho : m % 2 = 1
      · rw [ho] at han
        have HO := Lib.hid ho
        go_wp2_with (fail)
        (go_at_call 96; (with_reducible refine (k1 _).mono ?_); rintro e9 w1 ⟨rfl, hM⟩; (first | have HB : Below w.heap.size w _ := below_step HB hM | have HB : Below w.heap.size w _ := below_step (W := _) (by (repeat (first | with_reducible assumption | with_reducible exact Below.refl _ _ | ((with_reducible refine Below.setCell ?_ ?_ _); rotate_left; (first | exact Nat.le_refl _ | (dsimp only; omega) | (simp; done) | (simp; omega))) | with_reducible refine below_alloc ?_ _ | with_reducible apply below_drewN | with_reducible apply Below.drew | with_reducible refine below_step ?_ (by assumption)))) hM); (first | have A := Bk.later A hM | have A := Bk.later (Bk.alloc A _) hM | have A := Bk.later (Bk.alloc (Bk.alloc A _) _) hM); have C_A := A; simp only [Bk] at C_A; (first | have B := Bk.later B hM | have B := Bk.later (Bk.alloc B _) hM | have B := Bk.later (Bk.alloc (Bk.alloc B _) _) hM); have C_B := B; simp only [Bk] at C_B)
        clear hM
        go_wp2_with (fail)
        (go_at_call 96; (with_reducible refine (k2 _).mono ?_); rintro e9 w1 ⟨rfl, hM⟩)
        have A : Bk ws.heap.size 0 [.int .i64 c1, .int .i64 s1] w1 := Bk.later (by simp [Bk, go_sem, *]) hM
        have B : Bk (ws.heap.size + 1) 0 [.int .i64 p, .int .i64 q] w1 := by (repeat (first | with_reducible assumption | with_reducible apply Bk.drew | with_reducible apply Bk.alloc | with_reducible apply Bk.later (hB := hR) | with_reducible apply Bk.later (hB := hM) | ((with_reducible apply Bk.mv hM); (focus omega)) | ((with_reducible apply Bk.later); rotate_left; (with_reducible assumption)) | ((with_reducible apply Bk.put); rotate_left; (first | (dsimp only; omega)))))
        have HB : Below w.heap.size w w1 := by (repeat (first | with_reducible assumption | with_reducible exact Below.refl _ _ | ((with_reducible refine Below.setCell ?_ ?_ _); rotate_left; (first | exact Nat.le_refl _ | (dsimp only; omega) | (simp; done) | (simp; omega))) | with_reducible refine below_alloc ?_ _ | with_reducible apply below_drewN | with_reducible apply Below.drew | with_reducible refine below_step ?_ (by assumption)))
        have C_A := A; simp only [Bk] at C_A
        have C_B := B; simp only [Bk] at C_B
        clear hM
        go_wp2
        exact ⟨⟨j + 1, c1, s1, p1, q1, by omega, by rw [HX.out.2.2]; go_num, Lib.hid (by rw [HX.out.1, if_pos HO.out]), Lib.hid HX.out.2.1.symm, by simp [Bk, go_sem, *], by simp [Bk, go_sem, *], by (repeat (first | with_reducible assumption | with_reducible exact Below.refl _ _ | ((with_reducible refine Below.setCell ?_ ?_ _); rotate_left; (first | exact Nat.le_refl _ | (dsimp only; omega) | (simp; done) | (simp; omega))) | with_reducible refine below_alloc ?_ _ | with_reducible apply below_drewN | with_reducible apply Below.drew | with_reducible refine below_step ?_ (by assumption)))⟩, by simp [RowKit.intOf]; omega⟩
      · have h0 : m % 2 = 0 := by omega
        have HO := Lib.hid ho
        rw [h0] at han
        clear h0 ho
        go_wp2_with (fail)
        (go_at_call 96; (with_reducible refine (k2 _).mono ?_); rintro e9 w1 ⟨rfl, hM⟩; (first | have HB : Below w.heap.size w _ := below_step HB hM | have HB : Below w.heap.size w _ := below_step (W := _) (by (repeat (first | with_reducible assumption | with_reducible exact Below.refl _ _ | ((with_reducible refine Below.setCell ?_ ?_ _); rotate_left; (first | exact Nat.le_refl _ | (dsimp only; omega) | (simp; done) | (simp; omega))) | with_reducible refine below_alloc ?_ _ | with_reducible apply below_drewN | with_reducible apply Below.drew | with_reducible refine below_step ?_ (by assumption)))) hM); (first | have A := Bk.later A hM | have A := Bk.later (Bk.alloc A _) hM | have A := Bk.later (Bk.alloc (Bk.alloc A _) _) hM); have C_A := A; simp only [Bk] at C_A; (first | have B := Bk.later B hM | have B := Bk.later (Bk.alloc B _) hM | have B := Bk.later (Bk.alloc (Bk.alloc B _) _) hM); have C_B := B; simp only [Bk] at C_B)
        clear hM
        go_wp2
        exact ⟨⟨j + 1, c, s, p1, q1, by omega, by rw [HX.out.2.2]; go_num, Lib.hid (by rw [HX.out.1, if_neg HO.out]), Lib.hid HX.out.2.1.symm, by simp [Bk, go_sem, *], by simp [Bk, go_sem, *], by (repeat (first | with_reducible assumption | with_reducible exact Below.refl _ _ | ((with_reducible refine Below.setCell ?_ ?_ _); rotate_left; (first | exact Nat.le_refl _ | (dsimp only; omega) | (simp; done) | (simp; omega))) | with_reducible refine below_alloc ?_ _ | with_reducible apply below_drewN | with_reducible apply Below.drew | with_reducible refine below_step ?_ (by assumption)))⟩, by simp [RowKit.intOf]; omega⟩
theorem cTable (k : Int) (w : World) (k0 : -9223372036854775808 ≤ k) (k1 : k ≤ 9223372036854775807) : Calls Try.prog 80 #[.int .i64 k] w fun e w' => e = .returned (.int .i64 (tbz k)) ∧ Below w.heap.size w w' := by
  unfold tbz
  by_cases h : 0 ≤ k ∧ k ≤ 64
  · rw [if_pos h]
    obtain ⟨n, rfl⟩ : ∃ n : Nat, k = n := ⟨k.toNat, by omega⟩
    rw [Int.toNat_natCast]
    exact cTabN n w (by omega)
  · rw [if_neg h]
    rcases (show k < 0 ∨ (0 ≤ k ∧ 64 < k) by omega) with h1 | ⟨h1, h2⟩
    · go_enter Try.func80, Try.ntmps80
      go_wp2
      go_ret
      exact ⟨rfl, Below.refl _ _⟩
    · go_enter Try.func80, Try.ntmps80
      go_wp2
      go_ret
      exact ⟨rfl, Below.refl _ _⟩
theorem tbz_at (i : Nat) (h : i < 65) : tbz (i : Int) = tb i := by unfold tbz; rw [if_pos (by omega), Int.toNat_natCast]
/-- A sine's walk, its quarter q and its place y in it known. -/
theorem gq_tab (y : Int) (h0 : 0 ≤ y) (h1 : y ≤ 1073741824) : ∃ s0 s1 d : Int, tbz (y / 16777216) = s0 ∧ (0 < y % 16777216 → tbz (y / 16777216 + 1) = s1) ∧ 0 ≤ s0 ∧ s0 ≤ 4294967296 ∧ 0 ≤ s1 - s0 ∧ s1 - s0 ≤ 4294967296 ∧ 0 ≤ s1 ∧ s1 ≤ 4294967296 ∧ dq ((s1 - s0) * (y % 16777216)) 16777216 = d ∧ 0 ≤ d ∧ d ≤ 4294967296 ∧ gq y = s0 + d ∧ (y % 16777216 = 0 → d = 0) := by
  rcases (show y < 1073741824 ∨ y = 1073741824 by omega) with h | rfl
  · obtain ⟨i, f, hi, f0, f1, rfl⟩ := parts_of y h0 h
    have e1 : ((i : Int) * 16777216 + f) / 16777216 = i := by omega
    have e2 : ((i : Int) * 16777216 + f) % 16777216 = f := by omega
    have k := pc_yes (tb i) (tb (i + 1) - tb i) f (tb_d i hi).1 (tb_d i hi).2 f0 (by omega)
    refine ⟨tb i, tb (i + 1), qn ((tb (i + 1) - tb i) * f) 16777216, by rw [e1, tbz_at i (by omega)], fun _ => by rw [e1]; exact tbz_at (i + 1) (by omega), (tb_bd i (by omega)).1, (tb_bd i (by omega)).2, (tb_d i hi).1, (tb_d i hi).2, (tb_bd (i + 1) (by omega)).1, (tb_bd (i + 1) (by omega)).2, by rw [e2]; exact k.2.1, k.2.2.1, by have := k.2.2.2.1; have := (tb_d i hi).2; omega, ?_, ?_⟩
    · rw [gq_at i f hi f0 (by omega)]; unfold pc; rw [k.2.1]
    · rw [e2]; rintro rfl; rw [Int.mul_zero]; decide
  · exact ⟨4294967296, 4294967296, 0, by decide, by decide, by decide, by decide, by decide, by decide, by decide, by decide, by decide, by decide, by decide, gq_end, fun _ => rfl⟩
set_option maxHeartbeats 4000000 in
theorem cSin (t : Int) (w : World) (t0 : 0 ≤ t) (t1 : t ≤ 4294967295) : Calls Try.prog 63 #[.int .u32 t] w fun e w' => e = .returned (.int .i64 (sinv t)) ∧ Below w.heap.size w w' := by
  obtain ⟨q, r, y, hq, hr, hy⟩ : ∃ q r y : Int, t / 1073741824 = q ∧ t % 1073741824 = r ∧ (if q % 2 = 1 then 1073741824 - r else r) = y := ⟨_, _, _, rfl, rfl, rfl⟩
  have hq4 : q = 0 ∨ q = 1 ∨ q = 2 ∨ q = 3 := by omega
  have hyb : 0 ≤ y ∧ y ≤ 1073741824 := by rw [← hy]; split <;> omega
  have hE : sinv t = if 2 ≤ q then -gq y else gq y := by unfold sinv; rw [hq, hr, hy]
  obtain ⟨s0, s1, d, e0, e1, s00, s01, d0, d1, s10, s11, e2, d2, d3, e3, e4⟩ := gq_tab y hyb.1 hyb.2
  rw [e3] at hE
  have kT := fun W => cTable (y / 16777216) W (by omega) (by omega)
  have kU := fun W => cTable (y / 16777216 + 1) W (by omega) (by omega)
  rw [e0] at kT
  have mb := mul_bd (s1 - s0) (y % 16777216) (by omega) (by omega) (by omega) (by omega)
  have kM := fun W => cWMul (s1 - s0) (y % 16777216) W (by omega) (by omega) (by omega) (by omega)
  have kD := fun W => nWDiv ((s1 - s0) * (y % 16777216)) 16777216 W (by omega) (by omega) (by decide) (by decide)
  rw [e2] at kD
  generalize (s1 - s0) * (y % 16777216) = z at *
  generalize hw z = zh at *
  generalize lw z = zl at *
  generalize dok z 16777216 = ok at *
  have HE := Lib.hid hE
  generalize sinv t = V at *
  clear mb e2 e3 hE e0
  rcases hq4 with rfl | rfl | rfl | rfl
  · obtain rfl : r = y := by rw [← hy]; rfl
    have EV : Hid (V = s0 + d) := Lib.hid (by rw [HE.out]; rfl)
    by_cases hf : 0 < r % 16777216
    · rw [e1 hf] at kU
      clear e1 e4 hy
      go_enter Try.func63, Try.ntmps63
      go_wp2_with (first | (go_at_call 80; (with_reducible refine (kT _).mono ?_); rintro e w1 ⟨rfl, hM⟩) | (go_at_call 80; (with_reducible refine (kU _).mono ?_); rintro e w1 ⟨rfl, hM⟩) | (go_at_call 66; (with_reducible refine (kM _).mono ?_); rintro e w1 ⟨rfl, hM⟩) | (go_at_call 73; (with_reducible refine (kD _).mono ?_); rintro e w1 ⟨rfl, hM⟩))
      go_ret
      exact ⟨by rw [EV.out]; rfl, by (repeat (first | with_reducible assumption | with_reducible exact Below.refl _ _ | ((with_reducible refine Below.setCell ?_ ?_ _); rotate_left; (first | exact Nat.le_refl _ | (dsimp only; omega) | (simp; done) | (simp; omega))) | with_reducible refine below_alloc ?_ _ | with_reducible apply below_drewN | with_reducible apply Below.drew | with_reducible refine below_step ?_ (by assumption)))⟩
    · have hd : d = 0 := e4 (by omega)
      subst hd
      clear e1 e4 hy
      go_enter Try.func63, Try.ntmps63
      go_wp2_with (first | (go_at_call 80; (with_reducible refine (kT _).mono ?_); rintro e w1 ⟨rfl, hM⟩) | (go_at_call 80; (with_reducible refine (kU _).mono ?_); rintro e w1 ⟨rfl, hM⟩) | (go_at_call 66; (with_reducible refine (kM _).mono ?_); rintro e w1 ⟨rfl, hM⟩) | (go_at_call 73; (with_reducible refine (kD _).mono ?_); rintro e w1 ⟨rfl, hM⟩))
      go_ret
      exact ⟨by rw [EV.out]; simp, by (repeat (first | with_reducible assumption | with_reducible exact Below.refl _ _ | ((with_reducible refine Below.setCell ?_ ?_ _); rotate_left; (first | exact Nat.le_refl _ | (dsimp only; omega) | (simp; done) | (simp; omega))) | with_reducible refine below_alloc ?_ _ | with_reducible apply below_drewN | with_reducible apply Below.drew | with_reducible refine below_step ?_ (by assumption)))⟩
  · have hy : 1073741824 - r = y := by rw [← hy]; rfl
    have EV : Hid (V = s0 + d) := Lib.hid (by rw [HE.out]; rfl)
    by_cases hf : 0 < y % 16777216
    · rw [e1 hf] at kU
      clear e1 e4
      go_enter Try.func63, Try.ntmps63
      go_wp2_with (first | (go_at_call 80; (with_reducible refine (kT _).mono ?_); rintro e w1 ⟨rfl, hM⟩) | (go_at_call 80; (with_reducible refine (kU _).mono ?_); rintro e w1 ⟨rfl, hM⟩) | (go_at_call 66; (with_reducible refine (kM _).mono ?_); rintro e w1 ⟨rfl, hM⟩) | (go_at_call 73; (with_reducible refine (kD _).mono ?_); rintro e w1 ⟨rfl, hM⟩))
      go_ret
      exact ⟨by rw [EV.out]; rfl, by (repeat (first | with_reducible assumption | with_reducible exact Below.refl _ _ | ((with_reducible refine Below.setCell ?_ ?_ _); rotate_left; (first | exact Nat.le_refl _ | (dsimp only; omega) | (simp; done) | (simp; omega))) | with_reducible refine below_alloc ?_ _ | with_reducible apply below_drewN | with_reducible apply Below.drew | with_reducible refine below_step ?_ (by assumption)))⟩
    · have hd : d = 0 := e4 (by omega)
      subst hd
      clear e1 e4
      go_enter Try.func63, Try.ntmps63
      go_wp2_with (first | (go_at_call 80; (with_reducible refine (kT _).mono ?_); rintro e w1 ⟨rfl, hM⟩) | (go_at_call 80; (with_reducible refine (kU _).mono ?_); rintro e w1 ⟨rfl, hM⟩) | (go_at_call 66; (with_reducible refine (kM _).mono ?_); rintro e w1 ⟨rfl, hM⟩) | (go_at_call 73; (with_reducible refine (kD _).mono ?_); rintro e w1 ⟨rfl, hM⟩))
      go_ret
      exact ⟨by rw [EV.out]; simp, by (repeat (first | with_reducible assumption | with_reducible exact Below.refl _ _ | ((with_reducible refine Below.setCell ?_ ?_ _); rotate_left; (first | exact Nat.le_refl _ | (dsimp only; omega) | (simp; done) | (simp; omega))) | with_reducible refine below_alloc ?_ _ | with_reducible apply below_drewN | with_reducible apply Below.drew | with_reducible refine below_step ?_ (by assumption)))⟩
  · obtain rfl : r = y := by rw [← hy]; rfl
    have EV : Hid (V = -(s0 + d)) := Lib.hid (by rw [HE.out]; rfl)
    by_cases hf : 0 < r % 16777216
    · rw [e1 hf] at kU
      clear e1 e4 hy
      go_enter Try.func63, Try.ntmps63
      go_wp2_with (first | (go_at_call 80; (with_reducible refine (kT _).mono ?_); rintro e w1 ⟨rfl, hM⟩) | (go_at_call 80; (with_reducible refine (kU _).mono ?_); rintro e w1 ⟨rfl, hM⟩) | (go_at_call 66; (with_reducible refine (kM _).mono ?_); rintro e w1 ⟨rfl, hM⟩) | (go_at_call 73; (with_reducible refine (kD _).mono ?_); rintro e w1 ⟨rfl, hM⟩))
      go_ret
      exact ⟨by rw [EV.out]; rfl, by (repeat (first | with_reducible assumption | with_reducible exact Below.refl _ _ | ((with_reducible refine Below.setCell ?_ ?_ _); rotate_left; (first | exact Nat.le_refl _ | (dsimp only; omega) | (simp; done) | (simp; omega))) | with_reducible refine below_alloc ?_ _ | with_reducible apply below_drewN | with_reducible apply Below.drew | with_reducible refine below_step ?_ (by assumption)))⟩
    · have hd : d = 0 := e4 (by omega)
      subst hd
      clear e1 e4 hy
      go_enter Try.func63, Try.ntmps63
      go_wp2_with (first | (go_at_call 80; (with_reducible refine (kT _).mono ?_); rintro e w1 ⟨rfl, hM⟩) | (go_at_call 80; (with_reducible refine (kU _).mono ?_); rintro e w1 ⟨rfl, hM⟩) | (go_at_call 66; (with_reducible refine (kM _).mono ?_); rintro e w1 ⟨rfl, hM⟩) | (go_at_call 73; (with_reducible refine (kD _).mono ?_); rintro e w1 ⟨rfl, hM⟩))
      go_ret
      exact ⟨by rw [EV.out]; simp, by (repeat (first | with_reducible assumption | with_reducible exact Below.refl _ _ | ((with_reducible refine Below.setCell ?_ ?_ _); rotate_left; (first | exact Nat.le_refl _ | (dsimp only; omega) | (simp; done) | (simp; omega))) | with_reducible refine below_alloc ?_ _ | with_reducible apply below_drewN | with_reducible apply Below.drew | with_reducible refine below_step ?_ (by assumption)))⟩
  · have hy : 1073741824 - r = y := by rw [← hy]; rfl
    have EV : Hid (V = -(s0 + d)) := Lib.hid (by rw [HE.out]; rfl)
    by_cases hf : 0 < y % 16777216
    · rw [e1 hf] at kU
      clear e1 e4
      go_enter Try.func63, Try.ntmps63
      go_wp2_with (first | (go_at_call 80; (with_reducible refine (kT _).mono ?_); rintro e w1 ⟨rfl, hM⟩) | (go_at_call 80; (with_reducible refine (kU _).mono ?_); rintro e w1 ⟨rfl, hM⟩) | (go_at_call 66; (with_reducible refine (kM _).mono ?_); rintro e w1 ⟨rfl, hM⟩) | (go_at_call 73; (with_reducible refine (kD _).mono ?_); rintro e w1 ⟨rfl, hM⟩))
      go_ret
      exact ⟨by rw [EV.out]; rfl, by (repeat (first | with_reducible assumption | with_reducible exact Below.refl _ _ | ((with_reducible refine Below.setCell ?_ ?_ _); rotate_left; (first | exact Nat.le_refl _ | (dsimp only; omega) | (simp; done) | (simp; omega))) | with_reducible refine below_alloc ?_ _ | with_reducible apply below_drewN | with_reducible apply Below.drew | with_reducible refine below_step ?_ (by assumption)))⟩
    · have hd : d = 0 := e4 (by omega)
      subst hd
      clear e1 e4
      go_enter Try.func63, Try.ntmps63
      go_wp2_with (first | (go_at_call 80; (with_reducible refine (kT _).mono ?_); rintro e w1 ⟨rfl, hM⟩) | (go_at_call 80; (with_reducible refine (kU _).mono ?_); rintro e w1 ⟨rfl, hM⟩) | (go_at_call 66; (with_reducible refine (kM _).mono ?_); rintro e w1 ⟨rfl, hM⟩) | (go_at_call 73; (with_reducible refine (kD _).mono ?_); rintro e w1 ⟨rfl, hM⟩))
      go_ret
      exact ⟨by rw [EV.out]; simp, by (repeat (first | with_reducible assumption | with_reducible exact Below.refl _ _ | ((with_reducible refine Below.setCell ?_ ?_ _); rotate_left; (first | exact Nat.le_refl _ | (dsimp only; omega) | (simp; done) | (simp; omega))) | with_reducible refine below_alloc ?_ _ | with_reducible apply below_drewN | with_reducible apply Below.drew | with_reducible refine below_step ?_ (by assumption)))⟩
theorem cCos (t : Int) (w : World) (t0 : 0 ≤ t) (t1 : t ≤ 4294967295) : Calls Try.prog 62 #[.int .u32 t] w fun e w' => e = .returned (.int .i64 (cosv t)) ∧ Below w.heap.size w w' := by
  have k := fun W => cSin ((t + 1073741824) % 4294967296) W (by omega) (by omega)
  unfold cosv
  go_enter Try.func62, Try.ntmps62
  go_wp2_with (first | (go_at_call 63; (with_reducible refine (k _).mono ?_); rintro e w1 ⟨rfl, hM⟩))
  go_ret
  exact ⟨rfl, by (repeat (first | with_reducible assumption | with_reducible exact Below.refl _ _ | ((with_reducible refine Below.setCell ?_ ?_ _); rotate_left; (first | exact Nat.le_refl _ | (dsimp only; omega) | (simp; done) | (simp; omega))) | with_reducible refine below_alloc ?_ _ | with_reducible apply below_drewN | with_reducible apply Below.drew | with_reducible refine below_step ?_ (by assumption)))⟩
end Go.Proofs.Ytjpkkpflamkjkaa
