/- Chapter 40's example: a line, a text, no word. -/
import Derived.Test.YtdanogeiodkcbaaE4
set_option linter.unusedSimpArgs false
set_option linter.unusedVariables false
namespace Go.Proofs.Ytdanogeiodkcbaa
open Go.RowKit
theorem tA : clk (ths 515396075520 60).toNat = [48, 58, 48, 50, 46, 48, 48, 48] := by decide
theorem tB : clk (ths 257698037760 60).toNat = [48, 58, 48, 49, 46, 48, 48, 48] := by decide
theorem tC : clk (ths 15848429322240 60).toNat = [49, 58, 48, 49, 46, 53, 48, 48] := by decide
set_option maxHeartbeats 8000000 in
theorem cLineA (w : World) : Calls Try.prog 11 #[.agg #[.int .i64 3, .int .i64 0, .int .i64 515396075520, .int .i64 257698037760], .int .i64 60] w fun e w' =>
    e = .returned (.string (bs ([48, 58, 48, 50, 46, 48, 48, 48] ++ [32] ++ [108, 97, 112] ++ [32] ++ [48] ++ [32] ++ [48, 58, 48, 49, 46, 48, 48, 48]))) ∧ Below w.heap.size w w' := by
  have k1 := fun W => cClockY 515396075520 60 W (by decide) (by decide) (by decide) (by decide)
  have k2 := fun W => cClockY 257698037760 60 W (by decide) (by decide) (by decide) (by decide)
  have k3 := fun W => cWord 3 W (by decide) (by decide)
  have k4 : ∀ W, Calls Try.prog 13 #[.int .i64 0] W fun e w' => e = .returned (.string (bs [48])) ∧ Below W.heap.size W w' := fun W => cWholeP 0 W (by decide)
  rw [tA] at k1
  rw [tB] at k2
  rw [show wrd 3 = [108, 97, 112] from rfl] at k3
  have z1 : (bs [48, 58, 48, 50, 46, 48, 48, 48]).toList.isEmpty = false := by rw [bs_toList]; rfl
  have z2 : (bs [108, 97, 112]).toList.isEmpty = false := by rw [bs_toList]; rfl
  have J : ∀ (b : Nat) (c : Nat) (W : World), 4 ≤ c → W.cell? ⟨b, 0, none⟩ = some (.string (bs [48, 58, 48, 50, 46, 48, 48, 48])) → W.cell? ⟨b, 1, none⟩ = some (.string (bs [108, 97, 112])) → W.cell? ⟨b, 2, none⟩ = some (.string (bs [48])) → W.cell? ⟨b, 3, none⟩ = some (.string (bs [48, 58, 48, 49, 46, 48, 48, 48])) →
      Calls Try.prog 18 #[.slice (some ⟨b, 0, none⟩) 4 c, .string ⟨#[32]⟩] W fun e w' => e = .returned (.string (bs ([48, 58, 48, 50, 46, 48, 48, 48] ++ [32] ++ [108, 97, 112] ++ [32] ++ [48] ++ [32] ++ [48, 58, 48, 49, 46, 48, 48, 48]))) ∧ Below W.heap.size W w' := by
    intro b c W hc h0 h1 h2 h3
    have hb := World.block_lt_of_cell? W _ h0
    have h := shJoin b 0 c [bs [48, 58, 48, 50, 46, 48, 48, 48], bs [108, 97, 112], bs [48], bs [48, 58, 48, 49, 46, 48, 48, 48]] ⟨#[32]⟩ W (fun j x hx => by
      rcases j with _ | _ | _ | _ | j
      · cases hx; exact h0
      · cases hx; exact h1
      · cases hx; exact h2
      · cases hx; exact h3
      · simp at hx) hb (by decide) hc (by decide)
    exact h
  have HJ := Lib.hid J
  clear J
  generalize bs ([48, 58, 48, 50, 46, 48, 48, 48] ++ [32] ++ [108, 97, 112] ++ [32] ++ [48] ++ [32] ++ [48, 58, 48, 49, 46, 48, 48, 48]) = T at *
  generalize bs [48, 58, 48, 50, 46, 48, 48, 48] = T1 at *
  generalize bs [108, 97, 112] = T2 at *
  generalize bs [48] = T3 at *
  generalize bs [48, 58, 48, 49, 46, 48, 48, 48] = T4 at *
  go_enter Try.func11, Try.ntmps11
  go_upto_region 1 with (fail)
  (try refine wp_region_noPanic ?_)
  refine wp_region_held_drew (S := (fun (w' : World) => w'.cell? ⟨w.heap.size, 0, none⟩ = some (.int .i64 3) ∧ w'.cell? ⟨w.heap.size, 1, none⟩ = some (.int .i64 0) ∧ w'.cell? ⟨w.heap.size, 2, none⟩ = some (.int .i64 515396075520) ∧ w'.cell? ⟨w.heap.size, 3, none⟩ = some (.int .i64 257698037760))) (by kernel_rfl) ⟨(by first | (simp (maxDischargeDepth := 6) [go_sem, *]; done)), (by first | (simp (maxDischargeDepth := 6) [go_sem, *]; done)), (by first | (simp (maxDischargeDepth := 6) [go_sem, *]; done)), (by first | (simp (maxDischargeDepth := 6) [go_sem, *]; done))⟩ (fun hHeld => ?_)
  refine wpAnyH_take (i := 0) (v := ?_) (by simp only [List.getElem?_toArray, List.getElem?_cons_succ, List.getElem?_cons_zero]; rfl) (by kernel_rfl) (by kernel_rfl) (by kernel_rfl) (fun _ _ _ h => h) (Or.inl ⟨by rfl, ?_⟩) (by assumption) ?_
  rotate_left
  · intro w hSw; (try dsimp only at hSw); go_simp; try with_reducible rfl
  try simp only [Act.put, List.setIfInBounds_toArray, List.set_cons_zero, List.set_cons_succ]
  refine wpAnyH_take (i := 2) (v := ?_) (by simp only [List.getElem?_toArray, List.getElem?_cons_succ, List.getElem?_cons_zero]; rfl) (by kernel_rfl) (by kernel_rfl) (by kernel_rfl) (fun _ _ _ h => h) (Or.inl ⟨by rfl, ?_⟩) (by assumption) ?_
  rotate_left
  · intro w hSw; (try dsimp only at hSw); go_simp; try with_reducible rfl
  try simp only [Act.put, List.setIfInBounds_toArray, List.set_cons_zero, List.set_cons_succ]
  refine wpAnyH_take (i := 4) (v := ?_) (by simp only [List.getElem?_toArray, List.getElem?_cons_succ, List.getElem?_cons_zero]; rfl) (by kernel_rfl) (by kernel_rfl) (by kernel_rfl) (fun _ _ _ h => h) (Or.inl ⟨by rfl, ?_⟩) (by assumption) ?_
  rotate_left
  · intro w hSw; (try dsimp only at hSw); go_simp; try with_reducible rfl
  try simp only [Act.put, List.setIfInBounds_toArray, List.set_cons_zero, List.set_cons_succ]
  refine wpAnyH_take (i := 7) (v := ?_) (by simp only [List.getElem?_toArray, List.getElem?_cons_succ, List.getElem?_cons_zero]; rfl) (by kernel_rfl) (by kernel_rfl) (by kernel_rfl) (fun _ _ _ h => h) (Or.inl ⟨by rfl, ?_⟩) (by assumption) ?_
  rotate_left
  · intro w hSw; (try dsimp only at hSw); go_simp; try with_reducible rfl
  try simp only [Act.put, List.setIfInBounds_toArray, List.set_cons_zero, List.set_cons_succ]
  refine wpAnyH_take (i := 1) (v := ?_) (by simp only [List.getElem?_toArray, List.getElem?_cons_succ, List.getElem?_cons_zero]; rfl) (by kernel_rfl) (by kernel_rfl) (by kernel_rfl) (fun _ _ _ h => h) (Or.inl ⟨by rfl, ?_⟩) (by assumption) ?_
  rotate_left
  · intro w hSw; (try dsimp only at hSw); go_simp; try with_reducible rfl
  try simp only [Act.put, List.setIfInBounds_toArray, List.set_cons_zero, List.set_cons_succ]
  refine wpAnyH_take (i := 5) (v := ?_) (by simp only [List.getElem?_toArray, List.getElem?_cons_succ, List.getElem?_cons_zero]; rfl) (by kernel_rfl) (by kernel_rfl) (by kernel_rfl) (fun _ _ _ h => h) (Or.inl ⟨by rfl, ?_⟩) (by assumption) ?_
  rotate_left
  · intro w hSw; (try dsimp only at hSw); go_simp; try with_reducible rfl
  try simp only [Act.put, List.setIfInBounds_toArray, List.set_cons_zero, List.set_cons_succ]
  refine wpAnyH_take (i := 8) (v := ?_) (by simp only [List.getElem?_toArray, List.getElem?_cons_succ, List.getElem?_cons_zero]; rfl) (by kernel_rfl) (by kernel_rfl) (by kernel_rfl) (fun _ _ _ h => h) (Or.inl ⟨by rfl, ?_⟩) (by assumption) ?_
  rotate_left
  · intro w hSw; (try dsimp only at hSw); go_simp; try with_reducible rfl
  try simp only [Act.put, List.setIfInBounds_toArray, List.set_cons_zero, List.set_cons_succ]
  refine wpAnyH_ready (rs := [3]) (by kernel_rfl) (by simp) ?_
  refine AllReadyH.cons rfl (fun K hK => ?_) AllReadyH.nil
  have hOld := hHeld; clear hHeld
  go_simp
  (go_at_call 7; (with_reducible refine (k1 _).mono ?_); rintro e w1 ⟨rfl, hM⟩)
  (try go_wp2_with (fail))
  refine hK.out _ _ ⟨(by first | exact mv_cell hM (by first | (dsimp only; omega) | (simp; omega)) hOld.1 | exact cell_later hM hOld.1 | exact HT.cb | exact HT.cc | (simp (maxDischargeDepth := 6) [go_sem, *]; done)), (by first | exact mv_cell hM (by first | (dsimp only; omega) | (simp; omega)) hOld.2.1 | exact cell_later hM hOld.2.1 | exact HT.cb | exact HT.cc | (simp (maxDischargeDepth := 6) [go_sem, *]; done)), (by first | exact mv_cell hM (by first | (dsimp only; omega) | (simp; omega)) hOld.2.2.1 | exact cell_later hM hOld.2.2.1 | exact HT.cb | exact HT.cc | (simp (maxDischargeDepth := 6) [go_sem, *]; done)), (by first | exact mv_cell hM (by first | (dsimp only; omega) | (simp; omega)) hOld.2.2.2 | exact cell_later hM hOld.2.2.2 | exact HT.cb | exact HT.cc | (simp (maxDischargeDepth := 6) [go_sem, *]; done))⟩ (fun hHeld => ?_)
  clear hK K hOld
  try simp only [Act.put, List.setIfInBounds_toArray, List.set_cons_zero, List.set_cons_succ]
  have HB : Below w.heap.size w _ := below_step (W := _) (by (repeat (first | with_reducible assumption | with_reducible exact Below.refl _ _ | ((with_reducible refine Below.setCell ?_ ?_ _); rotate_left; (first | exact Nat.le_refl _ | (dsimp only; omega) | (simp; done) | (simp; omega))) | with_reducible refine below_alloc ?_ _ | with_reducible apply below_drewN | with_reducible apply Below.drew | with_reducible refine below_step ?_ (by assumption)))) hM
  refine wpAnyH_ready (rs := [6]) (by kernel_rfl) (by simp) ?_
  refine AllReadyH.cons rfl (fun K hK => ?_) AllReadyH.nil
  have hOld := hHeld; clear hHeld
  go_simp
  (go_at_call 9; (with_reducible refine (k3 _).mono ?_); rintro e w1 ⟨rfl, hM⟩)
  (try go_wp2_with (fail))
  refine hK.out _ _ ⟨(by first | exact mv_cell hM (by first | (dsimp only; omega) | (simp; omega)) hOld.1 | exact cell_later hM hOld.1 | exact HT.cb | exact HT.cc | (simp (maxDischargeDepth := 6) [go_sem, *]; done)), (by first | exact mv_cell hM (by first | (dsimp only; omega) | (simp; omega)) hOld.2.1 | exact cell_later hM hOld.2.1 | exact HT.cb | exact HT.cc | (simp (maxDischargeDepth := 6) [go_sem, *]; done)), (by first | exact mv_cell hM (by first | (dsimp only; omega) | (simp; omega)) hOld.2.2.1 | exact cell_later hM hOld.2.2.1 | exact HT.cb | exact HT.cc | (simp (maxDischargeDepth := 6) [go_sem, *]; done)), (by first | exact mv_cell hM (by first | (dsimp only; omega) | (simp; omega)) hOld.2.2.2 | exact cell_later hM hOld.2.2.2 | exact HT.cb | exact HT.cc | (simp (maxDischargeDepth := 6) [go_sem, *]; done))⟩ (fun hHeld => ?_)
  clear hK K hOld
  try simp only [Act.put, List.setIfInBounds_toArray, List.set_cons_zero, List.set_cons_succ]
  have HB := below_step HB hM
  refine wpAnyH_ready (rs := [9]) (by kernel_rfl) (by simp) ?_
  refine AllReadyH.cons rfl (fun K hK => ?_) AllReadyH.nil
  have hOld := hHeld; clear hHeld
  go_simp
  (go_at_call 13; (with_reducible refine (k4 _).mono ?_); rintro e w1 ⟨rfl, hM⟩)
  (try go_wp2_with (fail))
  refine hK.out _ _ ⟨(by first | exact mv_cell hM (by first | (dsimp only; omega) | (simp; omega)) hOld.1 | exact cell_later hM hOld.1 | exact HT.cb | exact HT.cc | (simp (maxDischargeDepth := 6) [go_sem, *]; done)), (by first | exact mv_cell hM (by first | (dsimp only; omega) | (simp; omega)) hOld.2.1 | exact cell_later hM hOld.2.1 | exact HT.cb | exact HT.cc | (simp (maxDischargeDepth := 6) [go_sem, *]; done)), (by first | exact mv_cell hM (by first | (dsimp only; omega) | (simp; omega)) hOld.2.2.1 | exact cell_later hM hOld.2.2.1 | exact HT.cb | exact HT.cc | (simp (maxDischargeDepth := 6) [go_sem, *]; done)), (by first | exact mv_cell hM (by first | (dsimp only; omega) | (simp; omega)) hOld.2.2.2 | exact cell_later hM hOld.2.2.2 | exact HT.cb | exact HT.cc | (simp (maxDischargeDepth := 6) [go_sem, *]; done))⟩ (fun hHeld => ?_)
  clear hK K hOld
  try simp only [Act.put, List.setIfInBounds_toArray, List.set_cons_zero, List.set_cons_succ]
  have HB := below_step HB hM
  refine wpAnyH_ready (rs := [10]) (by kernel_rfl) (by simp) ?_
  refine AllReadyH.cons rfl (fun K hK => ?_) AllReadyH.nil
  have hOld := hHeld; clear hHeld
  go_simp
  (try go_wp2_with (fail))
  refine hK.out _ _ ⟨(by first | exact mv_cell hM (by first | (dsimp only; omega) | (simp; omega)) hOld.1 | exact cell_later hM hOld.1 | exact HT.cb | exact HT.cc | (simp (maxDischargeDepth := 6) [go_sem, *]; done)), (by first | exact mv_cell hM (by first | (dsimp only; omega) | (simp; omega)) hOld.2.1 | exact cell_later hM hOld.2.1 | exact HT.cb | exact HT.cc | (simp (maxDischargeDepth := 6) [go_sem, *]; done)), (by first | exact mv_cell hM (by first | (dsimp only; omega) | (simp; omega)) hOld.2.2.1 | exact cell_later hM hOld.2.2.1 | exact HT.cb | exact HT.cc | (simp (maxDischargeDepth := 6) [go_sem, *]; done)), (by first | exact mv_cell hM (by first | (dsimp only; omega) | (simp; omega)) hOld.2.2.2 | exact cell_later hM hOld.2.2.2 | exact HT.cb | exact HT.cc | (simp (maxDischargeDepth := 6) [go_sem, *]; done))⟩ (fun hHeld => ?_)
  clear hK K hOld
  try simp only [Act.put, List.setIfInBounds_toArray, List.set_cons_zero, List.set_cons_succ]
  refine wpAnyH_take (i := 11) (v := ?_) (by simp only [List.getElem?_toArray, List.getElem?_cons_succ, List.getElem?_cons_zero]; rfl) (by kernel_rfl) (by kernel_rfl) (by kernel_rfl) (fun _ _ _ h => h) (Or.inl ⟨by rfl, ?_⟩) (by assumption) ?_
  rotate_left
  · intro w hSw; (try dsimp only at hSw); go_simp; try with_reducible rfl
  try simp only [Act.put, List.setIfInBounds_toArray, List.set_cons_zero, List.set_cons_succ]
  refine wpAnyH_done (by kernel_rfl) ?_ _
  (try refine NoPanic.normal ?_)
  (try clear q0); (try clear q1); (try clear q2); (try clear q3); obtain ⟨q0, q1, q2, q3⟩ := hHeld
  rename World => wa
  have hwa := World.block_lt_of_cell? _ _ q0
  have hcap : Builtin.nextslicecap 4 3 = 6 := by decide
  have hcb : Try.t9.bytes = 16 := by decide
  go_upto_region 5 with (fail)
  go_wp2_with (fail)
  (go_at_call 7; (with_reducible refine (k2 _).mono ?_); rintro e w1 ⟨rfl, hM⟩)
  have c0 := cell_later (a := ⟨wa.heap.size, 0, none⟩) (v := .string T1) hM (by simp [go_sem])
  have c1 := cell_later (a := ⟨wa.heap.size, 1, none⟩) (v := .string T2) hM (by simp [go_sem])
  have c2 := cell_later (a := ⟨wa.heap.size, 2, none⟩) (v := .string T3) hM (by simp [go_sem])
  have hzz := World.block_lt_of_cell? _ _ c0
  dsimp only at hzz
  have HB : Below w.heap.size w w1 := below_step (W := _) (by (repeat (first | with_reducible assumption | with_reducible exact Below.refl _ _ | ((with_reducible refine Below.setCell ?_ ?_ _); rotate_left; (first | exact Nat.le_refl _ | (dsimp only; omega) | (simp; done) | (simp; omega))) | with_reducible refine below_alloc ?_ _ | with_reducible apply below_drewN | with_reducible apply Below.drew | with_reducible refine below_step ?_ (by assumption)))) hM
  clear hM q0 q1 q2 q3
  go_wp2_with (fail)
  have hge : 4 ≤ (Question.appendCap 4 3 9).cut (w1.tape w1.drawn (Question.appendCap 4 3 9)) := grownCap_ge w1 4 3 9
  (go_at_call 18; (with_reducible refine (HJ.out _ _ _ hge (by simp [go_sem]; rw [Array.getElem?_append_left (by simp)]; simp) (by simp [go_sem]; rw [Array.getElem?_append_left (by simp)]; simp) (by simp [go_sem]; rw [Array.getElem?_append_left (by simp)]; simp) (by simp [go_sem]; rw [Array.getElem?_append_left (by simp)]; simp)).mono ?_); rintro e w2 ⟨rfl, hN⟩)
  have HB2 : Below w.heap.size w w2 := below_step (W := _) (by (repeat (first | with_reducible assumption | with_reducible exact Below.refl _ _ | ((with_reducible refine Below.setCell ?_ ?_ _); rotate_left; (first | exact Nat.le_refl _ | (dsimp only; omega) | (simp; done) | (simp; omega))) | with_reducible refine below_alloc ?_ _ | with_reducible apply below_drewN | with_reducible apply Below.drew | with_reducible refine below_step ?_ (by assumption)))) hN
  go_wp2
  go_ret
  exact ⟨rfl, HB2⟩
theorem eq_ss (l : List UInt8) (a : Array UInt8) (h : l = a.toList) : bs l = ⟨a⟩ := by subst h; rfl
set_option maxHeartbeats 8000000 in
theorem cAwake40 (w : World) : Calls Try.prog 6 #[] w fun e w' => e = .returned (.bool true) ∧ Below w.heap.size w w' := by
  have k1 := fun W => cClockY 15848429322240 60 W (by decide) (by decide) (by decide) (by decide)
  have k2 := fun W => cLineA W
  have k3 := fun W => cWord 9 W (by decide) (by decide)
  rw [tC] at k1
  rw [show wrd 9 = [] from rfl] at k3
  simp only [bs, List.cons_append, List.nil_append] at k1 k2 k3
  go_enter Try.func6, Try.ntmps6
  go_wp2_with (first | (go_at_call 7; (with_reducible refine (k1 _).mono ?_); rintro e w1 ⟨rfl, hM⟩) | (go_at_call 11; (with_reducible refine (k2 _).mono ?_); rintro e w1 ⟨rfl, hM⟩) | (go_at_call 9; (with_reducible refine (k3 _).mono ?_); rintro e w1 ⟨rfl, hM⟩))
  go_ret
  exact ⟨rfl, by (repeat (first | with_reducible assumption | with_reducible exact Below.refl _ _ | ((with_reducible refine Below.setCell ?_ ?_ _); rotate_left; (first | exact Nat.le_refl _ | (dsimp only; omega) | (simp; done) | (simp; omega))) | with_reducible refine below_alloc ?_ _ | with_reducible apply below_drewN | with_reducible apply Below.drew | with_reducible refine below_step ?_ (by assumption)))⟩
end Go.Proofs.Ytdanogeiodkcbaa
