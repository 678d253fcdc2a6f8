/- The laws' awake. -/
import Derived.Test.YthieinnlpfdemaaS11
set_option linter.unusedSimpArgs false
set_option linter.unusedVariables false
namespace Go.Proofs.Ythieinnlpfdemaa
open Go.RowKit
set_option maxHeartbeats 4000000 in
theorem cAwake11 (w : World) : Calls Try.prog 13 #[] w fun e w' => e = .returned (.bool true) ∧ Below w.heap.size w w' := by
  have k2 := fun (g : Nat) (W : World) (h1 : Pt ⟨g, 0, none⟩ 4 sqX sqY W) (h2 : g ≠ w.heap.size) => cSamples ⟨g, 0, none⟩ 4 4 sqX sqY w.heap.size false W (by decide) (by decide) e_nrs h1 h2
  have k3 := fun (g c : Nat) (W : World) (h1 : Pt ⟨g, 0, none⟩ 32 (SV sqX 4) (SV sqY 4) W) (h2 : g ≠ w.heap.size) => cLengths ⟨g, 0, none⟩ 32 c (SV sqX 4) (SV sqY 4) w.heap.size false W (by decide) (fun j _ => SV_bd sqX 4 j) (fun j _ => SV_bd sqY 4 j) h1 h2
  have k4 := fun (g : Nat) (W : World) (h1 : Pt ⟨g, 0, none⟩ 4 sqX sqY W) (h2 : g ≠ w.heap.size) => cAt ⟨g, 0, none⟩ 4 4 5 sqX sqY 0 w.heap.size false W (by decide) (by decide) (by decide) (by decide) (by decide) (by decide) e_nrs h1 h2
  have k5 := fun (g c : Nat) (W : World) (h1 : Pt ⟨g, 0, none⟩ 32 (SV sqX 4) (SV sqY 4) W) => cNearY ⟨g, 0, none⟩ 32 c (SV sqX 4) (SV sqY 4) 38654705664 (-4294967296) W (by decide) e_pn e_nrs2 h1
  simp only [show 8 * 4 = 32 from rfl, e_smok, e_lok 32 (by decide), e_pc, e_x, e_y, e_ox, e_oy, e_bst, Bool.not_true, Bool.or_false] at k2 k3 k4 k5
  go_enter Try.func13, Try.ntmps13
  go_wp2_with (fail)
  go_at_call 35
  refine (cSample _).mono ?_
  rintro e w1 ⟨g1, rfl, hg1, P1, hB⟩
  have hz1 : w.heap.size + 1 ≤ g1 := by simpa using hg1
  have hc : w1.cell? ⟨w.heap.size, 0, none⟩ = some (.bool false) := cell_later hB (by simp [go_sem])
  have hf : w1.frozen? ⟨w.heap.size, 0, none⟩ = false := frozen_later hB (a := ⟨w.heap.size, 0, none⟩) (v := .bool false) (by simp [go_sem]) (by simp [go_sem])
  have HB : Below w.heap.size w w1 := below_step (W := _) (by (repeat (first | with_reducible assumption | with_reducible exact Below.refl _ _ | ((with_reducible refine Below.setCell ?_ ?_ _); rotate_left; (first | exact Nat.le_refl _ | (dsimp only; omega) | (simp; done) | (simp; omega))) | with_reducible refine below_alloc ?_ _ | with_reducible apply below_drewN | with_reducible apply Below.drew | with_reducible refine below_step ?_ (by assumption)))) hB
  clear hB
  go_wp2_with (fail)
  go_at_call 15
  refine (k2 g1 _ P1 (by omega) hc hf).mono ?_
  rintro e w2 ⟨g2, c2, rfl, hg2, P2, hM⟩
  have HT : On w.heap.size false w w2 := On.start HB hM (Nat.le_refl _)
  have hw2 : w.heap.size < w2.heap.size := lt_of_cell HT.cb
  have hw1 := lt_of_cell hc
  clear k2 P1 hc hf hM HB
  go_wp2_with (fail)
  go_at_call 18
  refine (k3 g2 c2 _ P2 (by omega) HT.cb HT.fb).mono ?_
  rintro e w3 ⟨g3, c3, rfl, hg3, P3, hM⟩
  have HT := On.mv HT hM
  have P2 := P2.mv hM (show g2 ≠ w.heap.size by omega)
  have hw3 : w.heap.size < w3.heap.size := lt_of_cell HT.cb
  have hl : w3.cell? ⟨g3, 32, none⟩ = some (.int .i64 144197465552) := by have := P3 32 (by omega); rw [e_last] at this; exact this
  clear k3 P3 hM
  go_wp2_with (fail)
  go_at_call 35
  refine (cSample _).mono ?_
  rintro e w4 ⟨g4, rfl, hg4, P4, hB⟩
  have HT := On.after HT hB
  have P2 := P2.later hB
  have hl := cell_later hB hl
  have hw4 : w.heap.size < w4.heap.size := lt_of_cell HT.cb
  clear hB
  go_wp2_with (fail)
  go_at_call 11
  refine (k4 g4 _ P4 (by omega) HT.cb HT.fb).mono ?_
  rintro e w5 ⟨rfl, hM⟩
  have HT := On.mv HT hM
  have P2 := P2.mv hM (show g2 ≠ w.heap.size by omega)
  have hl := mv_cell hM (by dsimp only; omega) hl
  clear hM k4 P4
  go_wp2_with (fail)
  go_at_call 35
  refine (cSample _).mono ?_
  rintro e w6 ⟨g6, rfl, hg6, P6, hB⟩
  have HT := On.after HT hB
  have P2 := P2.later hB
  have hl := cell_later hB hl
  clear hB
  have hx := (P6 1 (by decide)).1
  have hy := (P6 1 (by decide)).2
  clear P6
  have hxy : w6.cell? ⟨g6, 2, none⟩ = some (.int .i64 34359738368) ∧ w6.cell? ⟨g6, 3, none⟩ = some (.int .i64 0) := ⟨hx, hy⟩
  clear hx hy
  obtain ⟨hx, hy⟩ := hxy
  go_wp2_with (fail)
  go_at_call 20
  refine (k5 g2 c2 _ P2).mono ?_
  rintro e w8 ⟨rfl, hB⟩
  have HT := On.after HT hB
  have hl := cell_later hB hl
  clear hB P2 k5
  have hc := HT.cb
  go_wp2
  go_ret
  exact ⟨rfl, by first | exact HT.below | exact (HT.drew).below⟩
end Go.Proofs.Ythieinnlpfdemaa
