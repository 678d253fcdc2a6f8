/- Attitudes about the upright; the examples of chapter 6 ('awake'). -/
import Derived.Test.YtjpkkpflamkjkaaX4
import Derived.Test.YtjpkkpflamkjkaaX2
import Derived.Test.YtjpkkpflamkjkaaT3
set_option linter.unusedSimpArgs false
set_option linter.unusedVariables false
namespace Go.Proofs.Ytjpkkpflamkjkaa
open Go.RowKit
set_option linter.unusedVariables false
theorem below_row {w w1 : World} {N : Nat} (h : Below N w w1) {g : Nat} (hg : N ≤ g) (c : Array Value) : Below N w (w1.setRow g c) :=
  ⟨h.os, h.tape, h.output, by rw [show (w1.setRow g c).heap.size = w1.heap.size by simp [World.setRow]]; exact h.size, fun k hk => (setRow_other w1 g k c (by omega)).trans (h.block k hk)⟩
set_option maxHeartbeats 4000000 in
theorem cAbout (t : Int) (pm : Option Addr) (w : World) (t0 : 0 ≤ t) (t1 : t ≤ 4294967295) :
    Calls Try.prog 27 #[.pointer pm, .int .u32 t] w fun e w' => e = .returned (.agg #[.int .i64 (cosv (t / 2)), .int .i64 0, .int .i64 0, .int .i64 (sinv (t / 2))]) ∧ Below w.heap.size w w' := by
  have k1 := fun W => cCos (t / 2) W (by omega) (by omega)
  have k2 := fun W => cSin (t / 2) W (by omega) (by omega)
  generalize cosv (t / 2) = c at *
  generalize sinv (t / 2) = s at *
  have hd : t.tdiv 2 = t / 2 := Int.tdiv_eq_ediv_of_nonneg t0
  go_enter Try.func27, Try.ntmps27
  go_wp2_with (fail)
  generalize hW : World.alloc _ _ = W1
  have hR : W1.heap[w.heap.size]? = some (.cells #[.int .i64 0, .int .i64 0, .int .i64 0, .int .i64 0] 24 (0, 0)) := by
    rw [← hW]
    exact row_new w (.cells #[.int .i64 0, .int .i64 0, .int .i64 0, .int .i64 0] 24)
  have HB : Below w.heap.size w W1 := by rw [← hW]; (repeat (first | with_reducible assumption | with_reducible exact Below.refl _ _ | ((with_reducible refine Below.setCell ?_ ?_ _); rotate_left; (first | exact Nat.le_refl _ | (dsimp only; omega) | (simp; done) | (simp; omega))) | with_reducible refine below_alloc ?_ _ | with_reducible apply below_drewN | with_reducible apply Below.drew | with_reducible refine below_step ?_ (by assumption)))
  clear hW
  (with_reducible refine (k1 _).mono ?_); rintro e w1 ⟨rfl, hM⟩
  have hR := row_later hR hM
  have HB := below_step HB hM
  go_wp2_with (fail)
  (with_reducible refine (k2 _).mono ?_); rintro e w2 ⟨rfl, hM⟩
  have hR := row_later hR hM
  have HB := below_step HB hM
  go_wp2_with (refine wpList_store_row rfl 24 _ _ rfl (w.heap.size) #[.int .i64 c, .int .i64 0, .int .i64 0, .int .i64 s] (by rfl) (by rfl) 24 _ hR (by kernel_rfl) rfl (by simp [Value.oneCell']) ?_)
  have hR := row_put #[.int .i64 c, .int .i64 0, .int .i64 0, .int .i64 s] hR
  refine bodyPost_ret (results_cell_row rfl _ _ (w.heap.size) 24 #[.int .i64 c, .int .i64 0, .int .i64 0, .int .i64 s] (0, 0) _ (by rfl) hR Try.underlying24 rfl (by kernel_rfl)) rfl ⟨rfl, ?_⟩
  exact below_row HB (Nat.le_refl _) _
theorem cosv_8 : cosv 536870912 = 3037000500 := by decide +kernel
theorem cMatrixQ (b : Nat) (w : World) (hc : w.cell? ⟨b, 0, none⟩ = some (.bool false)) (hf : w.frozen? ⟨b, 0, none⟩ = false) :
    Calls Try.prog 9 #[.pointer (some ⟨b, 0, none⟩), .agg #[.int .i64 3037000500, .int .i64 0, .int .i64 0, .int .i64 3037000500]] w fun e w' => e = .returned (.agg #[.int .i64 0, .int .i64 (-4294967296), .int .i64 0, .int .i64 4294967296, .int .i64 0, .int .i64 0, .int .i64 0, .int .i64 0, .int .i64 4294967296]) ∧ Mv b false w w' := by
  have k := cMatrix 3037000500 0 0 3037000500 b false w (by decide) (by decide) (by decide) (by decide) (by decide) (by decide) (by decide) (by decide) hc hf
  have e1 : mo 0 3037000500 = 0 := by decide +kernel
  have e2 : mn 0 0 3037000500 3037000500 = -4294967296 := by decide +kernel
  have e3 : mp 0 3037000500 3037000500 0 = 0 := by decide +kernel
  have e4 : mp 0 0 3037000500 3037000500 = 4294967296 := by decide +kernel
  have e5 : mn 0 3037000500 3037000500 0 = 0 := by decide +kernel
  have e6 : mo 0 0 = 4294967296 := by decide +kernel
  have g1 : mok 0 3037000500 = true := by decide +kernel
  have g2 : mnk 0 0 3037000500 3037000500 = true := by decide +kernel
  have g3 : mpk 0 3037000500 3037000500 0 = true := by decide +kernel
  have g4 : mpk 0 0 3037000500 3037000500 = true := by decide +kernel
  have g5 : mnk 0 3037000500 3037000500 0 = true := by decide +kernel
  have g6 : mok 0 0 = true := by decide +kernel
  simpa only [e1, e2, e3, e4, e5, e6, g1, g2, g3, g4, g5, g6, Bool.not_true, Bool.or_false] using k
theorem cApplyQ (b : Nat) (w : World) (hc : w.cell? ⟨b, 0, none⟩ = some (.bool false)) (hf : w.frozen? ⟨b, 0, none⟩ = false) :
    Calls Try.prog 11 #[.pointer (some ⟨b, 0, none⟩), .agg #[.int .i64 0, .int .i64 (-4294967296), .int .i64 0, .int .i64 4294967296, .int .i64 0, .int .i64 0, .int .i64 0, .int .i64 0, .int .i64 4294967296], .agg #[.int .i64 4294967296, .int .i64 0, .int .i64 0]] w fun e w' => e = .returned (.agg #[.int .i64 0, .int .i64 4294967296, .int .i64 0]) ∧ Mv b false w w' := by
  have k := cApply 0 (-4294967296) 0 4294967296 0 0 0 0 4294967296 4294967296 0 0 b false w (by decide) (by decide) (by decide) (by decide) (by decide) (by decide) (by decide) (by decide) (by decide) (by decide) (by decide) (by decide) (by decide) (by decide) (by decide) (by decide) (by decide) (by decide) (by decide) (by decide) (by decide) (by decide) (by decide) (by decide) hc hf
  have e1 : dt 0 (-4294967296) 0 4294967296 0 0 = 0 := by decide +kernel
  have e2 : dt 4294967296 0 0 4294967296 0 0 = 4294967296 := by decide +kernel
  have e3 : dt 0 0 4294967296 4294967296 0 0 = 0 := by decide +kernel
  have g1 : dtok 0 (-4294967296) 0 4294967296 0 0 = true := by decide +kernel
  have g2 : dtok 4294967296 0 0 4294967296 0 0 = true := by decide +kernel
  have g3 : dtok 0 0 4294967296 4294967296 0 0 = true := by decide +kernel
  simpa only [e1, e2, e3, g1, g2, g3, Bool.not_true, Bool.or_false] using k
set_option maxHeartbeats 4000000 in
theorem cAwake6 (w : World) : Calls Try.prog 15 #[] w fun e w' => e = .returned (.bool true) ∧ Below w.heap.size w w' := by
  have k1 := fun pm W => cAbout 1073741824 pm W (by decide) (by decide)
  rw [show (1073741824 : Int) / 2 = 536870912 from rfl, cosv_8, sinv_45] at k1
  go_enter Try.func15, Try.ntmps15
  go_wp2_with (fail)
  have HM : Mv w.heap.size false (w.alloc (.cells #[.bool false] 29)) (w.alloc (.cells #[.bool false] 29)) := Mv.refl (by simp [go_sem]) (by simp [go_sem])
  have HB : Below w.heap.size w (w.alloc (.cells #[.bool false] 29)) := by (repeat (first | with_reducible assumption | with_reducible exact Below.refl _ _ | ((with_reducible refine Below.setCell ?_ ?_ _); rotate_left; (first | exact Nat.le_refl _ | (dsimp only; omega) | (simp; done) | (simp; omega))) | with_reducible refine below_alloc ?_ _ | with_reducible apply below_drewN | with_reducible apply Below.drew | with_reducible refine below_step ?_ (by assumption)))
  (with_reducible refine (k1 _ _).mono ?_); rintro e w1 ⟨rfl, hM⟩
  have HM := HM.below hM
  go_wp2_with (fail)
  (with_reducible refine (cMatrixQ _ _ HM.cell HM.free).mono ?_); rintro e w2 ⟨rfl, hM⟩
  have HM := HM.trans hM
  go_wp2_with (fail)
  (with_reducible refine (cApplyQ _ _ HM.cell HM.free).mono ?_); rintro e w3 ⟨rfl, hM⟩
  have HM := HM.trans hM
  have hc := HM.cell
  have hB := below_mv HB HM (Nat.le_refl _)
  clear HM hM HB
  have hc' := fun x => cell_later ((Below.refl w3.heap.size w3).alloc (Nat.le_refl _) x) hc
  go_wp2_with (fail)
  go_ret
  exact ⟨rfl, by (repeat (first | with_reducible assumption | with_reducible exact Below.refl _ _ | ((with_reducible refine Below.setCell ?_ ?_ _); rotate_left; (first | exact Nat.le_refl _ | (dsimp only; omega) | (simp; done) | (simp; omega))) | with_reducible refine below_alloc ?_ _ | with_reducible apply below_drewN | with_reducible apply Below.drew | with_reducible refine below_step ?_ (by assumption)))⟩
end Go.Proofs.Ytjpkkpflamkjkaa
