/- Contracts of package fx: what each method of a reckoner answers, and what it notes. -/
import Derived.Test.YtjpkkpflamkjkaaF0
import Derived.Deep.CutBlock
import Derived.Deep.DeepCutAuto
set_option linter.unusedSimpArgs false
set_option linter.unusedVariables false
namespace Go.Proofs.Ytjpkkpflamkjkaa
open Go.RowKit

/-- The bound on this side. -/
def bnd (neg : Bool) : Int := if neg = true then -9223372036854775808 else 9223372036854775807
theorem cBound (b : Nat) (o neg : Bool) (w : World) (hc : w.cell? ⟨b, 0, none⟩ = some (.bool o)) (hf : w.frozen? ⟨b, 0, none⟩ = false) :
    Calls Try.prog 58 #[.pointer (some ⟨b, 0, none⟩), .bool neg] w fun e w' => e = .returned (.int .i64 (bnd neg)) ∧ Mv b true w w' := by
  have HM := Mv.note (Mv.refl hc hf) true
  cases neg
  · go_enter Try.func58, Try.ntmps58
    go_wp2
    go_ret
    exact ⟨rfl, HM⟩
  · go_enter Try.func58, Try.ntmps58
    go_wp2
    go_ret
    exact ⟨rfl, HM⟩
theorem cBoundNil (neg : Bool) (w : World) :
    Calls Try.prog 58 #[.pointer none, .bool neg] w fun e w' => e = .returned (.int .i64 (bnd neg)) ∧ w = w' := by
  cases neg
  · go_enter Try.func58, Try.ntmps58
    go_wp2
    go_ret
    exact ⟨rfl, rfl⟩
  · go_enter Try.func58, Try.ntmps58
    go_wp2
    go_ret
    exact ⟨rfl, rfl⟩
theorem fit_no (n : Int) (h : fx n = false) (h0 : -170141183460469231731687303715884105728 ≤ n) (h1 : n ≤ 170141183460469231731687303715884105727) :
    (hw n != wrap64 (lw n) / 9223372036854775808) = true ∧ bnd (decide (hw n < 0)) = sat n := by
  unfold fx at h
  simp at h
  refine ⟨by unfold hw lw wrap64; simp; omega, ?_⟩
  unfold sat hw bnd
  by_cases hn : n / 18446744073709551616 < 0
  · rw [if_pos (by simpa using hn), if_pos (by omega)]
  · rw [if_neg (by simpa using hn), if_neg (by omega), if_pos (by omega)]
theorem fit_yes (n : Int) (h : fx n = true) : (hw n != wrap64 (lw n) / 9223372036854775808) = false ∧ wrap64 (lw n) = sat n := by
  rw [fx_iff] at h
  refine ⟨by unfold hw lw wrap64; simp; omega, ?_⟩
  rw [sat_id n h.1 h.2]; unfold lw wrap64; omega
theorem cFit (n : Int) (b : Nat) (o : Bool) (w : World) (h0 : -170141183460469231731687303715884105728 ≤ n) (h1 : n ≤ 170141183460469231731687303715884105727) (hc : w.cell? ⟨b, 0, none⟩ = some (.bool o)) (hf : w.frozen? ⟨b, 0, none⟩ = false) :
    Calls Try.prog 57 #[.agg #[.int .i64 (hw n), .int .u64 (lw n)], .func (.func 58) #[.pointer (some ⟨b, 0, none⟩)] #[]] w fun e w' => e = .returned (.int .i64 (sat n)) ∧ Mv b (o || !fx n) w w' := by
  have hc' := ck (o := .cells #[.int .i64 (hw n), .int .u64 (lw n)] 76) hc
  have hf' := fk (o := .cells #[.int .i64 (hw n), .int .u64 (lw n)] 76) hc hf
  cases hx : fx n with
  | true =>
    obtain ⟨e1, e2⟩ := fit_yes n hx
    have E2 := Lib.hid e2
    clear e2
    go_enter Try.func57, Try.ntmps57
    go_wp2
    go_ret
    exact ⟨by rw [← E2.out]; rfl, by simp; exact (Mv.refl hc hf).alloc _⟩
  | false =>
    obtain ⟨e1, e2⟩ := fit_no n hx h0 h1
    have E2 := Lib.hid e2
    clear e2
    go_enter Try.func57, Try.ntmps57
    go_wp2_with (go_at_call 58; refine (cBound b o _ _ (by assumption) (by assumption)).mono ?_; rintro e w1 ⟨rfl, hM⟩)
    go_ret
    exact ⟨by rw [← E2.out]; rfl, by simp; exact hM.after ((Below.refl _ _).alloc (Nat.le_refl _) _)⟩
theorem cFitNil (n : Int) (w : World) (h0 : -170141183460469231731687303715884105728 ≤ n) (h1 : n ≤ 170141183460469231731687303715884105727) :
    Calls Try.prog 57 #[.agg #[.int .i64 (hw n), .int .u64 (lw n)], .func (.func 58) #[.pointer none] #[]] w fun e w' => e = .returned (.int .i64 (sat n)) ∧ Below w.heap.size w w' := by
  cases hx : fx n with
  | true =>
    obtain ⟨e1, e2⟩ := fit_yes n hx
    have E2 := Lib.hid e2
    clear e2
    go_enter Try.func57, Try.ntmps57
    go_wp2
    go_ret
    exact ⟨by rw [← E2.out]; rfl, by (repeat (first | exact Below.refl _ _ | assumption | apply Below.drew | apply below_drewN | refine below_alloc ?_ _ | refine below_step ?_ (by assumption) | refine Below.alloc ?_ (by first | exact Nat.le_refl _ | omega | (simp; omega) | simp) _ | refine Below.setCell ?_ (by first | exact Nat.le_refl _ | omega | (simp; omega) | simp) _))⟩
  | false =>
    obtain ⟨e1, e2⟩ := fit_no n hx h0 h1
    have E2 := Lib.hid e2
    clear e2
    go_enter Try.func57, Try.ntmps57
    go_wp2_with (go_at_call 58; refine (cBoundNil _ _).mono ?_; rintro e w1 ⟨rfl, rfl⟩)
    go_ret
    exact ⟨by rw [← E2.out]; rfl, by (repeat (first | exact Below.refl _ _ | assumption | apply Below.drew | apply below_drewN | refine below_alloc ?_ _ | refine below_step ?_ (by assumption) | refine Below.alloc ?_ (by first | exact Nat.le_refl _ | omega | (simp; omega) | simp) _ | refine Below.setCell ?_ (by first | exact Nat.le_refl _ | omega | (simp; omega) | simp) _))⟩
theorem cFAdd (x y : Int) (b : Nat) (o : Bool) (w : World) (x0 : -9223372036854775808 ≤ x) (x1 : x ≤ 9223372036854775807) (y0 : -9223372036854775808 ≤ y) (y1 : y ≤ 9223372036854775807)
    (hc : w.cell? ⟨b, 0, none⟩ = some (.bool o)) (hf : w.frozen? ⟨b, 0, none⟩ = false) :
    Calls Try.prog 31 #[.pointer (some ⟨b, 0, none⟩), .int .i64 x, .int .i64 y] w fun e w' => e = .returned (.int .i64 (sat (x + y))) ∧ Mv b (o || !fx (x + y)) w w' := by
  have e1 : cw (x + y) = x + y := cw_yes _ (by omega) (by omega)
  have e2 : fw (x + y) = true := fw_yes _ (by omega) (by omega)
  go_enter Try.func31, Try.ntmps31
  go_wp2_with fail; refine (cWOf _ _ (by omega) (by omega)).mono ?_; rintro e w1 ⟨rfl, hB1⟩
  go_wp2_with fail; refine (cWOf _ _ (by omega) (by omega)).mono ?_; rintro e w2 ⟨rfl, hB2⟩
  go_wp2_with fail; refine (nWAdd _ _ _ (by omega) (by omega) (by omega) (by omega)).mono ?_; rintro e w3 ⟨rfl, hB3⟩
  have HM := (Mv.refl hc hf).below (hB1.trans ((hB2.mono hB1.size).trans (hB3.mono (Nat.le_trans hB1.size hB2.size))))
  clear hc hf hB1 hB2 hB3
  have hc := HM.cell
  have hf := HM.free
  go_wp2_with fail
  refine (cFit _ b o _ (by omega) (by omega) (by exact ck hc) (by exact fk hc hf)).mono ?_
  rintro e w4 ⟨rfl, hM⟩
  go_wp2_with fail
  go_ret
  exact ⟨rfl, (HM.alloc _).trans hM⟩
theorem cFSub (x y : Int) (b : Nat) (o : Bool) (w : World) (x0 : -9223372036854775808 ≤ x) (x1 : x ≤ 9223372036854775807) (y0 : -9223372036854775808 ≤ y) (y1 : y ≤ 9223372036854775807)
    (hc : w.cell? ⟨b, 0, none⟩ = some (.bool o)) (hf : w.frozen? ⟨b, 0, none⟩ = false) :
    Calls Try.prog 22 #[.pointer (some ⟨b, 0, none⟩), .int .i64 x, .int .i64 y] w fun e w' => e = .returned (.int .i64 (sat (x - y))) ∧ Mv b (o || !fx (x - y)) w w' := by
  have e1 : cw (x - y) = x - y := cw_yes _ (by omega) (by omega)
  have e2 : fw (x - y) = true := fw_yes _ (by omega) (by omega)
  have e3 : cw (-y) = -y := cw_yes _ (by omega) (by omega)
  have e4 : fw (-y) = true := fw_yes _ (by omega) (by omega)
  have e5 : x + -y = x - y := by omega
  go_enter Try.func22, Try.ntmps22
  go_wp2_with fail; refine (cWOf _ _ (by omega) (by omega)).mono ?_; rintro e w1 ⟨rfl, hB1⟩
  go_wp2_with fail; refine (nWNeg _ _ (by omega) (by omega)).mono ?_; rintro e w2 ⟨rfl, hB2⟩
  have HM := (Mv.refl hc hf).below (hB1.trans (hB2.mono hB1.size))
  have hbz := lt_of_cell HM.cell
  have hsz := HM.size
  clear hc hf hB1 hB2
  go_upto_region 2 with (fail)
  go_cut [9] (fun p wx => ∃ g : Nat, p = .pointer (some ⟨g, 0, none⟩) ∧ wx.cell? ⟨g, 0, none⟩ = some (.int .i64 (hw (x - y))) ∧ wx.cell? ⟨g, 1, none⟩ = some (.int .u64 (lw (x - y))) ∧ Mv b o w wx)
  case first =>
    go_region_held3 (fun w' => w'.cell? ⟨w2.heap.size, 0, none⟩ = some (.int .i64 (hw (-y))) ∧ w'.cell? ⟨w2.heap.size, 1, none⟩ = some (.int .u64 (lw (-y)))) (first | (refine ⟨cell_later hR ?_, cell_later hR ?_⟩ <;> (simp (maxDischargeDepth := 6) [go_sem, *]; done)) | (simp (maxDischargeDepth := 6) [go_sem, *]; done) | (exact ⟨alloc_swap (‹_ ∧ _›).1 (by first | exact hz | omega), alloc_swap (‹_ ∧ _›).2 (by first | exact hz | omega)⟩))
      (first
        | (go_at_call 55; refine (cWOf _ _ (by omega) (by omega)).mono ?_; rintro e w1 ⟨rfl, hR⟩; have hcR := bsome hR; have hfR := bfrozen hR; have hz : w2.heap.size < w1.heap.size := by have hz0 := hR.size; (try simp at hz0); omega)
        | (go_at_call 56; refine (nWAdd _ _ _ (by omega) (by omega) (by omega) (by omega)).mono ?_; rintro e w1 ⟨rfl, hR⟩; have hcR := bsome hR; have hfR := bfrozen hR; have hz : w2.heap.size < w1.heap.size := by have hz0 := hR.size; (try simp at hz0); omega))
    all_goals go_wp2_with fail
    all_goals go_meet
    all_goals refine ⟨_, rfl, by simp (maxDischargeDepth := 8) [go_sem, *], by simp (maxDischargeDepth := 8) [go_sem, *], ?_⟩
    all_goals (repeat (first | with_reducible assumption | with_reducible exact Mv.refl (by assumption) (by assumption) | with_reducible apply Mv.alloc | with_reducible apply Mv.drew | with_reducible apply Mv.drewN | ((with_reducible apply Mv.setCell); rotate_left; (first | (dsimp only; omega) | omega | (simp; omega)); (first | (dsimp only; omega) | omega | (simp; omega))) | ((with_reducible apply Mv.below); rotate_left; (with_reducible assumption)) | ((with_reducible apply Mv.trans); rotate_left; (with_reducible assumption))))
  case rest =>
    obtain ⟨g, rfl, q0, q1, HM2⟩ := hcut
    have hc := HM2.cell
    have hf := HM2.free
    go_wp2_with fail
    refine (cFit _ b o _ (by omega) (by omega) (by assumption) (by assumption)).mono ?_
    rintro e w4 ⟨rfl, hM⟩
    go_wp2_with fail
    go_ret
    exact ⟨rfl, HM2.trans hM⟩
end Go.Proofs.Ytjpkkpflamkjkaa
