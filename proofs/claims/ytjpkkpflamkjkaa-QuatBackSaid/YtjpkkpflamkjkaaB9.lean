/- The contract of the document's root (chapter 1). -/
import Derived.Test.YtjpkkpflamkjkaaB8
import Derived.Test.YtjpkkpflamkjkaaB5
set_option linter.unusedSimpArgs false
set_option linter.unusedVariables false
namespace Go.Proofs.Ytjpkkpflamkjkaa
open Go.RowKit
set_option maxHeartbeats 4000000 in
theorem cRRootP (v : Int) (w : World) (h0 : 0 < v) (h1 : v ≤ 340282366920938463463374607431768211455) :
    Calls Try.prog 76 #[.agg #[.bool (decide (v < 0)), .int .u64 (d0 (v.natAbs)), .int .u64 (d1 (v.natAbs)), .int .u64 (d2 (v.natAbs)), .int .u64 (d3 (v.natAbs))]] w fun e w' => e = .returned (.int .u64 (rt v)) ∧ Below w.heap.size w w' := by
  have ks := fun w => cRSign v w (by omega)
  rw [show cmp3 v 0 = 1 by unfold cmp3; rw [if_neg (by omega), if_pos h0], show (v.natAbs : Int) = v by omega, decide_eq_false (show ¬ v < 0 by omega)] at ks
  rw [show (v.natAbs : Int) = v by omega, decide_eq_false (show ¬ v < 0 by omega)]
  go_enter Try.func76, Try.ntmps76
  go_wp2_with (fail)
  go_at_call 93
  refine (ks _).mono ?_
  rintro e w1 ⟨rfl, hB⟩
  have B1 : Below w.heap.size w w1 := below_step (W := _) (by (repeat (first | with_reducible assumption | with_reducible exact Below.refl _ _ | ((with_reducible refine Below.setCell ?_ ?_ _); rotate_left; (first | exact Nat.le_refl _ | (dsimp only; omega) | (simp; done) | (simp; omega))) | with_reducible refine below_alloc ?_ _ | with_reducible apply below_drewN | with_reducible apply Below.drew | with_reducible refine below_step ?_ (by assumption)))) hB
  have hz := hB.size
  simp at hz
  have a1 := cell_later (a := ⟨w.heap.size, 1, none⟩) (v := .int .u64 (d0 v)) hB (by simp [go_sem])
  have a2 := cell_later (a := ⟨w.heap.size, 2, none⟩) (v := .int .u64 (d1 v)) hB (by simp [go_sem])
  have a3 := cell_later (a := ⟨w.heap.size, 3, none⟩) (v := .int .u64 (d2 v)) hB (by simp [go_sem])
  have a4 := cell_later (a := ⟨w.heap.size, 4, none⟩) (v := .int .u64 (d3 v)) hB (by simp [go_sem])
  clear hB ks
  go_wp2_with (fail)
  go_loopw [3, 4] (fun a b wx => ∃ n i : Int, a = .int .u64 n ∧ b = .int .i64 i ∧ Below w.heap.size w wx ∧ w.heap.size + 1 ≤ wx.heap.size ∧ (wx.cell? ⟨w.heap.size, 1, none⟩ = some (.int .u64 (d0 v)) ∧ wx.cell? ⟨w.heap.size, 2, none⟩ = some (.int .u64 (d1 v)) ∧ wx.cell? ⟨w.heap.size, 3, none⟩ = some (.int .u64 (d2 v)) ∧ wx.cell? ⟨w.heap.size, 4, none⟩ = some (.int .u64 (d3 v))) ∧ -1 ≤ i ∧ i ≤ 63 ∧ 0 ≤ n ∧ Hid (n + 2 ^ (i + 1).toNat ≤ 18446744073709551616 ∧ n * n ≤ v ∧ v < (n + 2 ^ (i + 1).toNat) * (n + 2 ^ (i + 1).toNat))) (fun _ b _ => (RowKit.intOf b + 1).toNat)
  case atStart =>
    exact ⟨0, 63, rfl, rfl, B1, by omega, ⟨a1, a2, a3, a4⟩, by omega, by omega, by omega, Lib.hid ⟨by decide, by omega, by rw [show ((0 : Int) + 2 ^ ((63 : Int) + 1).toNat) * (0 + 2 ^ ((63 : Int) + 1).toNat) = 340282366920938463463374607431768211456 by decide]; omega⟩⟩
  case round =>
    obtain ⟨n, i, rfl, rfl, b0, bz, ⟨c1, c2, c3, c4⟩, i0, i1, n0, HQ⟩ := hrel
    by_cases hi : i = -1
    · subst hi
      have hr : rt v = n := by
        obtain ⟨q1, q2, q3⟩ := HQ.out
        simp only [show ((-1 : Int) + 1).toNat = 0 from rfl] at q3
        exact rt_unique v n n0 q2 (by simpa using q3)
      have HR := Lib.hid hr
      clear hr
      go_wp2
      go_ret
      exact ⟨by rw [HR.out]; rfl, by (repeat (first | with_reducible assumption | with_reducible exact Below.refl _ _ | ((with_reducible refine Below.setCell ?_ ?_ _); rotate_left; (first | exact Nat.le_refl _ | (dsimp only; omega) | (simp; done) | (simp; omega))) | with_reducible refine below_alloc ?_ _ | with_reducible apply below_drewN | with_reducible apply Below.drew | with_reducible refine below_step ?_ (by assumption)))⟩
    · obtain ⟨k, hk⟩ : ∃ k : Nat, i = k := ⟨i.toNat, by omega⟩
      obtain ⟨t, ht⟩ : ∃ t : Int, (2 : Int) ^ k = t := ⟨_, rfl⟩
      have t0 : 0 < t := by rw [← ht]; exact Int.pow_pos (by decide)
      have e1 : (2 : Int) ^ (i + 1).toNat = 2 * t := by rw [show (i + 1).toNat = k + 1 by omega, Int.pow_succ, ht]; omega
      obtain ⟨q1, q2, q3⟩ := HQ.out
      rw [e1] at q1 q3
      obtain ⟨m, hm⟩ : ∃ m, m = n + t := ⟨_, rfl⟩
      have m0 : 0 ≤ m := by omega
      have m1 : m ≤ 18446744073709551615 := by omega
      have HI : Hid (i = k ∧ (2 : Int) ^ k = t ∧ m = n + t ∧ n + 2 * t ≤ 18446744073709551616 ∧ n * n ≤ v ∧ v < (n + 2 * t) * (n + 2 * t)) := Lib.hid ⟨hk, ht, hm, q1, q2, q3⟩
      have s1 : IntKind.u64.wrap (2 ^ i.toNat) = t := by rw [show i.toNat = k by omega, ht, IntKind.wrap_u64]; omega
      have s2 : IntKind.u64.wrap (n + t) = m := by rw [← hm, IntKind.wrap_u64]; omega
      clear hk ht hm q1 q2 q3 e1 HQ
      have mm : 0 ≤ m * m ∧ m * m ≤ 340282366920938463463374607431768211455 := ⟨Int.mul_nonneg m0 m0, Int.le_trans (Int.mul_le_mul m1 m1 m0 (by decide)) (by decide)⟩
      have ks := fun w => cRSquare m w m0 m1
      obtain ⟨Q, hQ⟩ : ∃ t, m * m = t := ⟨_, rfl⟩
      rw [hQ] at ks mm
      have HQ := Lib.hid hQ
      clear hQ
      have kl := fun w => cRLess v Q w (by omega) h1 mm.1 mm.2
      have zd : wr.drew.heap.size = wr.heap.size := rfl
      by_cases hv : v < Q
      · rw [decide_eq_true hv] at kl
        have HV := Lib.hid hv
        clear hv
        go_upto_region 8 with (fail)
        go_region_held3 (fun w' => w'.cell? ⟨w.heap.size, 1, none⟩ = some (.int .u64 (d0 v)) ∧ w'.cell? ⟨w.heap.size, 2, none⟩ = some (.int .u64 (d1 v)) ∧ w'.cell? ⟨w.heap.size, 3, none⟩ = some (.int .u64 (d2 v)) ∧ w'.cell? ⟨w.heap.size, 4, none⟩ = some (.int .u64 (d3 v))) (first | (refine ⟨cell_later hR ?_, cell_later hR ?_, cell_later hR ?_, cell_later hR ?_⟩ <;> (simp (maxDischargeDepth := 6) [go_sem, *]; done)) | (simp (maxDischargeDepth := 6) [go_sem, *]; done) | (exact ⟨alloc_swap (‹_ ∧ _›).1 (by first | exact hz | omega), alloc_swap (‹_ ∧ _›).2.1 (by first | exact hz | omega), alloc_swap (‹_ ∧ _›).2.2.1 (by first | exact hz | omega), alloc_swap (‹_ ∧ _›).2.2.2 (by first | exact hz | omega)⟩)) (first
          | (go_at_call 94; refine (ks _).mono ?_; rintro e w2 ⟨rfl, hR⟩; have hcR := bsome hR; have hfR := bfrozen hR; have zr := hR.size)
          | (go_at_call 88; refine (kl _).mono ?_; rintro e w3 ⟨rfl, hR⟩; have hcR := bsome hR; have hfR := bfrozen hR; have zr := hR.size))
        clear ks kl
        go_wp2
        obtain ⟨hi, ht, hm, q1, q2, q3⟩ := HI.out
        have hQ := HQ.out; have hv := HV.out
        refine ⟨⟨n, i - 1, rfl, rfl, by (repeat (first | with_reducible assumption | with_reducible exact Below.refl _ _ | ((with_reducible refine Below.setCell ?_ ?_ _); rotate_left; (first | exact Nat.le_refl _ | (dsimp only; omega) | (simp; done) | (simp; omega))) | with_reducible refine below_alloc ?_ _ | with_reducible apply below_drewN | with_reducible apply Below.drew | with_reducible refine below_step ?_ (by assumption))), by omega, by assumption, by omega, by omega, by omega, Lib.hid ?_⟩, by simp [RowKit.intOf]; omega⟩
        rw [show (i - 1 + 1).toNat = k by omega, ht, ← hm, hQ]
        exact ⟨by omega, q2, hv⟩
      · rw [decide_eq_false hv] at kl
        have HV := Lib.hid hv
        clear hv
        go_upto_region 8 with (fail)
        go_region_held3 (fun w' => w'.cell? ⟨w.heap.size, 1, none⟩ = some (.int .u64 (d0 v)) ∧ w'.cell? ⟨w.heap.size, 2, none⟩ = some (.int .u64 (d1 v)) ∧ w'.cell? ⟨w.heap.size, 3, none⟩ = some (.int .u64 (d2 v)) ∧ w'.cell? ⟨w.heap.size, 4, none⟩ = some (.int .u64 (d3 v))) (first | (refine ⟨cell_later hR ?_, cell_later hR ?_, cell_later hR ?_, cell_later hR ?_⟩ <;> (simp (maxDischargeDepth := 6) [go_sem, *]; done)) | (simp (maxDischargeDepth := 6) [go_sem, *]; done) | (exact ⟨alloc_swap (‹_ ∧ _›).1 (by first | exact hz | omega), alloc_swap (‹_ ∧ _›).2.1 (by first | exact hz | omega), alloc_swap (‹_ ∧ _›).2.2.1 (by first | exact hz | omega), alloc_swap (‹_ ∧ _›).2.2.2 (by first | exact hz | omega)⟩)) (first
          | (go_at_call 94; refine (ks _).mono ?_; rintro e w2 ⟨rfl, hR⟩; have hcR := bsome hR; have hfR := bfrozen hR; have zr := hR.size)
          | (go_at_call 88; refine (kl _).mono ?_; rintro e w3 ⟨rfl, hR⟩; have hcR := bsome hR; have hfR := bfrozen hR; have zr := hR.size))
        clear ks kl
        go_wp2
        obtain ⟨hi, ht, hm, q1, q2, q3⟩ := HI.out
        have hQ := HQ.out; have hv := HV.out
        refine ⟨⟨m, i - 1, rfl, rfl, by (repeat (first | with_reducible assumption | with_reducible exact Below.refl _ _ | ((with_reducible refine Below.setCell ?_ ?_ _); rotate_left; (first | exact Nat.le_refl _ | (dsimp only; omega) | (simp; done) | (simp; omega))) | with_reducible refine below_alloc ?_ _ | with_reducible apply below_drewN | with_reducible apply Below.drew | with_reducible refine below_step ?_ (by assumption))), by omega, by assumption, by omega, by omega, by omega, Lib.hid ?_⟩, by simp [RowKit.intOf]; omega⟩
        rw [show (i - 1 + 1).toNat = k by omega, ht, hQ, show m + t = n + 2 * t by omega]
        exact ⟨by omega, by omega, q3⟩
theorem cRRoot (v : Int) (w : World) (h1 : (v.natAbs : Int) ≤ 340282366920938463463374607431768211455) :
    Calls Try.prog 76 #[.agg #[.bool (decide (v < 0)), .int .u64 (d0 (v.natAbs)), .int .u64 (d1 (v.natAbs)), .int .u64 (d2 (v.natAbs)), .int .u64 (d3 (v.natAbs))]] w fun e w' => e = .returned (.int .u64 (rt v)) ∧ Below w.heap.size w w' := by
  rcases Int.lt_or_le 0 v with h | h
  · exact cRRootP v w h (by omega)
  · have ks := fun w => cRSign v w h1
    have c : decide (cmp3 v 0 ≤ 0) = true := decide_eq_true (by unfold cmp3; split <;> (try split) <;> omega)
    rw [rt_neg v h]
    have HH := Lib.hid h
    clear h
    generalize cmp3 v 0 = s at *
    have hs := of_decide_eq_true c
    clear c
    go_enter Try.func76, Try.ntmps76
    go_wp2_with (fail)
    go_at_call 93
    refine (ks _).mono ?_
    rintro e w1 ⟨rfl, hB⟩
    clear ks
    go_wp2
    go_ret
    exact ⟨rfl, by (repeat (first | with_reducible assumption | with_reducible exact Below.refl _ _ | ((with_reducible refine Below.setCell ?_ ?_ _); rotate_left; (first | exact Nat.le_refl _ | (dsimp only; omega) | (simp; done) | (simp; omega))) | with_reducible refine below_alloc ?_ _ | with_reducible apply below_drewN | with_reducible apply Below.drew | with_reducible refine below_step ?_ (by assumption)))⟩
end Go.Proofs.Ytjpkkpflamkjkaa
