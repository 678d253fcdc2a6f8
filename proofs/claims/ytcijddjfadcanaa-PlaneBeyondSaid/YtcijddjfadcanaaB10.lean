/- The contract of the document's part (chapter 1). -/
import Derived.Test.YtcijddjfadcanaaB9
import Derived.Test.YtcijddjfadcanaaB7
set_option linter.unusedSimpArgs false
set_option linter.unusedVariables false
namespace Go.Proofs.Ytcijddjfadcanaa
open Go.RowKit
def Rc (B : Nat) (x0 x1 x2 x3 : Int) (wx : World) : Prop :=
  (wx.cell? ⟨B, 0, none⟩ = some (.int .u64 x0) ∧ wx.cell? ⟨B, 1, none⟩ = some (.int .u64 x1) ∧ wx.cell? ⟨B, 2, none⟩ = some (.int .u64 x2) ∧ wx.cell? ⟨B, 3, none⟩ = some (.int .u64 x3)) ∧
  (wx.frozen? ⟨B, 0, none⟩ = false ∧ wx.frozen? ⟨B, 1, none⟩ = false ∧ wx.frozen? ⟨B, 2, none⟩ = false ∧ wx.frozen? ⟨B, 3, none⟩ = false)
theorem Rc.later {B : Nat} {x0 x1 x2 x3 : Int} {W w1 : World} (h : Rc B x0 x1 x2 x3 W) (hB : Below W.heap.size W w1) : Rc B x0 x1 x2 x3 w1 := by
  obtain ⟨⟨b, c, d, e⟩, g, h, i, j⟩ := h
  exact ⟨⟨cell_later hB b, cell_later hB c, cell_later hB d, cell_later hB e⟩, frz_later hB b g, frz_later hB c h, frz_later hB d i, frz_later hB e j⟩
theorem Rc.put {B : Nat} {x0 x1 x2 x3 : Int} {W : World} (h : Rc B x0 x1 x2 x3 W) (y0 y1 y2 y3 : Int) : Rc B y0 y1 y2 y3 ((((W.setCell ⟨B, 0, none⟩ (.int .u64 y0)).setCell ⟨B, 1, none⟩ (.int .u64 y1)).setCell ⟨B, 2, none⟩ (.int .u64 y2)).setCell ⟨B, 3, none⟩ (.int .u64 y3)) := by
  obtain ⟨⟨b, c, d, e⟩, g, h, i, j⟩ := h
  unfold Rc; simp (maxDischargeDepth := 8) [go_sem, *]
theorem Nc.put4 {B C : Nat} {g : Bool} {x0 x1 x2 x3 : Int} {u0 u1 u2 u3 : Value} {W : World} (h : Nc B g x0 x1 x2 x3 W) (hne : C ≠ B) : Nc B g x0 x1 x2 x3 ((((W.setCell ⟨C, 0, none⟩ u0).setCell ⟨C, 1, none⟩ u1).setCell ⟨C, 2, none⟩ u2).setCell ⟨C, 3, none⟩ u3) := by
  obtain ⟨⟨a, b, c, d, e⟩, f, g, h, i, j⟩ := h
  have hne2 := hne.symm
  unfold Nc; simp (maxDischargeDepth := 8) [go_sem, *]
theorem dv_up (P y q r : Int) (hq : q = P / y) (hr : r = P % y) (hy : 0 < y) (h : y ≤ 2 * r) : 2 * q + 1 = (2 * P) / y ∧ 2 * r - y = (2 * P) % y := by
  have e := Int.mul_ediv_add_emod P y
  have rl := Int.emod_lt_of_pos P hy
  have k := (Int.ediv_emod_unique (a := 2 * P) (b := y) (q := 2 * q + 1) (r := 2 * r - y) hy).mpr ⟨by rw [← e, ← hq, ← hr]; rw [Int.mul_add, Int.mul_add, Int.mul_left_comm]; omega, by omega, by omega⟩
  exact ⟨k.1.symm, k.2.symm⟩
theorem dv_dn (P y q r : Int) (hq : q = P / y) (hr : r = P % y) (hy : 0 < y) (h : 2 * r < y) : 2 * q = (2 * P) / y ∧ 2 * r = (2 * P) % y := by
  have e := Int.mul_ediv_add_emod P y
  have r0 := Int.emod_nonneg P (Int.ne_of_gt hy)
  have k := (Int.ediv_emod_unique (a := 2 * P) (b := y) (q := 2 * q) (r := 2 * r) hy).mpr ⟨by rw [← e, ← hq, ← hr]; rw [Int.mul_add, Int.mul_left_comm]; omega, by omega, by omega⟩
  exact ⟨k.1.symm, k.2.symm⟩
theorem ptk_lt (x y : Int) (k : Nat) (h0 : 0 ≤ x) (hxy : x < y) : x * 2 ^ k / y < 2 ^ k := by
  refine Int.ediv_lt_of_lt_mul (by omega) ?_
  rw [Int.mul_comm]
  exact Int.mul_lt_mul_of_pos_left hxy (Int.pow_pos (by decide))
set_option maxHeartbeats 4000000 in
theorem cRPartP (x y : Int) (w : World) (h0 : 0 ≤ x) (hxy : x < y) (h1 : y ≤ 170141183460469231731687303715884105728) :
    Calls Try.prog 30 #[.agg #[.bool (decide (x < 0)), .int .u64 (d0 (x.natAbs)), .int .u64 (d1 (x.natAbs)), .int .u64 (d2 (x.natAbs)), .int .u64 (d3 (x.natAbs))], .agg #[.bool (decide (y < 0)), .int .u64 (d0 (y.natAbs)), .int .u64 (d1 (y.natAbs)), .int .u64 (d2 (y.natAbs)), .int .u64 (d3 (y.natAbs))]] w fun e w' => e = .returned (.int .u32 (x * 4294967296 / y)) ∧ Below w.heap.size w w' := by
  have ks := fun w => cRSign x w (by omega)
  have kc := fun w => cRCmp x y w (by omega) (by omega)
  have c1 : decide (cmp3 x 0 < 0) = false := decide_eq_false (by unfold cmp3; split <;> (try split) <;> omega)
  rw [show cmp3 x y = -1 by unfold cmp3; rw [if_pos hxy]] at kc
  rw [show (x.natAbs : Int) = x by omega, decide_eq_false (show ¬ x < 0 by omega)] at ks kc ⊢
  rw [show (y.natAbs : Int) = y by omega, decide_eq_false (show ¬ y < 0 by omega)] at kc ⊢
  obtain ⟨s, hs⟩ : ∃ t, cmp3 x 0 = t := ⟨_, rfl⟩
  rw [hs] at ks c1
  clear hs
  have c2 := of_decide_eq_false c1
  clear c1
  obtain ⟨R, hR⟩ : ∃ t, x * 4294967296 / y = t := ⟨_, rfl⟩
  rw [hR]
  have HR := Lib.hid hR
  clear hR
  go_enter Try.func30, Try.ntmps30
  go_wp2_with (fail)
  go_at_call 23
  refine (ks _).mono ?_
  rintro e w1 ⟨rfl, hB⟩
  have B1 : Below w.heap.size w w1 := below_step (W := _) (by (repeat (first | with_reducible assumption | with_reducible exact Below.refl _ _ | ((with_reducible refine Below.setCell ?_ ?_ _); rotate_left; (first | exact Nat.le_refl _ | (dsimp only; omega) | (simp; done) | (simp; omega))) | with_reducible refine below_alloc ?_ _ | with_reducible apply below_drewN | with_reducible apply Below.drew | with_reducible refine below_step ?_ (by assumption)))) hB
  have hz := hB.size
  simp at hz
  have ha := Nc.later (W := _) (B := w.heap.size) (g := false) (x0 := d0 x) (x1 := d1 x) (x2 := d2 x) (x3 := d3 x) (by unfold Nc; simp [go_sem]) hB
  have hb := Nc.later (W := _) (B := w.heap.size + 1) (g := false) (x0 := d0 y) (x1 := d1 y) (x2 := d2 y) (x3 := d3 y) (by unfold Nc; simp [go_sem]) hB
  clear hB ks
  obtain ⟨⟨u0, u1, u2, u3, u4⟩, u5, u6, u7, u8, u9⟩ := id ha
  obtain ⟨⟨v0, v1, v2, v3, v4⟩, v5, v6, v7, v8, v9⟩ := id hb
  go_wp2_with (fail)
  go_at_call 42
  refine (kc _).mono ?_
  rintro e w2 ⟨rfl, hB⟩
  have B2 : Below w.heap.size w w2 := below_step (W := _) (by (repeat (first | with_reducible assumption | with_reducible exact Below.refl _ _ | ((with_reducible refine Below.setCell ?_ ?_ _); rotate_left; (first | exact Nat.le_refl _ | (dsimp only; omega) | (simp; done) | (simp; omega))) | with_reducible refine below_alloc ?_ _ | with_reducible apply below_drewN | with_reducible apply Below.drew | with_reducible refine below_step ?_ (by assumption)))) hB
  have hz2 := hB.size
  have ha := ha.later hB
  have hb := hb.later hB
  clear hB kc u0 u1 u2 u3 u4 u5 u6 u7 u8 u9 v0 v1 v2 v3 v4 v5 v6 v7 v8 v9
  obtain ⟨⟨u0, u1, u2, u3, u4⟩, u5, u6, u7, u8, u9⟩ := id ha
  go_wp2_with (fail)
  go_loopw [5, 7] (fun a b wx => ∃ n i r : Int, a = .int .u32 n ∧ b = .int .i64 i ∧ Below w.heap.size w wx ∧ w2.heap.size + 1 ≤ wx.heap.size ∧ Nc (w.heap.size + 1) false (d0 y) (d1 y) (d2 y) (d3 y) wx ∧ Rc w2.heap.size (d0 r) (d1 r) (d2 r) (d3 r) wx ∧ 0 ≤ i ∧ i ≤ 32 ∧ 0 ≤ n ∧ 0 ≤ r ∧ r < y ∧ Hid (n = x * 2 ^ i.toNat / y ∧ r = x * 2 ^ i.toNat % y)) (fun _ b _ => (32 - RowKit.intOf b).toNat)
  case atStart =>
    refine ⟨0, 0, x, rfl, rfl, by (repeat (first | with_reducible assumption | with_reducible exact Below.refl _ _ | ((with_reducible refine Below.setCell ?_ ?_ _); rotate_left; (first | exact Nat.le_refl _ | (dsimp only; omega) | (simp; done) | (simp; omega))) | with_reducible refine below_alloc ?_ _ | with_reducible apply below_drewN | with_reducible apply Below.drew | with_reducible refine below_step ?_ (by assumption))), by simp, ?_, ?_, by omega, by omega, by omega, h0, hxy, Lib.hid ⟨?_, ?_⟩⟩
    · exact hb.later ((Below.refl _ _).alloc (Nat.le_refl _) _)
    · unfold Rc; simp [go_sem]
    · simp; exact (Int.ediv_eq_zero_of_lt h0 hxy).symm
    · simp; exact (Int.emod_eq_of_lt h0 hxy).symm
  case round =>
    obtain ⟨n, i, r, rfl, rfl, b0, bz, hb, hr, i0, i1, n0, r0, r1, HQ⟩ := hrel
    by_cases hi : i = 32
    · subst hi
      have hn : R = n := by have q := HQ.out.1; rw [← HR.out, q]; rfl
      subst hn
      clear HQ HR
      go_wp2
      go_ret
      exact ⟨rfl, by (repeat (first | with_reducible assumption | with_reducible exact Below.refl _ _ | ((with_reducible refine Below.setCell ?_ ?_ _); rotate_left; (first | exact Nat.le_refl _ | (dsimp only; omega) | (simp; done) | (simp; omega))) | with_reducible refine below_alloc ?_ _ | with_reducible apply below_drewN | with_reducible apply Below.drew | with_reducible refine below_step ?_ (by assumption)))⟩
    · obtain ⟨k, hk⟩ : ∃ k : Nat, i = k := ⟨i.toNat, by omega⟩
      obtain ⟨q1, q2⟩ := HQ.out
      rw [show i.toNat = k by omega] at q1 q2
      have n1 := ptk_lt x y k h0 hxy
      rw [← q1] at n1
      have n2 : (2 : Int) ^ k ≤ 2147483648 := by
        have h : (2 : Nat) ^ k ≤ 2 ^ 31 := Nat.pow_le_pow_right (by decide) (show k ≤ 31 by omega)
        have h2 : ((2 ^ k : Nat) : Int) ≤ ((2 ^ 31 : Nat) : Int) := Int.ofNat_le.mpr h
        simpa using h2
      obtain ⟨m, hm⟩ : ∃ t, 2 * n = t := ⟨_, rfl⟩
      obtain ⟨m3, hm3⟩ : ∃ t, m + 1 = t := ⟨_, rfl⟩
      obtain ⟨r2, hr2⟩ : ∃ t, 2 * r = t := ⟨_, rfl⟩
      have w4 : IntKind.u32.wrap (2 * n) = m := by rw [IntKind.wrap_u32]; omega
      have w5 : IntKind.u32.wrap (m + 1) = m3 := by rw [IntKind.wrap_u32]; omega
      have kt := fun w => cRTwice r 0 w r0 (by omega) (by omega) (by omega)
      rw [show (2 * r + 0) % 340282366920938463463374607431768211456 = r2 by omega] at kt
      have kl := fun w => cRLess r2 y w (by omega) (by omega) (by omega) (by omega)
      have HK : Hid (i = k ∧ n = x * 2 ^ k / y ∧ r = x * 2 ^ k % y ∧ 2 * n = m ∧ m + 1 = m3 ∧ 2 * r = r2) := Lib.hid ⟨hk, q1, q2, hm, hm3, hr2⟩
      have r20 : 0 ≤ r2 := by omega
      have r21 : r2 ≤ 340282366920938463463374607431768211455 := by omega
      obtain ⟨⟨s0, s1, s2, s3⟩, s4, s5, s6, s7⟩ := id hr
      have hne : w2.heap.size ≠ w.heap.size + 1 := by omega
      clear HQ n2
      by_cases hv : r2 < y
      · rw [decide_eq_true hv] at kl
        have HV := Lib.hid hv
        clear hv hk q1 q2 hm hm3 hr2
        go_wp2_with (fail)
        go_at_call 55
        refine (kt _).mono ?_
        rintro e w3 ⟨rfl, hB⟩
        have B3 : Below w.heap.size w w3 := below_step b0 hB
        have hz3 := hB.size
        have hb3 := hb.later hB
        have hr3 := hr.later hB
        clear s0 s1 s2 s3 s4 s5 s6 s7 hB kt
        obtain ⟨⟨s0, s1, s2, s3⟩, s4, s5, s6, s7⟩ := id hr3
        obtain ⟨⟨v0, v1, v2, v3, v4⟩, v5, v6, v7, v8, v9⟩ := id hb3
        go_wp2_with (fail)
        go_at_call 52
        refine (kl _).mono ?_
        rintro e w4 ⟨rfl, hB⟩
        have B4 : Below w.heap.size w w4 := below_step (W := _) (by (repeat (first | with_reducible assumption | with_reducible exact Below.refl _ _ | ((with_reducible refine Below.setCell ?_ ?_ _); rotate_left; (first | exact Nat.le_refl _ | (dsimp only; omega) | (simp; done) | (simp; omega))) | with_reducible refine below_alloc ?_ _ | with_reducible apply below_drewN | with_reducible apply Below.drew | with_reducible refine below_step ?_ (by assumption)))) hB
        have hz4 := hB.size
        have hb4 := (hb3.put4 hne).later hB
        have hr4 := (hr3.put _ _ _ _).later hB
        clear s0 s1 s2 s3 s4 s5 s6 s7 v0 v1 v2 v3 v4 v5 v6 v7 v8 v9 hB kl hb3 hr3 hb hr b0
        simp at hz4
        go_wp2
        obtain ⟨hk, q1, q2, hm, hm3, hr2⟩ := HK.out
        have hv := HV.out
        have dd := dv_dn (x * 2 ^ k) y n r q1 q2 (by omega) (by omega)
        refine ⟨⟨m, i + 1, r2, rfl, rfl, by (repeat (first | with_reducible assumption | with_reducible exact Below.refl _ _ | ((with_reducible refine Below.setCell ?_ ?_ _); rotate_left; (first | exact Nat.le_refl _ | (dsimp only; omega) | (simp; done) | (simp; omega))) | with_reducible refine below_alloc ?_ _ | with_reducible apply below_drewN | with_reducible apply Below.drew | with_reducible refine below_step ?_ (by assumption))), by omega, hb4, hr4, by omega, by omega, by omega, by omega, by omega, Lib.hid ?_⟩, by simp [RowKit.intOf]; omega⟩
        rw [show (i + 1).toNat = k + 1 by omega, Int.pow_succ, show x * (2 ^ k * 2) = 2 * (x * 2 ^ k) by rw [← Int.mul_assoc, Int.mul_comm], ← dd.1, ← dd.2]
        exact ⟨by omega, by omega⟩
      · rw [decide_eq_false hv] at kl
        obtain ⟨r3, hr3'⟩ : ∃ t, r2 - y = t := ⟨_, rfl⟩
        have km := fun w => cRMinus r2 y w (by omega) (by omega) (by omega) (by omega)
        rw [hr3'] at km
        have HV := Lib.hid (And.intro hv hr3')
        clear hv hk q1 q2 hm hm3 hr2 hr3'
        go_wp2_with (fail)
        go_at_call 55
        refine (kt _).mono ?_
        rintro e w3 ⟨rfl, hB⟩
        have B3 : Below w.heap.size w w3 := below_step b0 hB
        have hz3 := hB.size
        have hb3 := hb.later hB
        have hr3 := hr.later hB
        clear s0 s1 s2 s3 s4 s5 s6 s7 hB kt
        obtain ⟨⟨s0, s1, s2, s3⟩, s4, s5, s6, s7⟩ := id hr3
        obtain ⟨⟨v0, v1, v2, v3, v4⟩, v5, v6, v7, v8, v9⟩ := id hb3
        go_wp2_with (fail)
        go_at_call 52
        refine (kl _).mono ?_
        rintro e w4 ⟨rfl, hB⟩
        have B4 : Below w.heap.size w w4 := below_step (W := _) (by (repeat (first | with_reducible assumption | with_reducible exact Below.refl _ _ | ((with_reducible refine Below.setCell ?_ ?_ _); rotate_left; (first | exact Nat.le_refl _ | (dsimp only; omega) | (simp; done) | (simp; omega))) | with_reducible refine below_alloc ?_ _ | with_reducible apply below_drewN | with_reducible apply Below.drew | with_reducible refine below_step ?_ (by assumption)))) hB
        have hz4 := hB.size
        have hb4 := (hb3.put4 hne).later hB
        have hr4 := (hr3.put _ _ _ _).later hB
        clear s0 s1 s2 s3 s4 s5 s6 s7 v0 v1 v2 v3 v4 v5 v6 v7 v8 v9 hB kl hb3 hr3 hb hr b0
        simp at hz4
        obtain ⟨⟨s0, s1, s2, s3⟩, s4, s5, s6, s7⟩ := id hr4
        obtain ⟨⟨v0, v1, v2, v3, v4⟩, v5, v6, v7, v8, v9⟩ := id hb4
        go_wp2_with (fail)
        go_at_call 53
        refine (km _).mono ?_
        rintro e w5 ⟨rfl, hB⟩
        have B5 : Below w.heap.size w w5 := below_step (W := _) (by (repeat (first | with_reducible assumption | with_reducible exact Below.refl _ _ | ((with_reducible refine Below.setCell ?_ ?_ _); rotate_left; (first | exact Nat.le_refl _ | (dsimp only; omega) | (simp; done) | (simp; omega))) | with_reducible refine below_alloc ?_ _ | with_reducible apply below_drewN | with_reducible apply Below.drew | with_reducible refine below_step ?_ (by assumption)))) hB
        have hz5 := hB.size
        have hb5 := hb4.later hB
        have hr5 := hr4.later hB
        clear s0 s1 s2 s3 s4 s5 s6 s7 v0 v1 v2 v3 v4 v5 v6 v7 v8 v9 hB km
        obtain ⟨⟨s0, s1, s2, s3⟩, s4, s5, s6, s7⟩ := id hr5
        go_wp2
        obtain ⟨hk, q1, q2, hm, hm3, hr2⟩ := HK.out
        obtain ⟨hv, hr3⟩ := HV.out
        have dd := dv_up (x * 2 ^ k) y n r q1 q2 (by omega) (by omega)
        refine ⟨⟨m3, i + 1, r3, rfl, rfl, by (repeat (first | with_reducible assumption | with_reducible exact Below.refl _ _ | ((with_reducible refine Below.setCell ?_ ?_ _); rotate_left; (first | exact Nat.le_refl _ | (dsimp only; omega) | (simp; done) | (simp; omega))) | with_reducible refine below_alloc ?_ _ | with_reducible apply below_drewN | with_reducible apply Below.drew | with_reducible refine below_step ?_ (by assumption))), by simp; omega, hb5.put4 hne, hr5.put _ _ _ _, by omega, by omega, by omega, by omega, by omega, Lib.hid ?_⟩, by simp [RowKit.intOf]; omega⟩
        rw [show (i + 1).toNat = k + 1 by omega, Int.pow_succ, show x * (2 ^ k * 2) = 2 * (x * 2 ^ k) by rw [← Int.mul_assoc, Int.mul_comm], ← dd.1, ← dd.2]
        exact ⟨by omega, by omega⟩
theorem cRPart (x y : Int) (w : World) (hx : (x.natAbs : Int) ≤ 170141183460469231731687303715884105728) (hy : (y.natAbs : Int) ≤ 170141183460469231731687303715884105728) :
    Calls Try.prog 30 #[.agg #[.bool (decide (x < 0)), .int .u64 (d0 (x.natAbs)), .int .u64 (d1 (x.natAbs)), .int .u64 (d2 (x.natAbs)), .int .u64 (d3 (x.natAbs))], .agg #[.bool (decide (y < 0)), .int .u64 (d0 (y.natAbs)), .int .u64 (d1 (y.natAbs)), .int .u64 (d2 (y.natAbs)), .int .u64 (d3 (y.natAbs))]] w fun e w' => e = .returned (.int .u32 (pt x y)) ∧ Below w.heap.size w w' := by
  by_cases h : 0 ≤ x ∧ x < y
  · rw [show pt x y = x * 4294967296 / y by unfold pt; rw [if_pos h]]
    exact cRPartP x y w h.1 h.2 (by omega)
  · rw [show pt x y = 0 by unfold pt; rw [if_neg h]]
    have ks := fun w => cRSign x w (by omega)
    have kc := fun w => cRCmp x y w (by omega) (by omega)
    rcases Int.lt_or_le x 0 with hn | hn
    · rw [show cmp3 x 0 = -1 by unfold cmp3; rw [if_pos hn]] at ks
      clear kc
      have HH := Lib.hid hn
      clear hn h
      go_enter Try.func30, Try.ntmps30
      go_wp2_with (fail)
      go_at_call 23
      refine (ks _).mono ?_
      rintro e w1 ⟨rfl, hB⟩
      clear ks
      go_wp2
      go_ret
      exact ⟨rfl, by (repeat (first | with_reducible assumption | with_reducible exact Below.refl _ _ | ((with_reducible refine Below.setCell ?_ ?_ _); rotate_left; (first | exact Nat.le_refl _ | (dsimp only; omega) | (simp; done) | (simp; omega))) | with_reducible refine below_alloc ?_ _ | with_reducible apply below_drewN | with_reducible apply Below.drew | with_reducible refine below_step ?_ (by assumption)))⟩
    · have c1 := show 0 ≤ cmp3 x 0 by unfold cmp3; split <;> (try split) <;> omega
      have c2 := show 0 ≤ cmp3 x y by unfold cmp3; split <;> (try split) <;> omega
      obtain ⟨s, hs⟩ : ∃ t, cmp3 x 0 = t := ⟨_, rfl⟩
      obtain ⟨u, hu⟩ : ∃ t, cmp3 x y = t := ⟨_, rfl⟩
      rw [hs] at ks c1
      rw [hu] at kc c2
      clear hs hu h hn
      go_enter Try.func30, Try.ntmps30
      go_wp2_with (fail)
      go_at_call 23
      refine (ks _).mono ?_
      rintro e w1 ⟨rfl, hB⟩
      have B1 : Below w.heap.size w w1 := below_step (W := _) (by (repeat (first | with_reducible assumption | with_reducible exact Below.refl _ _ | ((with_reducible refine Below.setCell ?_ ?_ _); rotate_left; (first | exact Nat.le_refl _ | (dsimp only; omega) | (simp; done) | (simp; omega))) | with_reducible refine below_alloc ?_ _ | with_reducible apply below_drewN | with_reducible apply Below.drew | with_reducible refine below_step ?_ (by assumption)))) hB
      have ha := Nc.later (W := _) (B := w.heap.size) (g := decide (x < 0)) (x0 := d0 x.natAbs) (x1 := d1 x.natAbs) (x2 := d2 x.natAbs) (x3 := d3 x.natAbs) (by unfold Nc; simp [go_sem]) hB
      have hb := Nc.later (W := _) (B := w.heap.size + 1) (g := decide (y < 0)) (x0 := d0 y.natAbs) (x1 := d1 y.natAbs) (x2 := d2 y.natAbs) (x3 := d3 y.natAbs) (by unfold Nc; simp [go_sem]) hB
      clear hB ks
      obtain ⟨⟨u0, u1, u2, u3, u4⟩, u5, u6, u7, u8, u9⟩ := id ha
      obtain ⟨⟨v0, v1, v2, v3, v4⟩, v5, v6, v7, v8, v9⟩ := id hb
      go_wp2_with (fail)
      go_at_call 42
      refine (kc _).mono ?_
      rintro e w2 ⟨rfl, hB⟩
      clear kc
      go_wp2
      go_ret
      exact ⟨rfl, by (repeat (first | with_reducible assumption | with_reducible exact Below.refl _ _ | ((with_reducible refine Below.setCell ?_ ?_ _); rotate_left; (first | exact Nat.le_refl _ | (dsimp only; omega) | (simp; done) | (simp; omega))) | with_reducible refine below_alloc ?_ _ | with_reducible apply below_drewN | with_reducible apply Below.drew | with_reducible refine below_step ?_ (by assumption)))⟩
end Go.Proofs.Ytcijddjfadcanaa
