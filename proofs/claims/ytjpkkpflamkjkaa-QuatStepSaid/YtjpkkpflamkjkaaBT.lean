/- B10, B11, B12, T4, T5 in one text. -/
import Derived.Test.YtjpkkpflamkjkaaB9
import Derived.Test.YtjpkkpflamkjkaaB7
import Derived.Deep.CutBlock
import Derived.Deep.DeepCutAuto
import Derived.Test.YtjpkkpflamkjkaaT3
set_option linter.unusedSimpArgs false
set_option linter.unusedVariables false
namespace Go.Proofs.Ytjpkkpflamkjkaa
open Go.RowKit
section
def Rc (B : Nat) (x0 x1 x2 x3 : Int) (wx : World) : Prop :=
  (wx.cell? ⟨B, 0, none⟩ = some (.int .u64 x0) ∧ wx.cell? ⟨B, 1, none⟩ = some (.int .u64 x1) ∧ wx.cell? ⟨B, 2, none⟩ = some (.int .u64 x2) ∧ wx.cell? ⟨B, 3, none⟩ = some (.int .u64 x3)) ∧
  (wx.frozen? ⟨B, 0, none⟩ = false ∧ wx.frozen? ⟨B, 1, none⟩ = false ∧ wx.frozen? ⟨B, 2, none⟩ = false ∧ wx.frozen? ⟨B, 3, none⟩ = false)
theorem Rc.later {B : Nat} {x0 x1 x2 x3 : Int} {W w1 : World} (h : Rc B x0 x1 x2 x3 W) (hB : Below W.heap.size W w1) : Rc B x0 x1 x2 x3 w1 := by
  obtain ⟨⟨b, c, d, e⟩, g, h, i, j⟩ := h
  exact ⟨⟨cell_later hB b, cell_later hB c, cell_later hB d, cell_later hB e⟩, frz_later hB b g, frz_later hB c h, frz_later hB d i, frz_later hB e j⟩
theorem Rc.put {B : Nat} {x0 x1 x2 x3 : Int} {W : World} (h : Rc B x0 x1 x2 x3 W) (y0 y1 y2 y3 : Int) : Rc B y0 y1 y2 y3 ((((W.setCell ⟨B, 0, none⟩ (.int .u64 y0)).setCell ⟨B, 1, none⟩ (.int .u64 y1)).setCell ⟨B, 2, none⟩ (.int .u64 y2)).setCell ⟨B, 3, none⟩ (.int .u64 y3)) := by
  obtain ⟨⟨b, c, d, e⟩, g, h, i, j⟩ := h
  unfold Rc; simp (maxDischargeDepth := 8) [go_sem, *]
theorem Nc.put4 {B C : Nat} {g : Bool} {x0 x1 x2 x3 : Int} {u0 u1 u2 u3 : Value} {W : World} (h : Nc B g x0 x1 x2 x3 W) (hne : C ≠ B) : Nc B g x0 x1 x2 x3 ((((W.setCell ⟨C, 0, none⟩ u0).setCell ⟨C, 1, none⟩ u1).setCell ⟨C, 2, none⟩ u2).setCell ⟨C, 3, none⟩ u3) := by
  obtain ⟨⟨a, b, c, d, e⟩, f, g, h, i, j⟩ := h
  have hne2 := hne.symm
  unfold Nc; simp (maxDischargeDepth := 8) [go_sem, *]
theorem dv_up (P y q r : Int) (hq : q = P / y) (hr : r = P % y) (hy : 0 < y) (h : y ≤ 2 * r) : 2 * q + 1 = (2 * P) / y ∧ 2 * r - y = (2 * P) % y := by
  have e := Int.mul_ediv_add_emod P y
  have rl := Int.emod_lt_of_pos P hy
  have k := (Int.ediv_emod_unique (a := 2 * P) (b := y) (q := 2 * q + 1) (r := 2 * r - y) hy).mpr ⟨by rw [← e, ← hq, ← hr]; rw [Int.mul_add, Int.mul_add, Int.mul_left_comm]; omega, by omega, by omega⟩
  exact ⟨k.1.symm, k.2.symm⟩
theorem dv_dn (P y q r : Int) (hq : q = P / y) (hr : r = P % y) (hy : 0 < y) (h : 2 * r < y) : 2 * q = (2 * P) / y ∧ 2 * r = (2 * P) % y := by
  have e := Int.mul_ediv_add_emod P y
  have r0 := Int.emod_nonneg P (Int.ne_of_gt hy)
  have k := (Int.ediv_emod_unique (a := 2 * P) (b := y) (q := 2 * q) (r := 2 * r) hy).mpr ⟨by rw [← e, ← hq, ← hr]; rw [Int.mul_add, Int.mul_left_comm]; omega, by omega, by omega⟩
  exact ⟨k.1.symm, k.2.symm⟩
theorem ptk_lt (x y : Int) (k : Nat) (h0 : 0 ≤ x) (hxy : x < y) : x * 2 ^ k / y < 2 ^ k := by
  refine Int.ediv_lt_of_lt_mul (by omega) ?_
  rw [Int.mul_comm]
  exact Int.mul_lt_mul_of_pos_left hxy (Int.pow_pos (by decide))
end
section
theorem Rc.drew {B : Nat} {x0 x1 x2 x3 : Int} {W : World} (h : Rc B x0 x1 x2 x3 W) : Rc B x0 x1 x2 x3 W.drew := by
  obtain ⟨⟨b, c, d, e⟩, g, h, i, j⟩ := h
  unfold Rc; simp [go_sem, *]
theorem Rc.put4 {B C : Nat} {x0 x1 x2 x3 : Int} {u0 u1 u2 u3 : Value} {W : World} (h : Rc B x0 x1 x2 x3 W) (hne : C ≠ B) : Rc B x0 x1 x2 x3 ((((W.setCell ⟨C, 0, none⟩ u0).setCell ⟨C, 1, none⟩ u1).setCell ⟨C, 2, none⟩ u2).setCell ⟨C, 3, none⟩ u3) := by
  obtain ⟨⟨b, c, d, e⟩, g, h, i, j⟩ := h
  have hne2 := hne.symm
  unfold Rc; simp (maxDischargeDepth := 8) [go_sem, *]
def OV (w : World) (x y q r : Int) (wx : World) : Prop :=
  Below w.heap.size w wx ∧ w.heap.size + 1 + 1 + 1 + 1 + 1 + 1 ≤ wx.heap.size ∧ Rc (w.heap.size) (d0 x) (d1 x) (d2 x) (d3 x) wx ∧ Rc (w.heap.size + 1) (d0 y) (d1 y) (d2 y) (d3 y) wx ∧ Rc (w.heap.size + 1 + 1) 0 0 0 0 wx ∧ Rc (w.heap.size + 1 + 1 + 1) 0 0 0 0 wx ∧ Rc (w.heap.size + 1 + 1 + 1 + 1) (d0 q) (d1 q) (d2 q) (d3 q) wx ∧ Rc (w.heap.size + 1 + 1 + 1 + 1 + 1) (d0 r) (d1 r) (d2 r) (d3 r) wx
theorem OV.later {w : World} {x y q r : Int} {W w1 : World} (h : OV w x y q r W) (hB : Below W.heap.size W w1) : OV w x y q r w1 := by
  obtain ⟨b0, bz, ra, rb, r0, r1, rq, rr⟩ := h
  exact ⟨below_step b0 hB, Nat.le_trans bz hB.size, ra.later hB, rb.later hB, r0.later hB, r1.later hB, rq.later hB, rr.later hB⟩
theorem OV.drew {w : World} {x y q r : Int} {W : World} (h : OV w x y q r W) : OV w x y q r W.drew := by
  obtain ⟨b0, bz, ra, rb, r0, r1, rq, rr⟩ := h
  exact ⟨b0.drew, bz, ra.drew, rb.drew, r0.drew, r1.drew, rq.drew, rr.drew⟩
theorem OV.putR {w : World} {x y q r : Int} {W : World} (h : OV w x y q r W) (s : Int) : OV w x y q s ((((W.setCell ⟨w.heap.size + 1 + 1 + 1 + 1 + 1, 0, none⟩ (.int .u64 (d0 s))).setCell ⟨w.heap.size + 1 + 1 + 1 + 1 + 1, 1, none⟩ (.int .u64 (d1 s))).setCell ⟨w.heap.size + 1 + 1 + 1 + 1 + 1, 2, none⟩ (.int .u64 (d2 s))).setCell ⟨w.heap.size + 1 + 1 + 1 + 1 + 1, 3, none⟩ (.int .u64 (d3 s))) := by
  obtain ⟨b0, bz, ra, rb, r0, r1, rq, rr⟩ := h
  exact ⟨by (repeat (first | with_reducible assumption | with_reducible exact Below.refl _ _ | ((with_reducible refine Below.setCell ?_ ?_ _); rotate_left; (first | exact Nat.le_refl _ | (dsimp only; omega) | (simp; done) | (simp; omega))) | with_reducible refine below_alloc ?_ _ | with_reducible apply below_drewN | with_reducible apply Below.drew | with_reducible refine below_step ?_ (by assumption))), by simpa using bz, ra.put4 (by omega), rb.put4 (by omega), r0.put4 (by omega), r1.put4 (by omega), rq.put4 (by omega), rr.put _ _ _ _⟩
theorem OV.putQ {w : World} {x y q r : Int} {W : World} (h : OV w x y q r W) (s : Int) : OV w x y s r ((((W.setCell ⟨w.heap.size + 1 + 1 + 1 + 1, 0, none⟩ (.int .u64 (d0 s))).setCell ⟨w.heap.size + 1 + 1 + 1 + 1, 1, none⟩ (.int .u64 (d1 s))).setCell ⟨w.heap.size + 1 + 1 + 1 + 1, 2, none⟩ (.int .u64 (d2 s))).setCell ⟨w.heap.size + 1 + 1 + 1 + 1, 3, none⟩ (.int .u64 (d3 s))) := by
  obtain ⟨b0, bz, ra, rb, r0, r1, rq, rr⟩ := h
  exact ⟨by (repeat (first | with_reducible assumption | with_reducible exact Below.refl _ _ | ((with_reducible refine Below.setCell ?_ ?_ _); rotate_left; (first | exact Nat.le_refl _ | (dsimp only; omega) | (simp; done) | (simp; omega))) | with_reducible refine below_alloc ?_ _ | with_reducible apply below_drewN | with_reducible apply Below.drew | with_reducible refine below_step ?_ (by assumption))), by simpa using bz, ra.put4 (by omega), rb.put4 (by omega), r0.put4 (by omega), r1.put4 (by omega), rq.put _ _ _ _, rr.put4 (by omega)⟩
theorem d_even (q s : Int) (h : 2 * q = s) (h0 : 0 ≤ s) : d0 (s + 1) = d0 s + 1 ∧ d1 (s + 1) = d1 s ∧ d2 (s + 1) = d2 s ∧ d3 (s + 1) = d3 s ∧ 0 ≤ d0 s ∧ d0 s ≤ 4294967294 := by unfold d0 d1 d2 d3; omega
theorem Rc.put0 {B : Nat} {x0 x1 x2 x3 : Int} {W : World} (h : Rc B x0 x1 x2 x3 W) (y0 : Int) : Rc B y0 x1 x2 x3 (W.setCell ⟨B, 0, none⟩ (.int .u64 y0)) := by
  obtain ⟨⟨b, c, d, e⟩, g, h, i, j⟩ := h
  unfold Rc; simp (maxDischargeDepth := 8) [go_sem, *]
theorem Rc.put1 {B C : Nat} {x0 x1 x2 x3 : Int} {u0 : Value} {W : World} (h : Rc B x0 x1 x2 x3 W) (hne : C ≠ B) : Rc B x0 x1 x2 x3 (W.setCell ⟨C, 0, none⟩ u0) := by
  obtain ⟨⟨b, c, d, e⟩, g, h, i, j⟩ := h
  have hne2 := hne.symm
  unfold Rc; simp (maxDischargeDepth := 8) [go_sem, *]
theorem OV.putQ0 {w : World} {x y q r s : Int} {W : World} (h : OV w x y s r W) (hq : 2 * q = s) (h0 : 0 ≤ s) : OV w x y (s + 1) r (W.setCell ⟨w.heap.size + 1 + 1 + 1 + 1, 0, none⟩ (.int .u64 (d0 s + 1))) := by
  obtain ⟨b0, bz, ra, rb, r0, r1, rq, rr⟩ := h
  obtain ⟨e0, e1, e2, e3, _, _⟩ := d_even q s hq h0
  unfold OV
  rw [e0, e1, e2, e3]
  exact ⟨by (repeat (first | with_reducible assumption | with_reducible exact Below.refl _ _ | ((with_reducible refine Below.setCell ?_ ?_ _); rotate_left; (first | exact Nat.le_refl _ | (dsimp only; omega) | (simp; done) | (simp; omega))) | with_reducible refine below_alloc ?_ _ | with_reducible apply below_drewN | with_reducible apply Below.drew | with_reducible refine below_step ?_ (by assumption))), by simpa using bz, ra.put1 (by omega), rb.put1 (by omega), r0.put1 (by omega), r1.put1 (by omega), rq.put0 _, rr.put1 (by omega)⟩
theorem hstep (X : Int) (n : Nat) : X / 2 ^ n = 2 * (X / 2 ^ (n + 1)) + X / 2 ^ n % 2 := by
  have h : X / 2 ^ (n + 1) = X / 2 ^ n / 2 := by rw [Int.pow_succ, Int.ediv_ediv_of_nonneg (Int.le_of_lt (Int.pow_pos (by decide)))]
  rw [h]; omega
theorem od_up (P b y q r : Int) (hq : q = P / y) (hr : r = P % y) (hy : 0 < y) (h0 : 0 ≤ b) (h1 : b ≤ 1) (h : y ≤ 2 * r + b) : 2 * q + 1 = (2 * P + b) / y ∧ 2 * r + b - y = (2 * P + b) % y := by
  have e := Int.mul_ediv_add_emod P y
  have rl := Int.emod_lt_of_pos P hy
  have k := (Int.ediv_emod_unique (a := 2 * P + b) (b := y) (q := 2 * q + 1) (r := 2 * r + b - y) hy).mpr ⟨by rw [← e, ← hq, ← hr]; rw [Int.mul_add, Int.mul_add, Int.mul_left_comm]; omega, by omega, by omega⟩
  exact ⟨k.1.symm, k.2.symm⟩
theorem od_dn (P b y q r : Int) (hq : q = P / y) (hr : r = P % y) (hy : 0 < y) (h0 : 0 ≤ b) (h1 : b ≤ 1) (h : 2 * r + b < y) : 2 * q = (2 * P + b) / y ∧ 2 * r + b = (2 * P + b) % y := by
  have e := Int.mul_ediv_add_emod P y
  have r0 := Int.emod_nonneg P (Int.ne_of_gt hy)
  have k := (Int.ediv_emod_unique (a := 2 * P + b) (b := y) (q := 2 * q) (r := 2 * r + b) hy).mpr ⟨by rw [← e, ← hq, ← hr]; rw [Int.mul_add, Int.mul_left_comm]; omega, by omega, by omega⟩
  exact ⟨k.1.symm, k.2.symm⟩
set_option maxHeartbeats 8000000 in
theorem cROver (x y : Int) (w : World) (x0 : 0 ≤ x) (x1 : x ≤ 340282366920938463463374607431768211455) (y0 : 0 < y) (y1 : y ≤ 170141183460469231731687303715884105728) :
    Calls Try.prog 99 #[.agg #[.int .u64 (d0 (x)), .int .u64 (d1 (x)), .int .u64 (d2 (x)), .int .u64 (d3 (x))], .agg #[.int .u64 (d0 (y)), .int .u64 (d1 (y)), .int .u64 (d2 (y)), .int .u64 (d3 (y))]] w fun e w' => e = .returned (.tuple #[.agg #[.int .u64 (d0 (x / y)), .int .u64 (d1 (x / y)), .int .u64 (d2 (x / y)), .int .u64 (d3 (x / y))], .agg #[.int .u64 (d0 (x % y)), .int .u64 (d1 (x % y)), .int .u64 (d2 (x % y)), .int .u64 (d3 (x % y))]]) ∧ Below w.heap.size w w' := by
  go_enter Try.func99, Try.ntmps99
  go_wp2_with (fail)
  go_loopw [8] (fun c wx => ∃ i q r : Int, c = .int .i64 i ∧ OV w x y q r wx ∧ -1 ≤ i ∧ i ≤ 127 ∧ 0 ≤ q ∧ q ≤ 340282366920938463463374607431768211455 ∧ 0 ≤ r ∧ r < y ∧ Hid (q = x / 2 ^ (i + 1).toNat / y ∧ r = x / 2 ^ (i + 1).toNat % y)) (fun c _ => (RowKit.intOf c + 1).toNat)
  case atStart =>
    have hx : x / 2 ^ 128 = 0 := Int.ediv_eq_zero_of_lt x0 (by have : (2 : Int) ^ 128 = 340282366920938463463374607431768211456 := by decide
                                                               omega)
    refine ⟨127, 0, 0, rfl, ⟨by (repeat (first | with_reducible assumption | with_reducible exact Below.refl _ _ | ((with_reducible refine Below.setCell ?_ ?_ _); rotate_left; (first | exact Nat.le_refl _ | (dsimp only; omega) | (simp; done) | (simp; omega))) | with_reducible refine below_alloc ?_ _ | with_reducible apply below_drewN | with_reducible apply Below.drew | with_reducible refine below_step ?_ (by assumption))), by simp, ?_, ?_, ?_, ?_, ?_, ?_⟩, by omega, by omega, by omega, by omega, by omega, y0, Lib.hid (by simp only [show ((127 : Int) + 1).toNat = 128 from rfl, hx]; exact ⟨by simp, by simp⟩)⟩ <;> (unfold Rc; simp [go_sem, d0, d1, d2, d3])
  case round =>
    obtain ⟨i, q, r, rfl, hov, i0, i1, q0, q1, r00, r01, HQ⟩ := hrel
    by_cases hi : i = -1
    · subst hi
      obtain ⟨b0, bz, ra, rb, r0, r1, rq, rr⟩ := hov
      have hq : q = x / y := by have := HQ.out.1; simpa using this
      have hr : r = x % y := by have := HQ.out.2; simpa using this
      subst hq; subst hr
      clear HQ
      obtain ⟨⟨a1, a2, a3, a4⟩, a5, a6, a7, a8⟩ := r0
      obtain ⟨⟨c1, c2, c3, c4⟩, c5, c6, c7, c8⟩ := r1
      obtain ⟨⟨e1, e2, e3, e4⟩, e5, e6, e7, e8⟩ := rq
      obtain ⟨⟨f1, f2, f3, f4⟩, f5, f6, f7, f8⟩ := rr
      go_upto_region 10 with (fail)
      go_region_held3 (fun w' => w'.cell? ⟨w.heap.size + 1 + 1 + 1 + 1, 0, none⟩ = some (.int .u64 (d0 (x / y))) ∧ w'.cell? ⟨w.heap.size + 1 + 1 + 1 + 1, 1, none⟩ = some (.int .u64 (d1 (x / y))) ∧ w'.cell? ⟨w.heap.size + 1 + 1 + 1 + 1, 2, none⟩ = some (.int .u64 (d2 (x / y))) ∧ w'.cell? ⟨w.heap.size + 1 + 1 + 1 + 1, 3, none⟩ = some (.int .u64 (d3 (x / y))) ∧ w'.cell? ⟨w.heap.size + 1 + 1 + 1 + 1 + 1, 0, none⟩ = some (.int .u64 (d0 (x % y))) ∧ w'.cell? ⟨w.heap.size + 1 + 1 + 1 + 1 + 1, 1, none⟩ = some (.int .u64 (d1 (x % y))) ∧ w'.cell? ⟨w.heap.size + 1 + 1 + 1 + 1 + 1, 2, none⟩ = some (.int .u64 (d2 (x % y))) ∧ w'.cell? ⟨w.heap.size + 1 + 1 + 1 + 1 + 1, 3, none⟩ = some (.int .u64 (d3 (x % y)))) (simp (maxDischargeDepth := 6) [go_sem, *]) (fail)
      all_goals go_wp2
      all_goals simp (maxDischargeDepth := 8) [bodyPost, results, Try.results99, go_sem, *]
      all_goals (repeat (first | with_reducible assumption | with_reducible exact Below.refl _ _ | ((with_reducible refine Below.setCell ?_ ?_ _); rotate_left; (first | exact Nat.le_refl _ | (dsimp only; omega) | (simp; done) | (simp; omega))) | with_reducible refine below_alloc ?_ _ | with_reducible apply below_drewN | with_reducible apply Below.drew | with_reducible refine below_step ?_ (by assumption)))
    · obtain ⟨k, hk⟩ : ∃ k : Nat, i = k := ⟨i.toNat, by omega⟩
      obtain ⟨h1, h2⟩ := HQ.out
      rw [show (i + 1).toNat = k + 1 by omega] at h1 h2
      have hst := hstep x k
      obtain ⟨P, hP⟩ : ∃ t, x / 2 ^ (k + 1) = t := ⟨_, rfl⟩
      rw [hP] at h1 h2 hst
      have P0 : 0 ≤ P := by rw [← hP]; exact Int.ediv_nonneg x0 (Int.le_of_lt (Int.pow_pos (by decide)))
      obtain ⟨bt, hbt⟩ : ∃ t, x / 2 ^ k % 2 = t := ⟨_, rfl⟩
      have bt0 : 0 ≤ bt ∧ bt ≤ 1 := by omega
      have xk : x / 2 ^ k ≤ x := Int.ediv_le_self _ x0
      have qP : q ≤ P := by rw [h1]; exact Int.ediv_le_self _ P0
      rw [hbt] at hst
      have kb := fun w => cRBit x i w x0 x1 (by omega) (by omega)
      rw [show i.toNat = k by omega, hbt] at kb
      obtain ⟨r2, hr2⟩ : ∃ t, 2 * r + bt = t := ⟨_, rfl⟩
      obtain ⟨q2, hq2⟩ : ∃ t, 2 * q = t := ⟨_, rfl⟩
      have kt := fun w => cRTwice r bt w r00 (by omega) bt0.1 bt0.2
      rw [show (2 * r + bt) % 340282366920938463463374607431768211456 = r2 by omega] at kt
      have kq := fun w => cRTwice q 0 w q0 q1 (by omega) (by omega)
      rw [show (2 * q + 0) % 340282366920938463463374607431768211456 = q2 by omega] at kq
      have kl := fun w => cRLess r2 y w (by omega) (by omega) (by omega) (by omega)
      have HK : Hid (i = k ∧ q = P / y ∧ r = P % y ∧ x / 2 ^ k = 2 * P + bt ∧ (0 ≤ bt ∧ bt ≤ 1) ∧ 2 * r + bt = r2 ∧ 2 * q = q2 ∧ q2 ≤ x) := Lib.hid ⟨hk, h1, h2, hst, bt0, hr2, hq2, by omega⟩
      clear HQ hk h1 h2 hst hP hbt xk qP hr2 hq2 bt0 P0
      obtain ⟨B0, BZ, ⟨⟨a1, a2, a3, a4⟩, a5⟩, ⟨⟨b1, b2, b3, b4⟩, b5⟩, ra, rb, ⟨⟨c1, c2, c3, c4⟩, c5⟩, ⟨⟨e1, e2, e3, e4⟩, e5⟩⟩ := id hov
      go_upto_region 5 with (fail)
      go_cut [] (fun wx => OV w x y q r2 wx)
      case first =>
        go_region_with (first
          | (go_at_call 104; refine (kb _).mono ?_; rintro e w2 ⟨rfl, hB⟩; have hov2 := hov.drew.later hB; obtain ⟨B02, BZ2, ⟨⟨a12, a22, a32, a42⟩, a52⟩, ⟨⟨b12, b22, b32, b42⟩, b52⟩, ra2, rb2, ⟨⟨c12, c22, c32, c42⟩, c52⟩, ⟨⟨e12, e22, e32, e42⟩, e52⟩⟩ := id hov2)
          | (go_at_call 100; refine (kt _).mono ?_; rintro e w3 ⟨rfl, hB⟩; have hov3 := hov2.later hB; obtain ⟨B03, BZ3, ra3, rb3, rc3, rd3, re3, ⟨⟨e13, e23, e33, e43⟩, e53, e63, e73, e83⟩⟩ := id hov3))
        all_goals go_wp2
        all_goals go_meet
        all_goals exact hov3.putR r2
      case rest =>
        by_cases hv : r2 < y
        · rw [decide_eq_true hv] at kl
          have HV := Lib.hid hv
          clear hv
          obtain ⟨B0, BZ, ⟨⟨a1, a2, a3, a4⟩, a5⟩, ⟨⟨b1, b2, b3, b4⟩, b5⟩, ra, rb, ⟨⟨c1, c2, c3, c4⟩, c5, c6, c7, c8⟩, ⟨⟨e1, e2, e3, e4⟩, e5, e6, e7, e8⟩⟩ := id hcut
          go_wp2_with (fail)
          go_at_call 100
          refine (kq _).mono ?_
          rintro e w4 ⟨rfl, hB⟩
          have hov4 := hcut.later hB
          clear hB a1 a2 a3 a4 a5 b1 b2 b3 b4 b5 c1 c2 c3 c4 c5 c6 c7 c8 e1 e2 e3 e4 e5 e6 e7 e8
          obtain ⟨B0, BZ, ⟨⟨a1, a2, a3, a4⟩, a5⟩, ⟨⟨b1, b2, b3, b4⟩, b5⟩, ra, rb, ⟨⟨c1, c2, c3, c4⟩, c5, c6, c7, c8⟩, ⟨⟨e1, e2, e3, e4⟩, e5, e6, e7, e8⟩⟩ := id hov4
          go_wp2_with (fail)
          go_at_call 88
          refine (kl _).mono ?_
          rintro e w5 ⟨rfl, hB⟩
          have hov5 := (hov4.putQ q2).later hB
          clear hB a1 a2 a3 a4 a5 b1 b2 b3 b4 b5 c1 c2 c3 c4 c5 c6 c7 c8 e1 e2 e3 e4 e5 e6 e7 e8
          go_wp2
          obtain ⟨hk, h1, h2, hst, bt0, hr2, hq2, hqx⟩ := HK.out
          have hv := HV.out
          have dd := od_dn P bt y q r h1 h2 y0 bt0.1 bt0.2 (by omega)
          refine ⟨⟨i - 1, q2, r2, rfl, hov5, by omega, by omega, by omega, by omega, by omega, by omega, Lib.hid ?_⟩, by simp [RowKit.intOf]; omega⟩
          rw [show (i - 1 + 1).toNat = k by omega, hst, ← dd.1, ← dd.2]
          exact ⟨by omega, by omega⟩
        · rw [decide_eq_false hv] at kl
          obtain ⟨r3, hr3⟩ : ∃ t, r2 - y = t := ⟨_, rfl⟩
          have km := fun w => cRMinus r2 y w (by have := HK.out; omega) (by have := HK.out; omega) (by omega) (by omega)
          rw [hr3] at km
          have HV := Lib.hid (And.intro hv hr3)
          have hde := d_even q q2 (by have := HK.out; omega) (by have := HK.out; omega)
          have wde : IntKind.u64.wrap (d0 q2 + 1) = d0 q2 + 1 := by rw [IntKind.wrap_u64]; omega
          clear hv hr3 hde
          obtain ⟨B0, BZ, ⟨⟨a1, a2, a3, a4⟩, a5⟩, ⟨⟨b1, b2, b3, b4⟩, b5⟩, ra, rb, ⟨⟨c1, c2, c3, c4⟩, c5, c6, c7, c8⟩, ⟨⟨e1, e2, e3, e4⟩, e5, e6, e7, e8⟩⟩ := id hcut
          go_wp2_with (fail)
          go_at_call 100
          refine (kq _).mono ?_
          rintro e w4 ⟨rfl, hB⟩
          have hov4 := hcut.later hB
          clear hB a1 a2 a3 a4 a5 b1 b2 b3 b4 b5 c1 c2 c3 c4 c5 c6 c7 c8 e1 e2 e3 e4 e5 e6 e7 e8
          obtain ⟨B0, BZ, ⟨⟨a1, a2, a3, a4⟩, a5⟩, ⟨⟨b1, b2, b3, b4⟩, b5⟩, ra, rb, ⟨⟨c1, c2, c3, c4⟩, c5, c6, c7, c8⟩, ⟨⟨e1, e2, e3, e4⟩, e5, e6, e7, e8⟩⟩ := id hov4
          go_wp2_with (fail)
          go_at_call 88
          refine (kl _).mono ?_
          rintro e w5 ⟨rfl, hB⟩
          have hov5 := (hov4.putQ q2).later hB
          clear hB a1 a2 a3 a4 a5 b1 b2 b3 b4 b5 c1 c2 c3 c4 c5 c6 c7 c8 e1 e2 e3 e4 e5 e6 e7 e8
          obtain ⟨B0, BZ, ⟨⟨a1, a2, a3, a4⟩, a5⟩, ⟨⟨b1, b2, b3, b4⟩, b5⟩, ra, rb, ⟨⟨c1, c2, c3, c4⟩, c5, c6, c7, c8⟩, ⟨⟨e1, e2, e3, e4⟩, e5, e6, e7, e8⟩⟩ := id hov5
          go_wp2_with (fail)
          go_at_call 89
          refine (km _).mono ?_
          rintro e w6 ⟨rfl, hB⟩
          have hov6 := hov5.later hB
          clear hB a1 a2 a3 a4 a5 b1 b2 b3 b4 b5 c1 c2 c3 c4 c5 c6 c7 c8 e1 e2 e3 e4 e5 e6 e7 e8
          obtain ⟨B0, BZ, ⟨⟨a1, a2, a3, a4⟩, a5⟩, ⟨⟨b1, b2, b3, b4⟩, b5⟩, ra, rb, ⟨⟨c1, c2, c3, c4⟩, c5, c6, c7, c8⟩, ⟨⟨e1, e2, e3, e4⟩, e5, e6, e7, e8⟩⟩ := id hov6
          go_wp2
          obtain ⟨hk, h1, h2, hst, bt0, hr2, hq2, hqx⟩ := HK.out
          obtain ⟨hv, hr3⟩ := HV.out
          have dd := od_up P bt y q r h1 h2 y0 bt0.1 bt0.2 (by omega)
          refine ⟨⟨i - 1, q2 + 1, r3, rfl, (hov6.putR r3).putQ0 hq2 (by omega), by omega, by omega, by omega, by omega, by omega, by omega, Lib.hid ?_⟩, by simp [RowKit.intOf]; omega⟩
          rw [show (i - 1 + 1).toNat = k by omega, hst, ← dd.1, ← dd.2]
          exact ⟨by omega, by omega⟩
end
section
def DW (w : World) (A D Q : Nat) (g h : Bool) (m n q : Int) (W : World) : Prop :=
  Below w.heap.size w W ∧ Nc A g (d0 m) (d1 m) (d2 m) (d3 m) W ∧ Nc D h (d0 n) (d1 n) (d2 n) (d3 n) W ∧ Rc Q (d0 q) (d1 q) (d2 q) (d3 q) W ∧ w.heap.size ≤ A ∧ A < Q ∧ w.heap.size ≤ D ∧ D < Q ∧ Q < W.heap.size
theorem DW.later {w : World} {A D Q : Nat} {g h : Bool} {m n q : Int} {W w1 : World} (H : DW w A D Q g h m n q W) (hB : Below W.heap.size W w1) : DW w A D Q g h m n q w1 := by
  obtain ⟨b, ha, hd, hq, e1, e2, e3, e4, e5⟩ := H
  exact ⟨below_step b hB, ha.later hB, hd.later hB, hq.later hB, e1, e2, e3, e4, Nat.lt_of_lt_of_le e5 hB.size⟩
theorem DW.put {w : World} {A D Q : Nat} {g h : Bool} {m n q : Int} {W : World} (H : DW w A D Q g h m n q W) (s : Int) :
    DW w A D Q g h m n s ((((W.setCell ⟨Q, 0, none⟩ (.int .u64 (d0 s))).setCell ⟨Q, 1, none⟩ (.int .u64 (d1 s))).setCell ⟨Q, 2, none⟩ (.int .u64 (d2 s))).setCell ⟨Q, 3, none⟩ (.int .u64 (d3 s))) := by
  obtain ⟨b, ha, hd, hq, e1, e2, e3, e4, e5⟩ := H
  exact ⟨by (repeat (first | with_reducible assumption | with_reducible exact Below.refl _ _ | ((with_reducible refine Below.setCell ?_ ?_ _); rotate_left; (first | exact Nat.le_refl _ | (dsimp only; omega) | (simp; done) | (simp; omega))) | with_reducible refine below_alloc ?_ _ | with_reducible apply below_drewN | with_reducible apply Below.drew | with_reducible refine below_step ?_ (by assumption))), ha.put4 (by omega), hd.put4 (by omega), hq.put _ _ _ _, e1, e2, e3, e4, by simpa using e5⟩
theorem bne_t (g h : Bool) : (g != h) = true → (g = true ∧ h = false) ∨ (g = false ∧ h = true) := by cases g <;> cases h <;> simp
theorem bne_f (g h : Bool) : (g != h) = false → (g = true ∧ h = true) ∨ (g = false ∧ h = false) := by cases g <;> cases h <;> simp
theorem qn_cases (m n q r r2 : Int) (hq : m / n = q) (hr : m % n = r) (h2 : 2 * r = r2) : qn m n = if (decide (n < r2) || (decide (r2 = n) && decide (q % 2 = 1))) = true then q + 1 else q := by
  unfold qn
  rw [hq, hr, h2]
  by_cases h1 : n < r2 <;> by_cases h3 : r2 = n <;> by_cases h4 : q % 2 = 1 <;> simp [h1, h3, h4]
set_option maxHeartbeats 8000000 in
theorem cRDiv (x b : Int) (w : World) (hx : (x.natAbs : Int) ≤ 170141183460469231731687303715884105728) (b0 : -9223372036854775808 ≤ b) (b1 : b ≤ 9223372036854775807) :
    Calls Try.prog 82 #[.agg #[.bool (decide (x < 0)), .int .u64 (d0 (x.natAbs)), .int .u64 (d1 (x.natAbs)), .int .u64 (d2 (x.natAbs)), .int .u64 (d3 (x.natAbs))], .int .i64 b] w fun e w' => e = .returned (.tuple #[.int .i64 (dq x b), .bool (dok x b)]) ∧ Below w.heap.size w w' := by
  by_cases hb : b = 0
  · subst hb
    have e1 : dok x 0 = false := by simp [dok]
    have e2 : dq x 0 = 0 := by unfold dq; rw [e1]; rfl
    rw [e1, e2]
    go_enter Try.func82, Try.ntmps82
    go_wp2
    simp [bodyPost, results, Try.results82, go_sem]
    (repeat (first | with_reducible assumption | with_reducible exact Below.refl _ _ | ((with_reducible refine Below.setCell ?_ ?_ _); rotate_left; (first | exact Nat.le_refl _ | (dsimp only; omega) | (simp; done) | (simp; omega))) | with_reducible refine below_alloc ?_ _ | with_reducible apply below_drewN | with_reducible apply Below.drew | with_reducible refine below_step ?_ (by assumption)))
  · have hb2 : (b == 0) = false := by simpa using hb
    obtain ⟨g, hg⟩ : ∃ t, decide (x < 0) = t := ⟨_, rfl⟩
    obtain ⟨m, hm⟩ : ∃ t, (x.natAbs : Int) = t := ⟨_, rfl⟩
    have ko := fun w => cROf b w b0 b1
    obtain ⟨h, hh⟩ : ∃ t, decide (b < 0) = t := ⟨_, rfl⟩
    obtain ⟨n, hn⟩ : ∃ t, (b.natAbs : Int) = t := ⟨_, rfl⟩
    have m0 : 0 ≤ m := by omega
    have m1 : m ≤ 170141183460469231731687303715884105728 := by omega
    have n0 : 0 < n := by omega
    have n1 : n ≤ 9223372036854775808 := by omega
    rw [hg, hm]
    rw [hh, hn] at ko
    have kv := fun w => cROver m n w m0 (by omega) n0 (by omega)
    obtain ⟨q, hq⟩ : ∃ t, m / n = t := ⟨_, rfl⟩
    obtain ⟨r, hr⟩ : ∃ t, m % n = t := ⟨_, rfl⟩
    obtain ⟨r2, hr2⟩ : ∃ t, 2 * r = t := ⟨_, rfl⟩
    obtain ⟨up, hup⟩ : ∃ t, (decide (n < r2) || (decide (r2 = n) && decide (q % 2 = 1))) = t := ⟨_, rfl⟩
    have hQn := qn_cases m n q r r2 hq hr hr2
    rw [hup] at hQn
    obtain ⟨Q, hQ⟩ : ∃ t, qn m n = t := ⟨_, rfl⟩
    rw [hQ] at hQn
    have HX := Lib.hid (dok_of x b m n Q g h hm hg hn hh hb hQ)
    rw [hq, hr] at kv
    have r0 : 0 ≤ r := by rw [← hr]; exact Int.emod_nonneg _ (by omega)
    have r1 : r < n := by rw [← hr]; exact Int.emod_lt_of_pos _ n0
    have q0 : 0 ≤ q := by rw [← hq]; exact Int.ediv_nonneg m0 (by omega)
    have q1 : q ≤ m := by rw [← hq]; exact Int.ediv_le_self _ m0
    have kt := fun w => cRTwice r 0 w r0 (by omega) (by decide) (by decide)
    rw [show (2 * r + 0) % 340282366920938463463374607431768211456 = r2 by omega] at kt
    have kl := fun w => cRLess n r2 w (by omega) (by omega) (by omega) (by omega)
    have ke := fun w => eqDg r2 n (by omega) (by omega) (by omega) (by omega) w
    have kp := fun w => cRPlus q 1 w q0 (by omega) (by decide) (by decide)
    rw [show (q + 1) % 340282366920938463463374607431768211456 = q + 1 by omega, show d0 1 = 1 by decide, show d1 1 = 0 by decide, show d2 1 = 0 by decide, show d3 1 = 0 by decide] at kp
    have Q0 : 0 ≤ Q := by rw [hQn]; split <;> omega
    have Q1 : Q ≤ 170141183460469231731687303715884105729 := by rw [hQn]; split <;> omega
    have HQ := Lib.hid hQn
    have HU := Lib.hid hup
    have hq2 : d0 q % 2 = q % 2 := by unfold d0; omega
    have d0q := d0_bd q
    clear hQn hup hg hm hh hn hx hq hr hr2 hQ hb
    generalize dq x b = X at *
    generalize dok x b = Y at *
    go_enter Try.func82, Try.ntmps82
    go_wp2_with (fail)
    (go_at_call 98; (with_reducible refine (ko _).mono ?_); rintro e w1 ⟨rfl, hM⟩)
    rename World => wd
    have B1 : Below w.heap.size w wd := below_step (W := _) (by (repeat (first | with_reducible assumption | with_reducible exact Below.refl _ _ | ((with_reducible refine Below.setCell ?_ ?_ _); rotate_left; (first | exact Nat.le_refl _ | (dsimp only; omega) | (simp; done) | (simp; omega))) | with_reducible refine below_alloc ?_ _ | with_reducible apply below_drewN | with_reducible apply Below.drew | with_reducible refine below_step ?_ (by assumption)))) hM
    have hz := hM.size
    simp at hz
    have ha := Nc.later (W := _) (B := w.heap.size) (g := g) (x0 := d0 m) (x1 := d1 m) (x2 := d2 m) (x3 := d3 m) (by unfold Nc; simp [go_sem]) hM
    have ha := ha.later ((Below.refl _ _).alloc (Nat.le_refl _) (Obj.cells #[.bool h, .int .u64 (d0 n), .int .u64 (d1 n), .int .u64 (d2 n), .int .u64 (d3 n)] 95))
    have hd : Nc wd.heap.size h (d0 n) (d1 n) (d2 n) (d3 n) (wd.alloc (Obj.cells #[.bool h, .int .u64 (d0 n), .int .u64 (d1 n), .int .u64 (d2 n), .int .u64 (d3 n)] 95)) := by unfold Nc; simp [go_sem]
    clear hM ko
    obtain ⟨⟨u0, u1, u2, u3, u4⟩, u5⟩ := id ha
    obtain ⟨⟨v0, v1, v2, v3, v4⟩, v5⟩ := id hd
    go_wp2_with (fail)
    go_at_call 99
    refine (kv _).mono ?_
    rintro e w2 ⟨rfl, hB⟩
    have B2 : Below w.heap.size w w2 := below_step (W := _) (by (repeat (first | with_reducible assumption | with_reducible exact Below.refl _ _ | ((with_reducible refine Below.setCell ?_ ?_ _); rotate_left; (first | exact Nat.le_refl _ | (dsimp only; omega) | (simp; done) | (simp; omega))) | with_reducible refine below_alloc ?_ _ | with_reducible apply below_drewN | with_reducible apply Below.drew | with_reducible refine below_step ?_ (by assumption)))) hB
    have hz2 := hB.size
    simp at hz2
    have ha := ha.later hB
    have hd := hd.later hB
    clear hB kv u0 u1 u2 u3 u4 u5 v0 v1 v2 v3 v4 v5
    have hW : DW w w.heap.size wd.heap.size w2.heap.size g h m n q ((w2.alloc (Obj.cells #[.int .u64 (d0 q), .int .u64 (d1 q), .int .u64 (d2 q), .int .u64 (d3 q)] 88)).alloc (Obj.cells #[.int .u64 (d0 r), .int .u64 (d1 r), .int .u64 (d2 r), .int .u64 (d3 r)] 88)) :=
      ⟨by (repeat (first | with_reducible assumption | with_reducible exact Below.refl _ _ | ((with_reducible refine Below.setCell ?_ ?_ _); rotate_left; (first | exact Nat.le_refl _ | (dsimp only; omega) | (simp; done) | (simp; omega))) | with_reducible refine below_alloc ?_ _ | with_reducible apply below_drewN | with_reducible apply Below.drew | with_reducible refine below_step ?_ (by assumption))), (ha.later ((Below.refl _ _).alloc (Nat.le_refl _) (Obj.cells #[.int .u64 (d0 q), .int .u64 (d1 q), .int .u64 (d2 q), .int .u64 (d3 q)] 88))).later ((Below.refl _ _).alloc (Nat.le_refl _) (Obj.cells #[.int .u64 (d0 r), .int .u64 (d1 r), .int .u64 (d2 r), .int .u64 (d3 r)] 88)), (hd.later ((Below.refl _ _).alloc (Nat.le_refl _) (Obj.cells #[.int .u64 (d0 q), .int .u64 (d1 q), .int .u64 (d2 q), .int .u64 (d3 q)] 88))).later ((Below.refl _ _).alloc (Nat.le_refl _) (Obj.cells #[.int .u64 (d0 r), .int .u64 (d1 r), .int .u64 (d2 r), .int .u64 (d3 r)] 88)), by unfold Rc; simp [go_sem], Nat.le_refl _, by omega, by omega, by omega, by simp; omega⟩
    clear ha hd
    go_wp2_with (fail)
    (go_at_call 100; (with_reducible refine (kt _).mono ?_); rintro e w1 ⟨rfl, hM⟩)
    rename World => wt
    have H := hW.later hM
    clear hM hW kt
    go_upto_region 6 with (fail)
    have Ht := H.later ((Below.refl _ _).alloc (Nat.le_refl _) (Obj.cells #[.int .u64 (d0 r2), .int .u64 (d1 r2), .int .u64 (d2 r2), .int .u64 (d3 r2)] 88))
    have ht : Rc wt.heap.size (d0 r2) (d1 r2) (d2 r2) (d3 r2) (wt.alloc (Obj.cells #[.int .u64 (d0 r2), .int .u64 (d1 r2), .int .u64 (d2 r2), .int .u64 (d3 r2)] 88)) := by unfold Rc; simp [go_sem]
    clear H
    go_cut [42] (fun a wx => a = .bool up ∧ DW w w.heap.size wd.heap.size w2.heap.size g h m n q wx)
    case first =>
      obtain ⟨HB0, ⟨⟨u0, u1, u2, u3, u4⟩, u5⟩, ⟨⟨v0, v1, v2, v3, v4⟩, v5⟩, ⟨⟨c0, c1, c2, c3⟩, c4⟩, f1, f2, f3, f4, f5⟩ := id Ht
      obtain ⟨⟨s0, s1, s2, s3⟩, s4⟩ := id ht
      rcases (show n < r2 ∨ (r2 = n ∧ q % 2 = 1) ∨ (r2 = n ∧ q % 2 = 0) ∨ r2 < n by omega) with hs | hs | hs | hs
      · have t1 := decide_eq_true hs
        rw [t1] at kl
        have eu : Hid (up = true) := Lib.hid (by rw [← HU.out]; simp; omega)
        have HS := Lib.hid hs
        clear hs
        go_wp2_with (fail)
        (go_at_call 88; (with_reducible refine (kl _).mono ?_); rintro e w1 ⟨rfl, hM⟩)
        have H5 := Ht.later hM
        have h5 := ht.later hM
        clear HB0 u0 u1 u2 u3 u4 u5 v0 v1 v2 v3 v4 v5 c0 c1 c2 c3 c4 f1 f2 f3 f4 f5
        clear s0 s1 s2 s3 s4
        obtain ⟨HB0, ⟨⟨u0, u1, u2, u3, u4⟩, u5⟩, ⟨⟨v0, v1, v2, v3, v4⟩, v5⟩, ⟨⟨c0, c1, c2, c3⟩, c4⟩, f1, f2, f3, f4, f5⟩ := id H5
        obtain ⟨⟨s0, s1, s2, s3⟩, s4⟩ := id h5
        go_wp2
        go_meet
        exact ⟨by rw [eu.out], H5⟩
      · rw [decide_eq_false (show ¬ n < r2 by omega)] at kl
        rw [decide_eq_true hs.1] at ke
        have t3 : (q % 2 == 1) = true := by simpa using hs.2
        have eu : Hid (up = true) := Lib.hid (by rw [← HU.out]; simp; omega)
        have HS := Lib.hid hs
        clear hs
        go_wp2_with (fail)
        (go_at_call 88; (with_reducible refine (kl _).mono ?_); rintro e w1 ⟨rfl, hM⟩)
        have H5 := Ht.later hM
        have h5 := ht.later hM
        clear HB0 u0 u1 u2 u3 u4 u5 v0 v1 v2 v3 v4 v5 c0 c1 c2 c3 c4 f1 f2 f3 f4 f5
        clear s0 s1 s2 s3 s4
        obtain ⟨HB0, ⟨⟨u0, u1, u2, u3, u4⟩, u5⟩, ⟨⟨v0, v1, v2, v3, v4⟩, v5⟩, ⟨⟨c0, c1, c2, c3⟩, c4⟩, f1, f2, f3, f4, f5⟩ := id H5
        obtain ⟨⟨s0, s1, s2, s3⟩, s4⟩ := id h5
        go_wp2
        go_meet
        exact ⟨by rw [eu.out], H5⟩
      · rw [decide_eq_false (show ¬ n < r2 by omega)] at kl
        rw [decide_eq_true hs.1] at ke
        have t3 : (q % 2 == 1) = false := by simp; omega
        have eu : Hid (up = false) := Lib.hid (by rw [← HU.out]; simp; omega)
        have HS := Lib.hid hs
        clear hs
        go_wp2_with (fail)
        (go_at_call 88; (with_reducible refine (kl _).mono ?_); rintro e w1 ⟨rfl, hM⟩)
        have H5 := Ht.later hM
        have h5 := ht.later hM
        clear HB0 u0 u1 u2 u3 u4 u5 v0 v1 v2 v3 v4 v5 c0 c1 c2 c3 c4 f1 f2 f3 f4 f5
        clear s0 s1 s2 s3 s4
        obtain ⟨HB0, ⟨⟨u0, u1, u2, u3, u4⟩, u5⟩, ⟨⟨v0, v1, v2, v3, v4⟩, v5⟩, ⟨⟨c0, c1, c2, c3⟩, c4⟩, f1, f2, f3, f4, f5⟩ := id H5
        obtain ⟨⟨s0, s1, s2, s3⟩, s4⟩ := id h5
        go_wp2
        go_meet
        exact ⟨by rw [eu.out], H5⟩
      · rw [decide_eq_false (show ¬ n < r2 by omega)] at kl
        rw [decide_eq_false (show ¬ r2 = n by omega)] at ke
        have eu : Hid (up = false) := Lib.hid (by rw [← HU.out]; simp; omega)
        have HS := Lib.hid hs
        clear hs
        go_wp2_with (fail)
        (go_at_call 88; (with_reducible refine (kl _).mono ?_); rintro e w1 ⟨rfl, hM⟩)
        have H5 := Ht.later hM
        have h5 := ht.later hM
        clear HB0 u0 u1 u2 u3 u4 u5 v0 v1 v2 v3 v4 v5 c0 c1 c2 c3 c4 f1 f2 f3 f4 f5
        clear s0 s1 s2 s3 s4
        obtain ⟨HB0, ⟨⟨u0, u1, u2, u3, u4⟩, u5⟩, ⟨⟨v0, v1, v2, v3, v4⟩, v5⟩, ⟨⟨c0, c1, c2, c3⟩, c4⟩, f1, f2, f3, f4, f5⟩ := id H5
        obtain ⟨⟨s0, s1, s2, s3⟩, s4⟩ := id h5
        go_wp2
        go_meet
        exact ⟨by rw [eu.out], H5⟩
    case rest =>
      obtain ⟨rfl, H⟩ := hcut
      clear kl ke Ht ht
      go_upto_if 42 with (fail)
      go_cut [] (fun wx => DW w w.heap.size wd.heap.size w2.heap.size g h m n Q wx)
      case first =>
        cases up with
        | false =>
          have e : Q = q := by rw [HQ.out]; rfl
          go_wp2
          go_meet
          rw [e]; exact H
        | true =>
          have e : Q = q + 1 := by rw [HQ.out]; rfl
          obtain ⟨HB0, ⟨⟨u0, u1, u2, u3, u4⟩, u5⟩, ⟨⟨v0, v1, v2, v3, v4⟩, v5⟩, ⟨⟨c0, c1, c2, c3⟩, c4⟩, f1, f2, f3, f4, f5⟩ := id H
          go_wp2_with (fail)
          (go_at_call 87; (with_reducible refine (kp _).mono ?_); rintro e w1 ⟨rfl, hM⟩)
          have H6 := (H.later ((Below.refl _ _).alloc (Nat.le_refl _) (Obj.cells #[.int .u64 1, .int .u64 0, .int .u64 0, .int .u64 0] 88))).later hM
          clear hM
          clear HB0 u0 u1 u2 u3 u4 u5 v0 v1 v2 v3 v4 v5 c0 c1 c2 c3 c4 f1 f2 f3 f4 f5
          obtain ⟨HB0, ⟨⟨u0, u1, u2, u3, u4⟩, u5⟩, ⟨⟨v0, v1, v2, v3, v4⟩, v5⟩, ⟨⟨c0, c1, c2, c3⟩, c4⟩, f1, f2, f3, f4, f5⟩ := id H6
          go_wp2
          go_meet
          rw [e]; exact H6.put (q + 1)
      case rest =>
        have z0 := d0_bd Q
        have z1 := d1_bd Q
        have z2 := d2_bd Q
        have z3 := d3_bd Q
        have zq := dg Q Q0 (by omega)
        obtain ⟨HB0, ⟨⟨u0, u1, u2, u3, u4⟩, u5⟩, ⟨⟨v0, v1, v2, v3, v4⟩, v5⟩, ⟨⟨c0, c1, c2, c3⟩, c4⟩, f1, f2, f3, f4, f5⟩ := id hcut
        obtain ⟨ng, hng⟩ : ∃ t, (g != h) = t := ⟨_, rfl⟩
        rw [hng] at HX
        clear HQ HU hcut
        by_cases y2 : d2 Q = 0
        · by_cases y3 : d3 Q = 0
          · have y2' : (d2 Q != 0) = false := by simp [y2]
            have y3' : (d3 Q != 0) = false := by simp [y3]
            have zz : d1 Q * 4294967296 + d0 Q = Q := by omega
            have w1' : IntKind.u64.wrap (d1 Q * 4294967296) = d1 Q * 4294967296 := IntWalk.u64_in _ (by omega)
            have w2' : IntKind.u64.wrap (d1 Q * 4294967296 + d0 Q) = Q := by rw [zz]; exact IntWalk.u64_in _ (by omega)
            have Q2 : Q ≤ 18446744073709551615 := by omega
            cases ng with
            | true =>
              have hgh := bne_t g h hng
              by_cases yb : 9223372036854775808 < Q
              · have EY : Hid (Y = false) := Lib.hid (by rw [HX.out.1]; unfold fx; simp; omega)
                have EX : Hid (X = 0) := Lib.hid (by rw [HX.out.2, ← HX.out.1, EY.out]; rfl)
                clear HX zq y2 y3 hng
                rcases hgh with ⟨rfl, rfl⟩ | ⟨rfl, rfl⟩
                all_goals go_wp2
                all_goals go_ret2
                all_goals exact ⟨by rw [EX.out, EY.out]; rfl, by (repeat (first | with_reducible assumption | with_reducible exact Below.refl _ _ | ((with_reducible refine Below.setCell ?_ ?_ _); rotate_left; (first | exact Nat.le_refl _ | (dsimp only; omega) | (simp; done) | (simp; omega))) | with_reducible refine below_alloc ?_ _ | with_reducible apply below_drewN | with_reducible apply Below.drew | with_reducible refine below_step ?_ (by assumption)))⟩
              · have EY : Hid (Y = true) := Lib.hid (by rw [HX.out.1]; unfold fx; simp; omega)
                have EX : Hid (X = -Q) := Lib.hid (by rw [HX.out.2, ← HX.out.1, EY.out]; rfl)
                have w3 : wrap64 (IntKind.u64.wrap (-Q)) = -Q := by unfold wrap64; rw [IntKind.wrap_u64]; omega
                clear HX zq y2 y3 hng
                rcases hgh with ⟨rfl, rfl⟩ | ⟨rfl, rfl⟩
                all_goals go_wp2
                all_goals go_ret2
                all_goals exact ⟨by rw [EX.out, EY.out]; first | rfl | (simp [w3]; done), by (repeat (first | with_reducible assumption | with_reducible exact Below.refl _ _ | ((with_reducible refine Below.setCell ?_ ?_ _); rotate_left; (first | exact Nat.le_refl _ | (dsimp only; omega) | (simp; done) | (simp; omega))) | with_reducible refine below_alloc ?_ _ | with_reducible apply below_drewN | with_reducible apply Below.drew | with_reducible refine below_step ?_ (by assumption)))⟩
            | false =>
              have hgh := bne_f g h hng
              by_cases yb : 9223372036854775807 < Q
              · have EY : Hid (Y = false) := Lib.hid (by rw [HX.out.1]; unfold fx; simp; omega)
                have EX : Hid (X = 0) := Lib.hid (by rw [HX.out.2, ← HX.out.1, EY.out]; rfl)
                clear HX zq y2 y3 hng
                rcases hgh with ⟨rfl, rfl⟩ | ⟨rfl, rfl⟩
                all_goals go_wp2
                all_goals go_ret2
                all_goals exact ⟨by rw [EX.out, EY.out]; rfl, by (repeat (first | with_reducible assumption | with_reducible exact Below.refl _ _ | ((with_reducible refine Below.setCell ?_ ?_ _); rotate_left; (first | exact Nat.le_refl _ | (dsimp only; omega) | (simp; done) | (simp; omega))) | with_reducible refine below_alloc ?_ _ | with_reducible apply below_drewN | with_reducible apply Below.drew | with_reducible refine below_step ?_ (by assumption)))⟩
              · have EY : Hid (Y = true) := Lib.hid (by rw [HX.out.1]; unfold fx; simp; omega)
                have EX : Hid (X = Q) := Lib.hid (by rw [HX.out.2, ← HX.out.1, EY.out]; rfl)
                have w3 : wrap64 Q = Q := by unfold wrap64; omega
                clear HX zq y2 y3 hng
                rcases hgh with ⟨rfl, rfl⟩ | ⟨rfl, rfl⟩
                all_goals go_wp2
                all_goals go_ret2
                all_goals exact ⟨by rw [EX.out, EY.out]; first | rfl | (simp [w3]; done), by (repeat (first | with_reducible assumption | with_reducible exact Below.refl _ _ | ((with_reducible refine Below.setCell ?_ ?_ _); rotate_left; (first | exact Nat.le_refl _ | (dsimp only; omega) | (simp; done) | (simp; omega))) | with_reducible refine below_alloc ?_ _ | with_reducible apply below_drewN | with_reducible apply Below.drew | with_reducible refine below_step ?_ (by assumption)))⟩
          · have y2' : (d2 Q != 0) = false := by simp [y2]
            have y3' : (d3 Q != 0) = true := by simp [y3]
            have Q2 : 18446744073709551616 ≤ Q := by omega
            have EY : Hid (Y = false) := Lib.hid (by rw [HX.out.1]; unfold fx; split <;> simp <;> omega)
            have EX : Hid (X = 0) := Lib.hid (by rw [HX.out.2, ← HX.out.1, EY.out]; rfl)
            clear HX zq y2 y3
            go_wp2
            go_ret2
            exact ⟨by rw [EX.out, EY.out]; rfl, by (repeat (first | with_reducible assumption | with_reducible exact Below.refl _ _ | ((with_reducible refine Below.setCell ?_ ?_ _); rotate_left; (first | exact Nat.le_refl _ | (dsimp only; omega) | (simp; done) | (simp; omega))) | with_reducible refine below_alloc ?_ _ | with_reducible apply below_drewN | with_reducible apply Below.drew | with_reducible refine below_step ?_ (by assumption)))⟩
        · have y2' : (d2 Q != 0) = true := by simp [y2]
          have Q2 : 18446744073709551616 ≤ Q := by omega
          have EY : Hid (Y = false) := Lib.hid (by rw [HX.out.1]; unfold fx; split <;> simp <;> omega)
          have EX : Hid (X = 0) := Lib.hid (by rw [HX.out.2, ← HX.out.1, EY.out]; rfl)
          clear HX zq y2
          go_wp2
          go_ret2
          exact ⟨by rw [EX.out, EY.out]; rfl, by (repeat (first | with_reducible assumption | with_reducible exact Below.refl _ _ | ((with_reducible refine Below.setCell ?_ ?_ _); rotate_left; (first | exact Nat.le_refl _ | (dsimp only; omega) | (simp; done) | (simp; omega))) | with_reducible refine below_alloc ?_ _ | with_reducible apply below_drewN | with_reducible apply Below.drew | with_reducible refine below_step ?_ (by assumption)))⟩
end
section
/-- A direction, turned back by a quarter. -/
theorem isT_rot {u v e : Int} (h : u < 0 ∨ v < 0) (ht : IsT u v e) : IsT v (-u) (e - 1073741824) ∧ 1073741824 ≤ e := by
  rcases ht with ⟨rfl, rfl, _⟩ | ⟨hn, a, ⟨h1, h2, ha, rfl⟩ | ⟨h1, h2, ha, rfl⟩ | ⟨h1, h2, ha, rfl⟩ | ⟨h1, h2, ha, rfl⟩⟩
  · omega
  · omega
  · exact ⟨Or.inr ⟨by omega, a, Or.inl ⟨by omega, by omega, ha, by omega⟩⟩, by have := ha.1; omega⟩
  · exact ⟨Or.inr ⟨by omega, a, Or.inr (Or.inl ⟨by omega, by omega, ha, by omega⟩)⟩, by have := ha.1; omega⟩
  · exact ⟨Or.inr ⟨by omega, a, Or.inr (Or.inr (Or.inl ⟨by omega, by omega, by rw [Int.neg_neg]; exact ha, by omega⟩))⟩, by have := ha.1; omega⟩
theorem isT_first {u v e : Int} (u0 : 0 ≤ u) (v0 : 0 ≤ v) (hn : ¬ (u = 0 ∧ v = 0)) (ht : IsT u v e) : IsF u v e := by
  rcases ht with ⟨rfl, rfl, _⟩ | ⟨_, a, ⟨h1, h2, ha, rfl⟩ | ⟨h1, h2, ha, rfl⟩ | ⟨h1, h2, ha, rfl⟩ | ⟨h1, h2, ha, rfl⟩⟩
  · omega
  · exact ha
  all_goals omega
theorem isT_nil {e : Int} (ht : IsT 0 0 e) : e = 0 := by
  rcases ht with ⟨_, _, h⟩ | ⟨hn, _⟩
  · exact h
  · exact absurd ⟨rfl, rfl⟩ hn
/-- How often a direction is turned back. -/
def rots (u v : Int) : Nat := if 0 ≤ u ∧ 0 ≤ v then 0 else if 0 ≤ v then 1 else if u ≤ 0 then 2 else 3
theorem rots_less {u v : Int} (h : u < 0 ∨ v < 0) : rots v (-u) < rots u v := by
  unfold rots
  rcases (show (u < 0 ∧ 0 ≤ v) ∨ (u ≤ 0 ∧ v < 0) ∨ (0 < u ∧ v < 0) by omega) with ⟨h1, h2⟩ | ⟨h1, h2⟩ | ⟨h1, h2⟩
  · rw [if_pos (by omega), if_neg (by omega), if_pos (by omega)]; decide
  · rw [if_neg (by omega), if_pos (by omega), if_neg (by omega), if_neg (by omega), if_pos (by omega)]; decide
  · rw [if_neg (by omega), if_neg (by omega), if_pos (by omega), if_neg (by omega), if_neg (by omega), if_neg (by omega)]; decide
end
section
theorem cBy (a b : Int) (w : World) (a0 : -9223372036854775808 ≤ a) (a1 : a ≤ 9223372036854775807) (b0 : -9223372036854775808 ≤ b) (b1 : b ≤ 9223372036854775807) :
    Calls Try.prog 97 #[.int .i64 a, .int .i64 b] w fun e w' => e = .returned (.int .i64 (mu a b)) ∧ Below w.heap.size w w' := by
  have m := mul_bd a b a0 a1 b0 b1
  have k1 := fun W => cRMul a b W a0 a1 b0 b1
  have k2 := fun W => cRDiv (a * b) 1000000000000000000 W (by omega) (by decide) (by decide)
  unfold mu
  clear m
  generalize a * b = p at *
  generalize dq p 1000000000000000000 = q at *
  generalize dok p 1000000000000000000 = ok at *
  generalize decide (p < 0) = g at *
  generalize (p.natAbs : Int) = n at *
  go_enter Try.func97, Try.ntmps97
  go_wp2_with (first | (go_at_call 75; (with_reducible refine (k1 _).mono ?_); rintro e w1 ⟨rfl, hM⟩) | (go_at_call 82; (with_reducible refine (k2 _).mono ?_); rintro e w1 ⟨rfl, hM⟩))
  go_ret
  exact ⟨rfl, by (repeat (first | with_reducible assumption | with_reducible exact Below.refl _ _ | ((with_reducible refine Below.setCell ?_ ?_ _); rotate_left; (first | exact Nat.le_refl _ | (dsimp only; omega) | (simp; done) | (simp; omega))) | with_reducible refine below_alloc ?_ _ | with_reducible apply below_drewN | with_reducible apply Below.drew | with_reducible refine below_step ?_ (by assumption)))⟩
theorem rsm_up (k j : Nat) : rsm k (j + 1) = if j % 2 = 0 then rsm k j + rtm k j else rsm k j - rtm k j := rfl
theorem rtm_up (k j : Nat) : rtm k (j + 1) = mu (mu (rtm k j) (rx k)) (rx k) / ((2 * (j : Int) + 2) * (2 * (j : Int) + 3)) := rfl
set_option maxHeartbeats 8000000 in
theorem cRTabN (k : Nat) (w : World) (hk : k < 65) : Calls Try.prog 81 #[.int .i64 (k : Int)] w fun e w' => e = .returned (.int .i64 (tb k)) ∧ Below w.heap.size w w' := by
  have k1 := fun W => cRMul 3141592653589793238 (k : Int) W (by decide) (by decide) (by omega) (by omega)
  have mb := mul_bd 3141592653589793238 (k : Int) (by decide) (by decide) (by omega) (by omega)
  have k2 := fun W => cRDiv (3141592653589793238 * (k : Int)) 128 W (by omega) (by decide) (by decide)
  have xb := rx_bd k hk
  rw [show dq (3141592653589793238 * (k : Int)) 128 = rx k from rfl] at k2
  generalize dok (3141592653589793238 * (k : Int)) 128 = ok at *
  generalize decide (3141592653589793238 * (k : Int) < 0) = g at *
  generalize ((3141592653589793238 * (k : Int)).natAbs : Int) = n at *
  obtain ⟨X, hX⟩ : ∃ X, rx k = X := ⟨_, rfl⟩
  rw [hX] at k2 xb
  have HX := Lib.hid hX
  have HK := Lib.hid hk
  clear hX mb
  go_enter Try.func81, Try.ntmps81
  go_wp2_with (first | (go_at_call 75; (with_reducible refine (k1 _).mono ?_); rintro e w1 ⟨rfl, hM⟩) | (go_at_call 82; (with_reducible refine (k2 _).mono ?_); rintro e w1 ⟨rfl, hM⟩))
  go_loopw [5, 6, 7] (fun p q m wr => ∃ (j : Nat) (s t n : Int), j ≤ 12 ∧ p = .int .i64 s ∧ q = .int .i64 t ∧ m = .int .i64 n ∧ Hid (n = 2 * (j : Int) + 1 ∧ s = rsm k j ∧ t = rtm k j) ∧ Below w.heap.size w wr) (fun _ _ m _ => (24 - RowKit.intOf m).toNat)
  case atStart => exact ⟨0, 0, X, 1, by omega, rfl, rfl, rfl, Lib.hid ⟨by decide, rfl, HX.out.symm⟩, by (repeat (first | with_reducible assumption | with_reducible exact Below.refl _ _ | ((with_reducible refine Below.setCell ?_ ?_ _); rotate_left; (first | exact Nat.le_refl _ | (dsimp only; omega) | (simp; done) | (simp; omega))) | with_reducible refine below_alloc ?_ _ | with_reducible apply below_drewN | with_reducible apply Below.drew | with_reducible refine below_step ?_ (by assumption)))⟩
  case round =>
    obtain ⟨j, s, t, n, hj, rfl, rfl, rfl, HN, HB⟩ := hrel
    have hn := HN.out.1
    have b := rtm_bd k HK.out j (by omega)
    rw [HX.out, ← HN.out.2.1, ← HN.out.2.2] at b
    by_cases hlt : j < 12
    · have us := rsm_up k j
      have ut := rtm_up k j
      rw [HX.out, ← HN.out.2.2] at ut
      rw [← HN.out.2.1, ← HN.out.2.2] at us
      have k3 := fun W => cBy t X W (by omega) (by omega) (by omega) (by omega)
      have k4 := fun W => cBy (mu t X) X W (by omega) (by omega) (by omega) (by omega)
      generalize mu t X = p at *
      generalize mu p X = q at *
      obtain ⟨c, hc⟩ : ∃ c, (n + 1) * (n + 2) = c := ⟨_, rfl⟩
      rw [show 2 * (j : Int) + 2 = n + 1 by omega, show 2 * (j : Int) + 3 = n + 2 by omega, hc] at ut
      have cb : 1 ≤ c ∧ c ≤ 10000 := by
        rw [← hc]
        have h1 : 1 * 1 ≤ (n + 1) * (n + 2) := Int.mul_le_mul (by omega) (by omega) (by decide) (by omega)
        have h2 : (n + 1) * (n + 2) ≤ 100 * 100 := Int.mul_le_mul (by omega) (by omega) (by omega) (by decide)
        omega
      have HU := Lib.hid (And.intro us ut)
      have HH := Lib.hid hn
      have nb : 1 ≤ n ∧ n ≤ 23 := by omega
      rcases (show j % 2 = 0 ∨ ¬ j % 2 = 0 by omega) with h2 | h2
      · rw [if_pos h2] at us
        have h4 : n % 4 = 1 := by omega
        have HS := Lib.hid us
        clear us ut hn
        go_wp2_with (first | (go_at_call 97; (with_reducible refine (k3 _).mono ?_); rintro e w1 ⟨rfl, hM⟩) | (go_at_call 97; (with_reducible refine (k4 _).mono ?_); rintro e w1 ⟨rfl, hM⟩))
        exact ⟨⟨j + 1, s + t, q / c, n + 2, by omega, rfl, rfl, rfl, Lib.hid ⟨by have := HH.out; omega, HS.out.symm, HU.out.2.symm⟩, by (repeat (first | with_reducible assumption | with_reducible exact Below.refl _ _ | ((with_reducible refine Below.setCell ?_ ?_ _); rotate_left; (first | exact Nat.le_refl _ | (dsimp only; omega) | (simp; done) | (simp; omega))) | with_reducible refine below_alloc ?_ _ | with_reducible apply below_drewN | with_reducible apply Below.drew | with_reducible refine below_step ?_ (by assumption)))⟩, by simp [RowKit.intOf] <;> omega⟩
      · rw [if_neg h2] at us
        have h4 : n % 4 = 3 := by omega
        have HS := Lib.hid us
        clear us ut hn
        go_wp2_with (first | (go_at_call 97; (with_reducible refine (k3 _).mono ?_); rintro e w1 ⟨rfl, hM⟩) | (go_at_call 97; (with_reducible refine (k4 _).mono ?_); rintro e w1 ⟨rfl, hM⟩))
        exact ⟨⟨j + 1, s - t, q / c, n + 2, by omega, rfl, rfl, rfl, Lib.hid ⟨by have := HH.out; omega, HS.out.symm, HU.out.2.symm⟩, by (repeat (first | with_reducible assumption | with_reducible exact Below.refl _ _ | ((with_reducible refine Below.setCell ?_ ?_ _); rotate_left; (first | exact Nat.le_refl _ | (dsimp only; omega) | (simp; done) | (simp; omega))) | with_reducible refine below_alloc ?_ _ | with_reducible apply below_drewN | with_reducible apply Below.drew | with_reducible refine below_step ?_ (by assumption)))⟩, by simp [RowKit.intOf] <;> omega⟩
    · obtain rfl : j = 12 := by omega
      have nb : 24 ≤ n := by omega
      have ev := rsm_tb k HK.out
      rw [← HN.out.2.1] at ev
      have mb := mul_bd s 4294967296 (by omega) (by omega) (by omega) (by omega)
      have kM := fun W => cRMul s 4294967296 W (by omega) (by omega) (by omega) (by omega)
      have kD := fun W => cRDiv (s * 4294967296) 1000000000000000000 W (by omega) (by decide) (by decide)
      rw [ev] at kD
      generalize dok (s * 4294967296) 1000000000000000000 = okk at *
      generalize decide (s * 4294967296 < 0) = gs at *
      generalize ((s * 4294967296).natAbs : Int) = ns at *
      clear ev mb
      go_wp2_with (first | (go_at_call 75; (with_reducible refine (kM _).mono ?_); rintro e w1 ⟨rfl, hM⟩) | (go_at_call 82; (with_reducible refine (kD _).mono ?_); rintro e w1 ⟨rfl, hM⟩))
      go_ret
      exact ⟨rfl, by (repeat (first | with_reducible assumption | with_reducible exact Below.refl _ _ | ((with_reducible refine Below.setCell ?_ ?_ _); rotate_left; (first | exact Nat.le_refl _ | (dsimp only; omega) | (simp; done) | (simp; omega))) | with_reducible refine below_alloc ?_ _ | with_reducible apply below_drewN | with_reducible apply Below.drew | with_reducible refine below_step ?_ (by assumption)))⟩
theorem cRTable (k : Int) (w : World) (k0 : -9223372036854775808 ≤ k) (k1 : k ≤ 9223372036854775807) : Calls Try.prog 81 #[.int .i64 k] w fun e w' => e = .returned (.int .i64 (tbz k)) ∧ Below w.heap.size w w' := by
  unfold tbz
  by_cases h : 0 ≤ k ∧ k ≤ 64
  · rw [if_pos h]
    obtain ⟨n, rfl⟩ : ∃ n : Nat, k = n := ⟨k.toNat, by omega⟩
    rw [Int.toNat_natCast]
    exact cRTabN n w (by omega)
  · rw [if_neg h]
    rcases (show k < 0 ∨ (0 ≤ k ∧ 64 < k) by omega) with h1 | ⟨h1, h2⟩
    · go_enter Try.func81, Try.ntmps81
      go_wp2
      go_ret
      exact ⟨rfl, Below.refl _ _⟩
    · go_enter Try.func81, Try.ntmps81
      go_wp2
      go_ret
      exact ⟨rfl, Below.refl _ _⟩
theorem gq_tab2 (y : Int) (h0 : 0 ≤ y) (h1 : y ≤ 1073741824) : ∃ s0 s1 d : Int, tbz (y / 16777216) = s0 ∧ (y / 16777216 < 64 → tbz (y / 16777216 + 1) = s1) ∧ 0 ≤ s0 ∧ s0 ≤ 4294967296 ∧ 0 ≤ s1 - s0 ∧ s1 - s0 ≤ 4294967296 ∧ 0 ≤ s1 ∧ s1 ≤ 4294967296 ∧ dq ((s1 - s0) * (y % 16777216)) 16777216 = d ∧ 0 ≤ d ∧ d ≤ 4294967296 ∧ gq y = s0 + d ∧ (¬ y / 16777216 < 64 → d = 0) := by
  rcases (show y < 1073741824 ∨ y = 1073741824 by omega) with h | rfl
  · obtain ⟨i, f, hi, f0, f1, rfl⟩ := parts_of y h0 h
    have e1 : ((i : Int) * 16777216 + f) / 16777216 = i := by omega
    have e2 : ((i : Int) * 16777216 + f) % 16777216 = f := by omega
    have k := pc_yes (tb i) (tb (i + 1) - tb i) f (tb_d i hi).1 (tb_d i hi).2 f0 (by omega)
    refine ⟨tb i, tb (i + 1), qn ((tb (i + 1) - tb i) * f) 16777216, by rw [e1, tbz_at i (by omega)], fun _ => by rw [e1]; exact tbz_at (i + 1) (by omega), (tb_bd i (by omega)).1, (tb_bd i (by omega)).2, (tb_d i hi).1, (tb_d i hi).2, (tb_bd (i + 1) (by omega)).1, (tb_bd (i + 1) (by omega)).2, by rw [e2]; exact k.2.1, k.2.2.1, by have := k.2.2.2.1; have := (tb_d i hi).2; omega, ?_, ?_⟩
    · rw [gq_at i f hi f0 (by omega)]; unfold pc; rw [k.2.1]
    · rw [e1]; omega
  · exact ⟨4294967296, 4294967296, 0, by decide, by decide, by decide, by decide, by decide, by decide, by decide, by decide, by decide, by decide, by decide, gq_end, fun _ => rfl⟩
set_option maxHeartbeats 4000000 in
theorem cRSin (t : Int) (w : World) (t0 : 0 ≤ t) (t1 : t ≤ 4294967295) : Calls Try.prog 65 #[.int .u32 t] w fun e w' => e = .returned (.int .i64 (sinv t)) ∧ Below w.heap.size w w' := by
  obtain ⟨q, r, y, hq, hr, hy⟩ : ∃ q r y : Int, t / 1073741824 = q ∧ t % 1073741824 = r ∧ (if q % 2 = 1 then 1073741824 - r else r) = y := ⟨_, _, _, rfl, rfl, rfl⟩
  have hq4 : q = 0 ∨ q = 1 ∨ q = 2 ∨ q = 3 := by omega
  have hyb : 0 ≤ y ∧ y ≤ 1073741824 := by rw [← hy]; split <;> omega
  have hE : sinv t = if 2 ≤ q then -gq y else gq y := by unfold sinv; rw [hq, hr, hy]
  obtain ⟨s0, s1, d, e0, e1, s00, s01, d0, d1, s10, s11, e2, d2, d3, e3, e4⟩ := gq_tab2 y hyb.1 hyb.2
  rw [e3] at hE
  have kT := fun W => cRTable (y / 16777216) W (by omega) (by omega)
  have kU := fun W => cRTable (y / 16777216 + 1) W (by omega) (by omega)
  rw [e0] at kT
  have mb := mul_bd (s1 - s0) (y % 16777216) (by omega) (by omega) (by omega) (by omega)
  have kM := fun W => cRMul (s1 - s0) (y % 16777216) W (by omega) (by omega) (by omega) (by omega)
  have kD := fun W => cRDiv ((s1 - s0) * (y % 16777216)) 16777216 W (by omega) (by decide) (by decide)
  rw [e2] at kD
  generalize dok ((s1 - s0) * (y % 16777216)) 16777216 = ok at *
  generalize decide ((s1 - s0) * (y % 16777216) < 0) = zg at *
  generalize (((s1 - s0) * (y % 16777216)).natAbs : Int) = zn at *
  have HE := Lib.hid hE
  generalize sinv t = V at *
  clear mb e2 e3 hE e0
  rcases hq4 with rfl | rfl | rfl | rfl
  · obtain rfl : r = y := by rw [← hy]; rfl
    have EV : Hid (V = s0 + d) := Lib.hid (by rw [HE.out]; rfl)
    by_cases hf : r / 16777216 < 64
    · rw [e1 hf] at kU
      clear e1 e4 hy
      go_enter Try.func65, Try.ntmps65
      go_wp2_with (first | (go_at_call 81; (with_reducible refine (kT _).mono ?_); rintro e w1 ⟨rfl, hM⟩) | (go_at_call 81; (with_reducible refine (kU _).mono ?_); rintro e w1 ⟨rfl, hM⟩) | (go_at_call 75; (with_reducible refine (kM _).mono ?_); rintro e w1 ⟨rfl, hM⟩) | (go_at_call 82; (with_reducible refine (kD _).mono ?_); rintro e w1 ⟨rfl, hM⟩))
      go_ret
      exact ⟨by rw [EV.out]; rfl, by (repeat (first | with_reducible assumption | with_reducible exact Below.refl _ _ | ((with_reducible refine Below.setCell ?_ ?_ _); rotate_left; (first | exact Nat.le_refl _ | (dsimp only; omega) | (simp; done) | (simp; omega))) | with_reducible refine below_alloc ?_ _ | with_reducible apply below_drewN | with_reducible apply Below.drew | with_reducible refine below_step ?_ (by assumption)))⟩
    · omega
  · have hy : 1073741824 - r = y := by rw [← hy]; rfl
    have EV : Hid (V = s0 + d) := Lib.hid (by rw [HE.out]; rfl)
    by_cases hf : y / 16777216 < 64
    · rw [e1 hf] at kU
      clear e1 e4
      go_enter Try.func65, Try.ntmps65
      go_wp2_with (first | (go_at_call 81; (with_reducible refine (kT _).mono ?_); rintro e w1 ⟨rfl, hM⟩) | (go_at_call 81; (with_reducible refine (kU _).mono ?_); rintro e w1 ⟨rfl, hM⟩) | (go_at_call 75; (with_reducible refine (kM _).mono ?_); rintro e w1 ⟨rfl, hM⟩) | (go_at_call 82; (with_reducible refine (kD _).mono ?_); rintro e w1 ⟨rfl, hM⟩))
      go_ret
      exact ⟨by rw [EV.out]; rfl, by (repeat (first | with_reducible assumption | with_reducible exact Below.refl _ _ | ((with_reducible refine Below.setCell ?_ ?_ _); rotate_left; (first | exact Nat.le_refl _ | (dsimp only; omega) | (simp; done) | (simp; omega))) | with_reducible refine below_alloc ?_ _ | with_reducible apply below_drewN | with_reducible apply Below.drew | with_reducible refine below_step ?_ (by assumption)))⟩
    · have hd : d = 0 := e4 (by omega)
      subst hd
      clear e1 e4
      go_enter Try.func65, Try.ntmps65
      go_wp2_with (first | (go_at_call 81; (with_reducible refine (kT _).mono ?_); rintro e w1 ⟨rfl, hM⟩) | (go_at_call 81; (with_reducible refine (kU _).mono ?_); rintro e w1 ⟨rfl, hM⟩) | (go_at_call 75; (with_reducible refine (kM _).mono ?_); rintro e w1 ⟨rfl, hM⟩) | (go_at_call 82; (with_reducible refine (kD _).mono ?_); rintro e w1 ⟨rfl, hM⟩))
      go_ret
      exact ⟨by rw [EV.out]; simp, by (repeat (first | with_reducible assumption | with_reducible exact Below.refl _ _ | ((with_reducible refine Below.setCell ?_ ?_ _); rotate_left; (first | exact Nat.le_refl _ | (dsimp only; omega) | (simp; done) | (simp; omega))) | with_reducible refine below_alloc ?_ _ | with_reducible apply below_drewN | with_reducible apply Below.drew | with_reducible refine below_step ?_ (by assumption)))⟩
  · obtain rfl : r = y := by rw [← hy]; rfl
    have EV : Hid (V = -(s0 + d)) := Lib.hid (by rw [HE.out]; rfl)
    by_cases hf : r / 16777216 < 64
    · rw [e1 hf] at kU
      clear e1 e4 hy
      go_enter Try.func65, Try.ntmps65
      go_wp2_with (first | (go_at_call 81; (with_reducible refine (kT _).mono ?_); rintro e w1 ⟨rfl, hM⟩) | (go_at_call 81; (with_reducible refine (kU _).mono ?_); rintro e w1 ⟨rfl, hM⟩) | (go_at_call 75; (with_reducible refine (kM _).mono ?_); rintro e w1 ⟨rfl, hM⟩) | (go_at_call 82; (with_reducible refine (kD _).mono ?_); rintro e w1 ⟨rfl, hM⟩))
      go_ret
      exact ⟨by rw [EV.out]; rfl, by (repeat (first | with_reducible assumption | with_reducible exact Below.refl _ _ | ((with_reducible refine Below.setCell ?_ ?_ _); rotate_left; (first | exact Nat.le_refl _ | (dsimp only; omega) | (simp; done) | (simp; omega))) | with_reducible refine below_alloc ?_ _ | with_reducible apply below_drewN | with_reducible apply Below.drew | with_reducible refine below_step ?_ (by assumption)))⟩
    · omega
  · have hy : 1073741824 - r = y := by rw [← hy]; rfl
    have EV : Hid (V = -(s0 + d)) := Lib.hid (by rw [HE.out]; rfl)
    by_cases hf : y / 16777216 < 64
    · rw [e1 hf] at kU
      clear e1 e4
      go_enter Try.func65, Try.ntmps65
      go_wp2_with (first | (go_at_call 81; (with_reducible refine (kT _).mono ?_); rintro e w1 ⟨rfl, hM⟩) | (go_at_call 81; (with_reducible refine (kU _).mono ?_); rintro e w1 ⟨rfl, hM⟩) | (go_at_call 75; (with_reducible refine (kM _).mono ?_); rintro e w1 ⟨rfl, hM⟩) | (go_at_call 82; (with_reducible refine (kD _).mono ?_); rintro e w1 ⟨rfl, hM⟩))
      go_ret
      exact ⟨by rw [EV.out]; rfl, by (repeat (first | with_reducible assumption | with_reducible exact Below.refl _ _ | ((with_reducible refine Below.setCell ?_ ?_ _); rotate_left; (first | exact Nat.le_refl _ | (dsimp only; omega) | (simp; done) | (simp; omega))) | with_reducible refine below_alloc ?_ _ | with_reducible apply below_drewN | with_reducible apply Below.drew | with_reducible refine below_step ?_ (by assumption)))⟩
    · have hd : d = 0 := e4 (by omega)
      subst hd
      clear e1 e4
      go_enter Try.func65, Try.ntmps65
      go_wp2_with (first | (go_at_call 81; (with_reducible refine (kT _).mono ?_); rintro e w1 ⟨rfl, hM⟩) | (go_at_call 81; (with_reducible refine (kU _).mono ?_); rintro e w1 ⟨rfl, hM⟩) | (go_at_call 75; (with_reducible refine (kM _).mono ?_); rintro e w1 ⟨rfl, hM⟩) | (go_at_call 82; (with_reducible refine (kD _).mono ?_); rintro e w1 ⟨rfl, hM⟩))
      go_ret
      exact ⟨by rw [EV.out]; simp, by (repeat (first | with_reducible assumption | with_reducible exact Below.refl _ _ | ((with_reducible refine Below.setCell ?_ ?_ _); rotate_left; (first | exact Nat.le_refl _ | (dsimp only; omega) | (simp; done) | (simp; omega))) | with_reducible refine below_alloc ?_ _ | with_reducible apply below_drewN | with_reducible apply Below.drew | with_reducible refine below_step ?_ (by assumption)))⟩
theorem cRCos (t : Int) (w : World) (t0 : 0 ≤ t) (t1 : t ≤ 4294967295) : Calls Try.prog 64 #[.int .u32 t] w fun e w' => e = .returned (.int .i64 (cosv t)) ∧ Below w.heap.size w w' := by
  have k := fun W => cRSin ((t + 1073741824) % 4294967296) W (by omega) (by omega)
  unfold cosv
  go_enter Try.func64, Try.ntmps64
  go_wp2_with (first | (go_at_call 65; (with_reducible refine (k _).mono ?_); rintro e w1 ⟨rfl, hM⟩))
  go_ret
  exact ⟨rfl, by (repeat (first | with_reducible assumption | with_reducible exact Below.refl _ _ | ((with_reducible refine Below.setCell ?_ ?_ _); rotate_left; (first | exact Nat.le_refl _ | (dsimp only; omega) | (simp; done) | (simp; omega))) | with_reducible refine below_alloc ?_ _ | with_reducible apply below_drewN | with_reducible apply Below.drew | with_reducible refine below_step ?_ (by assumption)))⟩
end
end Go.Proofs.Ytjpkkpflamkjkaa
