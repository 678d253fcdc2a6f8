/- The contract of the document's quotient of sizes (chapter 1). -/
import Derived.Test.YtdbbandpobifhaaB10
import Derived.Deep.CutBlock
set_option linter.unusedSimpArgs false
set_option linter.unusedVariables false
namespace Go.Proofs.Ytdbbandpobifhaa
open Go.RowKit
theorem Rc.drew {B : Nat} {x0 x1 x2 x3 : Int} {W : World} (h : Rc B x0 x1 x2 x3 W) : Rc B x0 x1 x2 x3 W.drew := by
  obtain ⟨⟨b, c, d, e⟩, g, h, i, j⟩ := h
  unfold Rc; simp [go_sem, *]
theorem Rc.put4 {B C : Nat} {x0 x1 x2 x3 : Int} {u0 u1 u2 u3 : Value} {W : World} (h : Rc B x0 x1 x2 x3 W) (hne : C ≠ B) : Rc B x0 x1 x2 x3 ((((W.setCell ⟨C, 0, none⟩ u0).setCell ⟨C, 1, none⟩ u1).setCell ⟨C, 2, none⟩ u2).setCell ⟨C, 3, none⟩ u3) := by
  obtain ⟨⟨b, c, d, e⟩, g, h, i, j⟩ := h
  have hne2 := hne.symm
  unfold Rc; simp (maxDischargeDepth := 8) [go_sem, *]
def OV (w : World) (x y q r : Int) (wx : World) : Prop :=
  Below w.heap.size w wx ∧ w.heap.size + 1 + 1 + 1 + 1 + 1 + 1 ≤ wx.heap.size ∧ Rc (w.heap.size) (d0 x) (d1 x) (d2 x) (d3 x) wx ∧ Rc (w.heap.size + 1) (d0 y) (d1 y) (d2 y) (d3 y) wx ∧ Rc (w.heap.size + 1 + 1) 0 0 0 0 wx ∧ Rc (w.heap.size + 1 + 1 + 1) 0 0 0 0 wx ∧ Rc (w.heap.size + 1 + 1 + 1 + 1) (d0 q) (d1 q) (d2 q) (d3 q) wx ∧ Rc (w.heap.size + 1 + 1 + 1 + 1 + 1) (d0 r) (d1 r) (d2 r) (d3 r) wx
theorem OV.later {w : World} {x y q r : Int} {W w1 : World} (h : OV w x y q r W) (hB : Below W.heap.size W w1) : OV w x y q r w1 := by
  obtain ⟨b0, bz, ra, rb, r0, r1, rq, rr⟩ := h
  exact ⟨below_step b0 hB, Nat.le_trans bz hB.size, ra.later hB, rb.later hB, r0.later hB, r1.later hB, rq.later hB, rr.later hB⟩
theorem OV.drew {w : World} {x y q r : Int} {W : World} (h : OV w x y q r W) : OV w x y q r W.drew := by
  obtain ⟨b0, bz, ra, rb, r0, r1, rq, rr⟩ := h
  exact ⟨b0.drew, bz, ra.drew, rb.drew, r0.drew, r1.drew, rq.drew, rr.drew⟩
theorem OV.putR {w : World} {x y q r : Int} {W : World} (h : OV w x y q r W) (s : Int) : OV w x y q s ((((W.setCell ⟨w.heap.size + 1 + 1 + 1 + 1 + 1, 0, none⟩ (.int .u64 (d0 s))).setCell ⟨w.heap.size + 1 + 1 + 1 + 1 + 1, 1, none⟩ (.int .u64 (d1 s))).setCell ⟨w.heap.size + 1 + 1 + 1 + 1 + 1, 2, none⟩ (.int .u64 (d2 s))).setCell ⟨w.heap.size + 1 + 1 + 1 + 1 + 1, 3, none⟩ (.int .u64 (d3 s))) := by
  obtain ⟨b0, bz, ra, rb, r0, r1, rq, rr⟩ := h
  exact ⟨by (repeat (first | with_reducible assumption | with_reducible exact Below.refl _ _ | ((with_reducible refine Below.setCell ?_ ?_ _); rotate_left; (first | exact Nat.le_refl _ | (dsimp only; omega) | (simp; done) | (simp; omega))) | with_reducible refine below_alloc ?_ _ | with_reducible apply below_drewN | with_reducible apply Below.drew | with_reducible refine below_step ?_ (by assumption))), by simpa using bz, ra.put4 (by omega), rb.put4 (by omega), r0.put4 (by omega), r1.put4 (by omega), rq.put4 (by omega), rr.put _ _ _ _⟩
theorem OV.putQ {w : World} {x y q r : Int} {W : World} (h : OV w x y q r W) (s : Int) : OV w x y s r ((((W.setCell ⟨w.heap.size + 1 + 1 + 1 + 1, 0, none⟩ (.int .u64 (d0 s))).setCell ⟨w.heap.size + 1 + 1 + 1 + 1, 1, none⟩ (.int .u64 (d1 s))).setCell ⟨w.heap.size + 1 + 1 + 1 + 1, 2, none⟩ (.int .u64 (d2 s))).setCell ⟨w.heap.size + 1 + 1 + 1 + 1, 3, none⟩ (.int .u64 (d3 s))) := by
  obtain ⟨b0, bz, ra, rb, r0, r1, rq, rr⟩ := h
  exact ⟨by (repeat (first | with_reducible assumption | with_reducible exact Below.refl _ _ | ((with_reducible refine Below.setCell ?_ ?_ _); rotate_left; (first | exact Nat.le_refl _ | (dsimp only; omega) | (simp; done) | (simp; omega))) | with_reducible refine below_alloc ?_ _ | with_reducible apply below_drewN | with_reducible apply Below.drew | with_reducible refine below_step ?_ (by assumption))), by simpa using bz, ra.put4 (by omega), rb.put4 (by omega), r0.put4 (by omega), r1.put4 (by omega), rq.put _ _ _ _, rr.put4 (by omega)⟩
theorem d_even (q s : Int) (h : 2 * q = s) (h0 : 0 ≤ s) : d0 (s + 1) = d0 s + 1 ∧ d1 (s + 1) = d1 s ∧ d2 (s + 1) = d2 s ∧ d3 (s + 1) = d3 s ∧ 0 ≤ d0 s ∧ d0 s ≤ 4294967294 := by unfold d0 d1 d2 d3; omega
theorem Rc.put0 {B : Nat} {x0 x1 x2 x3 : Int} {W : World} (h : Rc B x0 x1 x2 x3 W) (y0 : Int) : Rc B y0 x1 x2 x3 (W.setCell ⟨B, 0, none⟩ (.int .u64 y0)) := by
  obtain ⟨⟨b, c, d, e⟩, g, h, i, j⟩ := h
  unfold Rc; simp (maxDischargeDepth := 8) [go_sem, *]
theorem Rc.put1 {B C : Nat} {x0 x1 x2 x3 : Int} {u0 : Value} {W : World} (h : Rc B x0 x1 x2 x3 W) (hne : C ≠ B) : Rc B x0 x1 x2 x3 (W.setCell ⟨C, 0, none⟩ u0) := by
  obtain ⟨⟨b, c, d, e⟩, g, h, i, j⟩ := h
  have hne2 := hne.symm
  unfold Rc; simp (maxDischargeDepth := 8) [go_sem, *]
theorem OV.putQ0 {w : World} {x y q r s : Int} {W : World} (h : OV w x y s r W) (hq : 2 * q = s) (h0 : 0 ≤ s) : OV w x y (s + 1) r (W.setCell ⟨w.heap.size + 1 + 1 + 1 + 1, 0, none⟩ (.int .u64 (d0 s + 1))) := by
  obtain ⟨b0, bz, ra, rb, r0, r1, rq, rr⟩ := h
  obtain ⟨e0, e1, e2, e3, _, _⟩ := d_even q s hq h0
  unfold OV
  rw [e0, e1, e2, e3]
  exact ⟨by (repeat (first | with_reducible assumption | with_reducible exact Below.refl _ _ | ((with_reducible refine Below.setCell ?_ ?_ _); rotate_left; (first | exact Nat.le_refl _ | (dsimp only; omega) | (simp; done) | (simp; omega))) | with_reducible refine below_alloc ?_ _ | with_reducible apply below_drewN | with_reducible apply Below.drew | with_reducible refine below_step ?_ (by assumption))), by simpa using bz, ra.put1 (by omega), rb.put1 (by omega), r0.put1 (by omega), r1.put1 (by omega), rq.put0 _, rr.put1 (by omega)⟩
theorem hstep (X : Int) (n : Nat) : X / 2 ^ n = 2 * (X / 2 ^ (n + 1)) + X / 2 ^ n % 2 := by
  have h : X / 2 ^ (n + 1) = X / 2 ^ n / 2 := by rw [Int.pow_succ, Int.ediv_ediv_of_nonneg (Int.le_of_lt (Int.pow_pos (by decide)))]
  rw [h]; omega
theorem od_up (P b y q r : Int) (hq : q = P / y) (hr : r = P % y) (hy : 0 < y) (h0 : 0 ≤ b) (h1 : b ≤ 1) (h : y ≤ 2 * r + b) : 2 * q + 1 = (2 * P + b) / y ∧ 2 * r + b - y = (2 * P + b) % y := by
  have e := Int.mul_ediv_add_emod P y
  have rl := Int.emod_lt_of_pos P hy
  have k := (Int.ediv_emod_unique (a := 2 * P + b) (b := y) (q := 2 * q + 1) (r := 2 * r + b - y) hy).mpr ⟨by rw [← e, ← hq, ← hr]; rw [Int.mul_add, Int.mul_add, Int.mul_left_comm]; omega, by omega, by omega⟩
  exact ⟨k.1.symm, k.2.symm⟩
theorem od_dn (P b y q r : Int) (hq : q = P / y) (hr : r = P % y) (hy : 0 < y) (h0 : 0 ≤ b) (h1 : b ≤ 1) (h : 2 * r + b < y) : 2 * q = (2 * P + b) / y ∧ 2 * r + b = (2 * P + b) % y := by
  have e := Int.mul_ediv_add_emod P y
  have r0 := Int.emod_nonneg P (Int.ne_of_gt hy)
  have k := (Int.ediv_emod_unique (a := 2 * P + b) (b := y) (q := 2 * q) (r := 2 * r + b) hy).mpr ⟨by rw [← e, ← hq, ← hr]; rw [Int.mul_add, Int.mul_left_comm]; omega, by omega, by omega⟩
  exact ⟨k.1.symm, k.2.symm⟩
set_option maxHeartbeats 8000000 in
theorem cROver (x y : Int) (w : World) (x0 : 0 ≤ x) (x1 : x ≤ 340282366920938463463374607431768211455) (y0 : 0 < y) (y1 : y ≤ 170141183460469231731687303715884105728) :
    Calls Try.prog 40 #[.agg #[.int .u64 (d0 (x)), .int .u64 (d1 (x)), .int .u64 (d2 (x)), .int .u64 (d3 (x))], .agg #[.int .u64 (d0 (y)), .int .u64 (d1 (y)), .int .u64 (d2 (y)), .int .u64 (d3 (y))]] w fun e w' => e = .returned (.tuple #[.agg #[.int .u64 (d0 (x / y)), .int .u64 (d1 (x / y)), .int .u64 (d2 (x / y)), .int .u64 (d3 (x / y))], .agg #[.int .u64 (d0 (x % y)), .int .u64 (d1 (x % y)), .int .u64 (d2 (x % y)), .int .u64 (d3 (x % y))]]) ∧ Below w.heap.size w w' := by
  go_enter Try.func40, Try.ntmps40
  go_wp2_with (fail)
  go_loopw [8] (fun c wx => ∃ i q r : Int, c = .int .i64 i ∧ OV w x y q r wx ∧ -1 ≤ i ∧ i ≤ 127 ∧ 0 ≤ q ∧ q ≤ 340282366920938463463374607431768211455 ∧ 0 ≤ r ∧ r < y ∧ Hid (q = x / 2 ^ (i + 1).toNat / y ∧ r = x / 2 ^ (i + 1).toNat % y)) (fun c _ => (RowKit.intOf c + 1).toNat)
  case atStart =>
    have hx : x / 2 ^ 128 = 0 := Int.ediv_eq_zero_of_lt x0 (by have : (2 : Int) ^ 128 = 340282366920938463463374607431768211456 := by decide
                                                               omega)
    refine ⟨127, 0, 0, rfl, ⟨by (repeat (first | with_reducible assumption | with_reducible exact Below.refl _ _ | ((with_reducible refine Below.setCell ?_ ?_ _); rotate_left; (first | exact Nat.le_refl _ | (dsimp only; omega) | (simp; done) | (simp; omega))) | with_reducible refine below_alloc ?_ _ | with_reducible apply below_drewN | with_reducible apply Below.drew | with_reducible refine below_step ?_ (by assumption))), by simp, ?_, ?_, ?_, ?_, ?_, ?_⟩, by omega, by omega, by omega, by omega, by omega, y0, Lib.hid (by simp only [show ((127 : Int) + 1).toNat = 128 from rfl, hx]; exact ⟨by simp, by simp⟩)⟩ <;> (unfold Rc; simp [go_sem, d0, d1, d2, d3])
  case round =>
    obtain ⟨i, q, r, rfl, hov, i0, i1, q0, q1, r00, r01, HQ⟩ := hrel
    by_cases hi : i = -1
    · subst hi
      obtain ⟨b0, bz, ra, rb, r0, r1, rq, rr⟩ := hov
      have hq : q = x / y := by have := HQ.out.1; simpa using this
      have hr : r = x % y := by have := HQ.out.2; simpa using this
      subst hq; subst hr
      clear HQ
      obtain ⟨⟨a1, a2, a3, a4⟩, a5, a6, a7, a8⟩ := r0
      obtain ⟨⟨c1, c2, c3, c4⟩, c5, c6, c7, c8⟩ := r1
      obtain ⟨⟨e1, e2, e3, e4⟩, e5, e6, e7, e8⟩ := rq
      obtain ⟨⟨f1, f2, f3, f4⟩, f5, f6, f7, f8⟩ := rr
      go_upto_region 10 with (fail)
      go_region_held3 (fun w' => w'.cell? ⟨w.heap.size + 1 + 1 + 1 + 1, 0, none⟩ = some (.int .u64 (d0 (x / y))) ∧ w'.cell? ⟨w.heap.size + 1 + 1 + 1 + 1, 1, none⟩ = some (.int .u64 (d1 (x / y))) ∧ w'.cell? ⟨w.heap.size + 1 + 1 + 1 + 1, 2, none⟩ = some (.int .u64 (d2 (x / y))) ∧ w'.cell? ⟨w.heap.size + 1 + 1 + 1 + 1, 3, none⟩ = some (.int .u64 (d3 (x / y))) ∧ w'.cell? ⟨w.heap.size + 1 + 1 + 1 + 1 + 1, 0, none⟩ = some (.int .u64 (d0 (x % y))) ∧ w'.cell? ⟨w.heap.size + 1 + 1 + 1 + 1 + 1, 1, none⟩ = some (.int .u64 (d1 (x % y))) ∧ w'.cell? ⟨w.heap.size + 1 + 1 + 1 + 1 + 1, 2, none⟩ = some (.int .u64 (d2 (x % y))) ∧ w'.cell? ⟨w.heap.size + 1 + 1 + 1 + 1 + 1, 3, none⟩ = some (.int .u64 (d3 (x % y)))) (simp (maxDischargeDepth := 6) [go_sem, *]) (fail)
      all_goals go_wp2
      all_goals simp (maxDischargeDepth := 8) [bodyPost, results, Try.results40, go_sem, *]
      all_goals (repeat (first | with_reducible assumption | with_reducible exact Below.refl _ _ | ((with_reducible refine Below.setCell ?_ ?_ _); rotate_left; (first | exact Nat.le_refl _ | (dsimp only; omega) | (simp; done) | (simp; omega))) | with_reducible refine below_alloc ?_ _ | with_reducible apply below_drewN | with_reducible apply Below.drew | with_reducible refine below_step ?_ (by assumption)))
    · obtain ⟨k, hk⟩ : ∃ k : Nat, i = k := ⟨i.toNat, by omega⟩
      obtain ⟨h1, h2⟩ := HQ.out
      rw [show (i + 1).toNat = k + 1 by omega] at h1 h2
      have hst := hstep x k
      obtain ⟨P, hP⟩ : ∃ t, x / 2 ^ (k + 1) = t := ⟨_, rfl⟩
      rw [hP] at h1 h2 hst
      have P0 : 0 ≤ P := by rw [← hP]; exact Int.ediv_nonneg x0 (Int.le_of_lt (Int.pow_pos (by decide)))
      obtain ⟨bt, hbt⟩ : ∃ t, x / 2 ^ k % 2 = t := ⟨_, rfl⟩
      have bt0 : 0 ≤ bt ∧ bt ≤ 1 := by omega
      have xk : x / 2 ^ k ≤ x := Int.ediv_le_self _ x0
      have qP : q ≤ P := by rw [h1]; exact Int.ediv_le_self _ P0
      rw [hbt] at hst
      have kb := fun w => cRBit x i w x0 x1 (by omega) (by omega)
      rw [show i.toNat = k by omega, hbt] at kb
      obtain ⟨r2, hr2⟩ : ∃ t, 2 * r + bt = t := ⟨_, rfl⟩
      obtain ⟨q2, hq2⟩ : ∃ t, 2 * q = t := ⟨_, rfl⟩
      have kt := fun w => cRTwice r bt w r00 (by omega) bt0.1 bt0.2
      rw [show (2 * r + bt) % 340282366920938463463374607431768211456 = r2 by omega] at kt
      have kq := fun w => cRTwice q 0 w q0 q1 (by omega) (by omega)
      rw [show (2 * q + 0) % 340282366920938463463374607431768211456 = q2 by omega] at kq
      have kl := fun w => cRLess r2 y w (by omega) (by omega) (by omega) (by omega)
      have HK : Hid (i = k ∧ q = P / y ∧ r = P % y ∧ x / 2 ^ k = 2 * P + bt ∧ (0 ≤ bt ∧ bt ≤ 1) ∧ 2 * r + bt = r2 ∧ 2 * q = q2 ∧ q2 ≤ x) := Lib.hid ⟨hk, h1, h2, hst, bt0, hr2, hq2, by omega⟩
      clear HQ hk h1 h2 hst hP hbt xk qP hr2 hq2 bt0 P0
      obtain ⟨B0, BZ, ⟨⟨a1, a2, a3, a4⟩, a5⟩, ⟨⟨b1, b2, b3, b4⟩, b5⟩, ra, rb, ⟨⟨c1, c2, c3, c4⟩, c5⟩, ⟨⟨e1, e2, e3, e4⟩, e5⟩⟩ := id hov
      go_upto_region 5 with (fail)
      go_cut [] (fun wx => OV w x y q r2 wx)
      case first =>
        go_region_with (first
          | (go_at_call 52; refine (kb _).mono ?_; rintro e w2 ⟨rfl, hB⟩; have hov2 := hov.drew.later hB; obtain ⟨B02, BZ2, ⟨⟨a12, a22, a32, a42⟩, a52⟩, ⟨⟨b12, b22, b32, b42⟩, b52⟩, ra2, rb2, ⟨⟨c12, c22, c32, c42⟩, c52⟩, ⟨⟨e12, e22, e32, e42⟩, e52⟩⟩ := id hov2)
          | (go_at_call 41; refine (kt _).mono ?_; rintro e w3 ⟨rfl, hB⟩; have hov3 := hov2.later hB; obtain ⟨B03, BZ3, ra3, rb3, rc3, rd3, re3, ⟨⟨e13, e23, e33, e43⟩, e53, e63, e73, e83⟩⟩ := id hov3))
        all_goals go_wp2
        all_goals go_meet
        all_goals exact hov3.putR r2
      case rest =>
        by_cases hv : r2 < y
        · rw [decide_eq_true hv] at kl
          have HV := Lib.hid hv
          clear hv
          obtain ⟨B0, BZ, ⟨⟨a1, a2, a3, a4⟩, a5⟩, ⟨⟨b1, b2, b3, b4⟩, b5⟩, ra, rb, ⟨⟨c1, c2, c3, c4⟩, c5, c6, c7, c8⟩, ⟨⟨e1, e2, e3, e4⟩, e5, e6, e7, e8⟩⟩ := id hcut
          go_wp2_with (fail)
          go_at_call 41
          refine (kq _).mono ?_
          rintro e w4 ⟨rfl, hB⟩
          have hov4 := hcut.later hB
          clear hB a1 a2 a3 a4 a5 b1 b2 b3 b4 b5 c1 c2 c3 c4 c5 c6 c7 c8 e1 e2 e3 e4 e5 e6 e7 e8
          obtain ⟨B0, BZ, ⟨⟨a1, a2, a3, a4⟩, a5⟩, ⟨⟨b1, b2, b3, b4⟩, b5⟩, ra, rb, ⟨⟨c1, c2, c3, c4⟩, c5, c6, c7, c8⟩, ⟨⟨e1, e2, e3, e4⟩, e5, e6, e7, e8⟩⟩ := id hov4
          go_wp2_with (fail)
          go_at_call 42
          refine (kl _).mono ?_
          rintro e w5 ⟨rfl, hB⟩
          have hov5 := (hov4.putQ q2).later hB
          clear hB a1 a2 a3 a4 a5 b1 b2 b3 b4 b5 c1 c2 c3 c4 c5 c6 c7 c8 e1 e2 e3 e4 e5 e6 e7 e8
          go_wp2
          obtain ⟨hk, h1, h2, hst, bt0, hr2, hq2, hqx⟩ := HK.out
          have hv := HV.out
          have dd := od_dn P bt y q r h1 h2 y0 bt0.1 bt0.2 (by omega)
          refine ⟨⟨i - 1, q2, r2, rfl, hov5, by omega, by omega, by omega, by omega, by omega, by omega, Lib.hid ?_⟩, by simp [RowKit.intOf]; omega⟩
          rw [show (i - 1 + 1).toNat = k by omega, hst, ← dd.1, ← dd.2]
          exact ⟨by omega, by omega⟩
        · rw [decide_eq_false hv] at kl
          obtain ⟨r3, hr3⟩ : ∃ t, r2 - y = t := ⟨_, rfl⟩
          have km := fun w => cRMinus r2 y w (by have := HK.out; omega) (by have := HK.out; omega) (by omega) (by omega)
          rw [hr3] at km
          have HV := Lib.hid (And.intro hv hr3)
          have hde := d_even q q2 (by have := HK.out; omega) (by have := HK.out; omega)
          have wde : IntKind.u64.wrap (d0 q2 + 1) = d0 q2 + 1 := by rw [IntKind.wrap_u64]; omega
          clear hv hr3 hde
          obtain ⟨B0, BZ, ⟨⟨a1, a2, a3, a4⟩, a5⟩, ⟨⟨b1, b2, b3, b4⟩, b5⟩, ra, rb, ⟨⟨c1, c2, c3, c4⟩, c5, c6, c7, c8⟩, ⟨⟨e1, e2, e3, e4⟩, e5, e6, e7, e8⟩⟩ := id hcut
          go_wp2_with (fail)
          go_at_call 41
          refine (kq _).mono ?_
          rintro e w4 ⟨rfl, hB⟩
          have hov4 := hcut.later hB
          clear hB a1 a2 a3 a4 a5 b1 b2 b3 b4 b5 c1 c2 c3 c4 c5 c6 c7 c8 e1 e2 e3 e4 e5 e6 e7 e8
          obtain ⟨B0, BZ, ⟨⟨a1, a2, a3, a4⟩, a5⟩, ⟨⟨b1, b2, b3, b4⟩, b5⟩, ra, rb, ⟨⟨c1, c2, c3, c4⟩, c5, c6, c7, c8⟩, ⟨⟨e1, e2, e3, e4⟩, e5, e6, e7, e8⟩⟩ := id hov4
          go_wp2_with (fail)
          go_at_call 42
          refine (kl _).mono ?_
          rintro e w5 ⟨rfl, hB⟩
          have hov5 := (hov4.putQ q2).later hB
          clear hB a1 a2 a3 a4 a5 b1 b2 b3 b4 b5 c1 c2 c3 c4 c5 c6 c7 c8 e1 e2 e3 e4 e5 e6 e7 e8
          obtain ⟨B0, BZ, ⟨⟨a1, a2, a3, a4⟩, a5⟩, ⟨⟨b1, b2, b3, b4⟩, b5⟩, ra, rb, ⟨⟨c1, c2, c3, c4⟩, c5, c6, c7, c8⟩, ⟨⟨e1, e2, e3, e4⟩, e5, e6, e7, e8⟩⟩ := id hov5
          go_wp2_with (fail)
          go_at_call 53
          refine (km _).mono ?_
          rintro e w6 ⟨rfl, hB⟩
          have hov6 := hov5.later hB
          clear hB a1 a2 a3 a4 a5 b1 b2 b3 b4 b5 c1 c2 c3 c4 c5 c6 c7 c8 e1 e2 e3 e4 e5 e6 e7 e8
          obtain ⟨B0, BZ, ⟨⟨a1, a2, a3, a4⟩, a5⟩, ⟨⟨b1, b2, b3, b4⟩, b5⟩, ra, rb, ⟨⟨c1, c2, c3, c4⟩, c5, c6, c7, c8⟩, ⟨⟨e1, e2, e3, e4⟩, e5, e6, e7, e8⟩⟩ := id hov6
          go_wp2
          obtain ⟨hk, h1, h2, hst, bt0, hr2, hq2, hqx⟩ := HK.out
          obtain ⟨hv, hr3⟩ := HV.out
          have dd := od_up P bt y q r h1 h2 y0 bt0.1 bt0.2 (by omega)
          refine ⟨⟨i - 1, q2 + 1, r3, rfl, (hov6.putR r3).putQ0 hq2 (by omega), by omega, by omega, by omega, by omega, by omega, by omega, Lib.hid ?_⟩, by simp [RowKit.intOf]; omega⟩
          rw [show (i - 1 + 1).toNat = k by omega, hst, ← dd.1, ← dd.2]
          exact ⟨by omega, by omega⟩
end Go.Proofs.Ytdbbandpobifhaa
