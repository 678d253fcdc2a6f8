/- Plain laws of sines and directions. No Go in sight. -/
import Derived.Test.YtjpkkpflamkjkaaT0
set_option linter.unusedSimpArgs false
set_option linter.unusedVariables false
namespace Go.Proofs.Ytjpkkpflamkjkaa
open Go.RowKit
theorem qn_up2 (N M D : Int) (hN : 0 ≤ N) (h : N ≤ M) (hD : 0 < D) : qn N D ≤ qn M D := by
  have a1 : N / D ≤ M / D := Int.ediv_le_ediv hD h
  have a2 := Int.mul_ediv_add_emod N D
  have a3 := Int.mul_ediv_add_emod M D
  unfold qn
  rcases (show N / D = M / D ∨ N / D + 1 ≤ M / D from by omega) with h1 | h1
  · rw [h1] at a2 ⊢
    generalize D * (M / D) = k at *
    split <;> split <;> omega
  · split <;> split <;> omega
/-- One piece of a sine: from a to a + d. -/
def pc (a d f : Int) : Int := a + dq (d * f) 16777216
theorem pc_yes (a d f : Int) (d0 : 0 ≤ d) (d1 : d ≤ 4294967296) (f0 : 0 ≤ f) (f1 : f ≤ 16777216) : dok (d * f) 16777216 = true ∧ dq (d * f) 16777216 = qn (d * f) 16777216 ∧ 0 ≤ qn (d * f) 16777216 ∧ qn (d * f) 16777216 ≤ d ∧ 2 * (qn (d * f) 16777216 * 16777216) ≤ 2 * (d * f) + 16777216 ∧ 2 * (d * f) - 16777216 ≤ 2 * (qn (d * f) 16777216 * 16777216) := by
  have m0 : 0 ≤ d * f := Int.mul_nonneg d0 f0
  have m1 : d * f ≤ d * 16777216 := Int.mul_le_mul_of_nonneg_left f1 d0
  have r := qn_two (d * f) 16777216 (by decide)
  have e : rdiv (d * f) 16777216 = qn (d * f) 16777216 := by
    unfold rdiv
    rw [decide_eq_false (show ¬ d * f < 0 by omega), if_neg (by decide), show (((d * f).natAbs : Nat) : Int) = d * f by omega]
    rfl
  have b0 : 0 ≤ qn (d * f) 16777216 := by
    have := Int.ediv_nonneg m0 (show (0 : Int) ≤ 16777216 by decide)
    unfold qn; split <;> omega
  have b1 : qn (d * f) 16777216 ≤ d := by omega
  have ok : dok (d * f) 16777216 = true := by unfold dok; rw [e, fx_yes _ (by omega) (by omega)]; rfl
  exact ⟨ok, by unfold dq; rw [ok, e]; rfl, b0, b1, r.1, r.2⟩
theorem pc_mono (a d f g : Int) (d0 : 0 ≤ d) (d1 : d ≤ 4294967296) (f0 : 0 ≤ f) (fg : f ≤ g) (g1 : g ≤ 16777216) : pc a d f ≤ pc a d g := by
  have k1 := pc_yes a d f d0 d1 f0 (by omega)
  have k2 := pc_yes a d g d0 d1 (by omega) g1
  unfold pc
  rw [k1.2.1, k2.2.1]
  have := qn_up2 (d * f) (d * g) 16777216 (Int.mul_nonneg d0 f0) (Int.mul_le_mul_of_nonneg_left fg d0) (by decide)
  omega
theorem pc_0 (a d : Int) : pc a d 0 = a := by
  unfold pc; rw [Int.mul_zero, show dq 0 16777216 = 0 by decide]; omega
theorem pc_bd (a d f : Int) (d0 : 0 ≤ d) (d1 : d ≤ 4294967296) (f0 : 0 ≤ f) (f1 : f ≤ 16777216) : a ≤ pc a d f ∧ pc a d f ≤ a + d := by
  have k := pc_yes a d f d0 d1 f0 f1
  unfold pc; rw [k.2.1]; omega
theorem pc_end (a d : Int) (d0 : 0 ≤ d) (d1 : d ≤ 4294967296) : pc a d 16777216 = a + d := by
  have k := pc_yes a d 16777216 d0 d1 (by decide) (by decide)
  unfold pc; rw [k.2.1]; omega
theorem tb_mono {i j : Nat} (h : i ≤ j) (hj : j ≤ 64) : tb i ≤ tb j := by
  induction j with
  | zero => rw [show i = 0 by omega]; exact Int.le_refl _
  | succ j ih =>
    rcases (show i ≤ j ∨ i = j + 1 by omega) with h1 | rfl
    · have := ih h1 (by omega); have := tb_up j (by omega); omega
    · exact Int.le_refl _
theorem tb_d (i : Nat) (h : i < 64) : 0 ≤ tb (i + 1) - tb i ∧ tb (i + 1) - tb i ≤ 4294967296 := by
  have := tb_up i h; have := tb_bd i (by omega); have := tb_bd (i + 1) (by omega); omega
/-- The sine in the first quarter. -/
def gq (r : Int) : Int := pc (tb (r / 16777216).toNat) (tb ((r / 16777216).toNat + 1) - tb (r / 16777216).toNat) (r % 16777216)
theorem gq_at (i : Nat) (f : Int) (hi : i < 64) (f0 : 0 ≤ f) (f1 : f ≤ 16777216) : gq ((i : Int) * 16777216 + f) = pc (tb i) (tb (i + 1) - tb i) f := by
  unfold gq
  rcases (show f < 16777216 ∨ f = 16777216 by omega) with h | rfl
  · rw [show ((i : Int) * 16777216 + f) / 16777216 = i by omega, show ((i : Int) * 16777216 + f) % 16777216 = f by omega, Int.toNat_natCast]
  · rw [show ((i : Int) * 16777216 + 16777216) / 16777216 = ((i + 1 : Nat) : Int) by omega, show ((i : Int) * 16777216 + 16777216) % 16777216 = 0 by omega, Int.toNat_natCast, pc_0]
    have := tb_d i hi
    rw [pc_end _ _ this.1 this.2]; omega
theorem gq_end : gq 1073741824 = 4294967296 := by
  have := gq_at 63 16777216 (by decide) (by decide) (by decide)
  rw [show ((63 : Nat) : Int) * 16777216 + 16777216 = 1073741824 by decide] at this
  have h := tb_d 63 (by decide)
  rw [this, pc_end _ _ h.1 h.2, show tb (63 + 1) = 4294967296 from tb_64]; omega
theorem gq_0 : gq 0 = 0 := by
  have := gq_at 0 0 (by decide) (by decide) (by decide)
  rw [show ((0 : Nat) : Int) * 16777216 + 0 = 0 by decide] at this
  rw [this, pc_0]; exact tb_0
theorem parts_of (r : Int) (h0 : 0 ≤ r) (h1 : r < 1073741824) : ∃ i : Nat, ∃ f : Int, i < 64 ∧ 0 ≤ f ∧ f < 16777216 ∧ r = (i : Int) * 16777216 + f :=
  ⟨(r / 16777216).toNat, r % 16777216, by omega, by omega, by omega, by omega⟩
theorem gq_mono (r s : Int) (h0 : 0 ≤ r) (h : r ≤ s) (h1 : s ≤ 1073741824) : gq r ≤ gq s := by
  rcases (show r = s ∨ r < s by omega) with rfl | hlt
  · exact Int.le_refl _
  obtain ⟨i, f, hi, f0, f1, rfl⟩ := parts_of r h0 (by omega)
  obtain ⟨j, g, hj, g0, g1, rfl⟩ : ∃ j : Nat, ∃ g : Int, j < 64 ∧ 0 ≤ g ∧ g ≤ 16777216 ∧ s = (j : Int) * 16777216 + g := by
    rcases (show s < 1073741824 ∨ s = 1073741824 by omega) with h2 | rfl
    · obtain ⟨j, g, a, b, c, d⟩ := parts_of s (by omega) h2
      exact ⟨j, g, a, b, by omega, d⟩
    · exact ⟨63, 16777216, by decide, by decide, by decide, by decide⟩
  rw [gq_at i f hi f0 (by omega), gq_at j g hj g0 g1]
  have di := tb_d i hi
  have dj := tb_d j hj
  rcases (show i = j ∨ i < j by omega) with rfl | hij
  · exact pc_mono _ _ f g di.1 di.2 f0 (by omega) g1
  · have a1 := (pc_bd (tb i) (tb (i + 1) - tb i) f di.1 di.2 f0 (by omega)).2
    have a2 := (pc_bd (tb j) (tb (j + 1) - tb j) g dj.1 dj.2 g0 g1).1
    have a3 := tb_mono (show i + 1 ≤ j by omega) (by omega)
    omega
theorem gq_bd (r : Int) (h0 : 0 ≤ r) (h1 : r ≤ 1073741824) : 0 ≤ gq r ∧ gq r ≤ 4294967296 := by
  have a := gq_mono 0 r (by decide) h0 h1
  have b := gq_mono r 1073741824 h0 h1 (by decide)
  rw [gq_0] at a; rw [gq_end] at b
  exact ⟨a, b⟩
/-- A sine, a cosine. -/
def sinv (t : Int) : Int := if 2 ≤ t / 1073741824 then -gq (if t / 1073741824 % 2 = 1 then 1073741824 - t % 1073741824 else t % 1073741824) else gq (if t / 1073741824 % 2 = 1 then 1073741824 - t % 1073741824 else t % 1073741824)
def cosv (t : Int) : Int := sinv ((t + 1073741824) % 4294967296)
theorem sinv_q0 (t : Int) (h0 : 0 ≤ t) (h1 : t ≤ 1073741824) : sinv t = gq t := by
  unfold sinv
  rcases (show t < 1073741824 ∨ t = 1073741824 by omega) with h | rfl
  · rw [if_neg (by omega), if_neg (by omega), show t % 1073741824 = t by omega]
  · rfl
theorem sinv_q1 (t : Int) (h0 : 1073741824 ≤ t) (h1 : t ≤ 2147483648) : sinv t = gq (2147483648 - t) := by
  unfold sinv
  rcases (show t < 2147483648 ∨ t = 2147483648 by omega) with h | rfl
  · rw [if_neg (by omega), if_pos (by omega)]; congr 1; omega
  · rw [if_pos (by decide), if_neg (by decide), show (2147483648 : Int) % 1073741824 = 0 by decide, show (2147483648 : Int) - 2147483648 = 0 by decide, gq_0]; rfl
theorem sinv_q2 (t : Int) (h0 : 2147483648 ≤ t) (h1 : t ≤ 3221225472) : sinv t = -gq (t - 2147483648) := by
  unfold sinv
  rcases (show t < 3221225472 ∨ t = 3221225472 by omega) with h | rfl
  · rw [if_pos (by omega), if_neg (by omega)]; congr 2; omega
  · rfl
theorem sinv_q3 (t : Int) (h0 : 3221225472 ≤ t) (h1 : t < 4294967296) : sinv t = -gq (4294967296 - t) := by
  unfold sinv
  rw [if_pos (by omega), if_pos (by omega)]; congr 2; omega
theorem cosv_q0 (t : Int) (h0 : 0 ≤ t) (h1 : t ≤ 1073741824) : cosv t = gq (1073741824 - t) := by
  unfold cosv; rw [show (t + 1073741824) % 4294967296 = t + 1073741824 by omega, sinv_q1 _ (by omega) (by omega)]; congr 1; omega
theorem sinv_bd (t : Int) (h0 : 0 ≤ t) (h1 : t < 4294967296) : -4294967296 ≤ sinv t ∧ sinv t ≤ 4294967296 := by
  rcases (show t < 1073741824 ∨ (1073741824 ≤ t ∧ t < 2147483648) ∨ (2147483648 ≤ t ∧ t < 3221225472) ∨ 3221225472 ≤ t by omega) with h | h | h | h
  · rw [sinv_q0 t h0 (by omega)]; have := gq_bd t h0 (by omega); omega
  · rw [sinv_q1 t (by omega) (by omega)]; have := gq_bd (2147483648 - t) (by omega) (by omega); omega
  · rw [sinv_q2 t (by omega) (by omega)]; have := gq_bd (t - 2147483648) (by omega) (by omega); omega
  · rw [sinv_q3 t (by omega) (by omega)]; have := gq_bd (4294967296 - t) (by omega) (by omega); omega
theorem cosv_bd (t : Int) : -4294967296 ≤ cosv t ∧ cosv t ≤ 4294967296 := by unfold cosv; exact sinv_bd _ (by omega) (by omega)
theorem sinv_half (t : Int) (h0 : 0 ≤ t) (h1 : t < 4294967296) : sinv ((t + 2147483648) % 4294967296) = -sinv t := by
  rcases (show t < 1073741824 ∨ (1073741824 ≤ t ∧ t < 2147483648) ∨ (2147483648 ≤ t ∧ t < 3221225472) ∨ 3221225472 ≤ t by omega) with h | h | h | h
  · rw [sinv_q0 t h0 (by omega), sinv_q2 _ (by omega) (by omega)]; congr 2; omega
  · rw [sinv_q1 t (by omega) (by omega), sinv_q3 _ (by omega) (by omega)]; congr 2; omega
  · rw [sinv_q2 t (by omega) (by omega), sinv_q0 _ (by omega) (by omega), Int.neg_neg]; congr 1; omega
  · rw [sinv_q3 t (by omega) (by omega), sinv_q1 _ (by omega) (by omega), Int.neg_neg]; congr 1; omega
theorem sinv_mirror (t : Int) (h0 : 0 ≤ t) (h1 : t < 4294967296) : sinv ((2147483648 - t) % 4294967296) = sinv t := by
  rcases (show t ≤ 1073741824 ∨ (1073741824 < t ∧ t ≤ 2147483648) ∨ (2147483648 < t ∧ t ≤ 3221225472) ∨ 3221225472 < t by omega) with h | h | h | h
  · rw [sinv_q0 t h0 (by omega), sinv_q1 _ (by omega) (by omega)]; congr 1; omega
  · rw [sinv_q1 t (by omega) (by omega), sinv_q0 _ (by omega) (by omega)]; congr 1; omega
  · rw [sinv_q2 t (by omega) (by omega), sinv_q3 _ (by omega) (by omega)]; congr 2; omega
  · rw [sinv_q3 t (by omega) (by omega), sinv_q2 _ (by omega) (by omega)]; congr 2; omega
theorem cosv_even (t : Int) (h0 : 0 ≤ t) (h1 : t < 4294967296) : cosv ((-t) % 4294967296) = cosv t := by
  unfold cosv
  rw [show ((-t) % 4294967296 + 1073741824) % 4294967296 = (2147483648 - (t + 1073741824) % 4294967296) % 4294967296 by omega, sinv_mirror _ (by omega) (by omega)]
theorem sinv_rises (a b : Int) (h0 : 0 ≤ a) (h : a ≤ b) (h1 : b ≤ 1073741824) : sinv a ≤ sinv b ∧ cosv b ≤ cosv a := by
  rw [sinv_q0 a h0 (by omega), sinv_q0 b (by omega) h1, cosv_q0 a h0 (by omega), cosv_q0 b (by omega) h1]
  exact ⟨gq_mono a b h0 h h1, gq_mono _ _ (by omega) (by omega) (by omega)⟩
/-! ### Sine and cosine together -/
theorem tb_sq : ∀ i, i < 65 → 18446744073709551616 - 4294967296 * 8 ≤ tb i * tb i + tb (64 - i) * tb (64 - i) ∧ tb i * tb i + tb (64 - i) * tb (64 - i) ≤ 18446744073709551616 + 4294967296 * 8 := by decide +kernel
theorem tb_dot : ∀ i, i < 64 → 18446744073709551616 - 9007199254740992 ≤ tb i * tb (i + 1) + tb (64 - i) * tb (63 - i) ∧ tb i * tb (i + 1) + tb (64 - i) * tb (63 - i) ≤ 18446744073709551616 := by decide +kernel
/-- A place on a chord lies nearly on the circle. -/
theorem chord (S0 S1 C0 C1 f g e1 e2 s c : Int) (f0 : 0 ≤ f) (g0 : 0 ≤ g) (hfg : f + g = 16777216)
    (a0 : 18446744073709551616 - 34359738368 ≤ S0 * S0 + C0 * C0) (a1 : S0 * S0 + C0 * C0 ≤ 18446744073709551616 + 34359738368)
    (b0 : 18446744073709551616 - 34359738368 ≤ S1 * S1 + C1 * C1) (b1 : S1 * S1 + C1 * C1 ≤ 18446744073709551616 + 34359738368)
    (d0 : 18446744073709551616 - 9007199254740992 ≤ S0 * S1 + C0 * C1) (d1 : S0 * S1 + C0 * C1 ≤ 18446744073709551616)
    (hs : 16777216 * s = S0 * g + S1 * f + e1) (hc : 16777216 * c = C0 * g + C1 * f + e2)
    (p0 : -8388608 ≤ e1) (p1 : e1 ≤ 8388608) (q0 : -8388608 ≤ e2) (q1 : e2 ≤ 8388608) (s0 : 0 ≤ s) (s1 : s ≤ 4294967296) (c0 : 0 ≤ c) (c1 : c ≤ 4294967296) :
    -36028797018963968 ≤ s * s + c * c - 18446744073709551616 ∧ s * s + c * c - 18446744073709551616 ≤ 36028797018963968 := by
  -- u, v: the place itself
  obtain ⟨u, hu⟩ : ∃ u, u = S0 * g + S1 * f := ⟨_, rfl⟩
  obtain ⟨v, hv⟩ : ∃ v, v = C0 * g + C1 * f := ⟨_, rfl⟩
  rw [← hu] at hs; rw [← hv] at hc
  have huv : u * u + v * v = (g * g) * (S0 * S0 + C0 * C0) + (f * f) * (S1 * S1 + C1 * C1) + 2 * ((f * g) * (S0 * S1 + C0 * C1)) := by rw [hu, hv]; grind
  have hsum : g * g + f * f + 2 * (f * g) = 281474976710656 := by rw [show g * g + f * f + 2 * (f * g) = (f + g) * (f + g) by grind, hfg]; rfl
  have n1 : 0 ≤ g * g := Int.mul_nonneg g0 g0
  have n2 : 0 ≤ f * f := Int.mul_nonneg f0 f0
  have n3 : 0 ≤ f * g := Int.mul_nonneg f0 g0
  have x1 := Int.mul_le_mul_of_nonneg_left a0 n1
  have x2 := Int.mul_le_mul_of_nonneg_left a1 n1
  have x3 := Int.mul_le_mul_of_nonneg_left b0 n2
  have x4 := Int.mul_le_mul_of_nonneg_left b1 n2
  have x5 := Int.mul_le_mul_of_nonneg_left d0 n3
  have x6 := Int.mul_le_mul_of_nonneg_left d1 n3
  -- the rounding
  have hss : 281474976710656 * (s * s) = u * u + (2 * (16777216 * s) - e1) * e1 := by
    have : u = 16777216 * s - e1 := by omega
    rw [this]; grind
  have hcc : 281474976710656 * (c * c) = v * v + (2 * (16777216 * c) - e2) * e2 := by
    have : v = 16777216 * c - e2 := by omega
    rw [this]; grind
  have small (z e : Int) (z0 : 0 ≤ z) (z1 : z ≤ 4294967296) (e0 : -8388608 ≤ e) (e1 : e ≤ 8388608) : -2417851639229258349412352 ≤ (2 * (16777216 * z) - e) * e ∧ (2 * (16777216 * z) - e) * e ≤ 2417851639229258349412352 := by
    have k1 : 0 ≤ (2 * (16777216 * z) - e + 8388608) * (8388608 - e) := Int.mul_nonneg (by omega) (by omega)
    have k2 : 0 ≤ (2 * (16777216 * z) - e + 8388608) * (8388608 + e) := Int.mul_nonneg (by omega) (by omega)
    generalize hy : 2 * (16777216 * z) - e = y at *
    simp only [Int.sub_mul, Int.mul_sub, Int.add_mul, Int.mul_add] at k1 k2
    generalize y * e = p at *
    omega
  have r1 := small s e1 s0 s1 p0 p1
  have r2 := small c e2 c0 c1 q0 q1
  generalize (2 * (16777216 * s) - e1) * e1 = z1 at *
  generalize (2 * (16777216 * c) - e2) * e2 = z2 at *
  generalize s * s = ss at *
  generalize c * c = cc at *
  generalize u * u = uu at *
  generalize v * v = vv at *
  generalize g * g * (S0 * S0 + C0 * C0) = y1 at *
  generalize f * f * (S1 * S1 + C1 * C1) = y2 at *
  generalize f * g * (S0 * S1 + C0 * C1) = y3 at *
  generalize g * g = gg at *
  generalize f * f = ff at *
  generalize f * g = fg at *
  omega
theorem pc_near (a b f : Int) (h0 : 0 ≤ b - a) (h1 : b - a ≤ 4294967296) (f0 : 0 ≤ f) (f1 : f ≤ 16777216) : ∃ e, 16777216 * pc a (b - a) f = a * (16777216 - f) + b * f + e ∧ -8388608 ≤ e ∧ e ≤ 8388608 := by
  have k := pc_yes a (b - a) f h0 h1 f0 f1
  refine ⟨16777216 * pc a (b - a) f - (a * (16777216 - f) + b * f), by omega, ?_⟩
  unfold pc
  rw [k.2.1]
  have h2 := k.2.2.2.2
  rw [Int.mul_sub, Int.mul_add]
  rw [Int.sub_mul] at h2 ⊢
  generalize a * f = af at *
  generalize b * f = bf at *
  generalize qn (bf - af) 16777216 = q at *
  omega
theorem gq_round (r : Int) (h0 : 0 ≤ r) (h1 : r ≤ 1073741824) : -36028797018963968 ≤ gq r * gq r + gq (1073741824 - r) * gq (1073741824 - r) - 18446744073709551616 ∧ gq r * gq r + gq (1073741824 - r) * gq (1073741824 - r) - 18446744073709551616 ≤ 36028797018963968 := by
  rcases (show r < 1073741824 ∨ r = 1073741824 by omega) with h | rfl
  · obtain ⟨i, f, hi, f0, f1, rfl⟩ := parts_of r h0 h
    have b1 := gq_bd _ h0 h1
    have b2 := gq_bd (1073741824 - ((i : Int) * 16777216 + f)) (by omega) (by omega)
    have e2 : gq (1073741824 - ((i : Int) * 16777216 + f)) = pc (tb (63 - i)) (tb (64 - i) - tb (63 - i)) (16777216 - f) := by
      have := gq_at (63 - i) (16777216 - f) (by omega) (by omega) (by omega)
      rw [show ((63 - i : Nat) : Int) * 16777216 + (16777216 - f) = 1073741824 - ((i : Int) * 16777216 + f) by omega, show 63 - i + 1 = 64 - i by omega] at this
      exact this
    rw [e2] at b2 ⊢
    rw [gq_at i f hi f0 (by omega)] at b1 ⊢
    have di := tb_d i hi
    have dj := tb_d (63 - i) (by omega)
    rw [show 63 - i + 1 = 64 - i by omega] at dj
    obtain ⟨e1, k1, p0, p1⟩ := pc_near (tb i) (tb (i + 1)) f di.1 di.2 f0 (by omega)
    obtain ⟨e2, k2, q0, q1⟩ := pc_near (tb (63 - i)) (tb (64 - i)) (16777216 - f) dj.1 dj.2 (by omega) (by omega)
    have s1 := tb_sq i (by omega)
    have s2 := tb_sq (i + 1) (by omega)
    have s3 := tb_dot i hi
    rw [show 64 - (i + 1) = 63 - i by omega] at s2
    rw [show (16777216 : Int) - (16777216 - f) = f by omega, Int.add_comm (tb (63 - i) * f)] at k2
    exact chord (tb i) (tb (i + 1)) (tb (64 - i)) (tb (63 - i)) f (16777216 - f) e1 e2 _ _ f0 (by omega) (by omega) (by omega) (by omega) (by omega) (by omega) s3.1 s3.2 k1 k2 p0 p1 q0 q1 b1.1 b1.2 b2.1 b2.2
  · rw [gq_end, show (1073741824 : Int) - 1073741824 = 0 by decide, gq_0]; decide
theorem sin_round (t : Int) (h0 : 0 ≤ t) (h1 : t < 4294967296) : -36028797018963968 ≤ sinv t * sinv t + cosv t * cosv t - 18446744073709551616 ∧ sinv t * sinv t + cosv t * cosv t - 18446744073709551616 ≤ 36028797018963968 := by
  unfold cosv
  rcases (show t < 1073741824 ∨ (1073741824 ≤ t ∧ t < 2147483648) ∨ (2147483648 ≤ t ∧ t < 3221225472) ∨ 3221225472 ≤ t by omega) with h | h | h | h
  · rw [sinv_q0 t h0 (by omega), sinv_q1 _ (by omega) (by omega), show 2147483648 - (t + 1073741824) % 4294967296 = 1073741824 - t by omega]
    exact gq_round t h0 (by omega)
  · rw [sinv_q1 t (by omega) (by omega), sinv_q2 _ (by omega) (by omega), Int.neg_mul_neg, show (t + 1073741824) % 4294967296 - 2147483648 = 1073741824 - (2147483648 - t) by omega]
    exact gq_round _ (by omega) (by omega)
  · rw [sinv_q2 t (by omega) (by omega), sinv_q3 _ (by omega) (by omega), Int.neg_mul_neg, Int.neg_mul_neg, show 4294967296 - (t + 1073741824) % 4294967296 = 1073741824 - (t - 2147483648) by omega]
    exact gq_round _ (by omega) (by omega)
  · rw [sinv_q3 t (by omega) (by omega), sinv_q0 _ (by omega) (by omega), Int.neg_mul_neg, show (t + 1073741824) % 4294967296 = 1073741824 - (4294967296 - t) by omega]
    exact gq_round _ (by omega) (by omega)
end Go.Proofs.Ytjpkkpflamkjkaa
