/- Contracts of math/bits.Len64, LeadingZeros64 and Div64: the long division of two words by one. -/
import Derived.Test.YtjpkkpflamkjkaaA3
import Derived.Lib.Strings
import Derived.Lib.Slices
import Derived.Lib.Small
import Derived.Lib.Walk
import Derived.Lib.BitFns
import Derived.Deep.CutBlock
import Derived.Deep.DeepCutAuto
import Derived.Laws.MathBits
set_option linter.unusedSimpArgs false
set_option linter.unusedVariables false
namespace Go.Proofs.Ytjpkkpflamkjkaa
open Go.RowKit

theorem len8_at (b : Int) (h0 : 0 ≤ b) (h1 : b ≤ 255) : Lib.len8 b = (Lib.bitLen b.toNat : Int) ∧ Lib.bitLen b.toNat ≤ 8 := by
  obtain ⟨n, rfl⟩ := Int.eq_ofNat_of_zero_le h0
  exact ⟨Lib.len8_eq ⟨n, by omega⟩, Lib.bitLen_le8 ⟨n, by omega⟩⟩
theorem len_two (S : Int) (T L : Nat) (hS : S = T) (hT : T ≤ 56) (hL : L ≤ 8) : wrap64 (S + wrap64 (L : Int)) = ((T + L : Nat) : Int) := by
  subst hS
  rw [IntWalk.wrap64_in (L : Int) ⟨by omega, by omega⟩, IntWalk.wrap64_in _ ⟨by omega, by omega⟩]
  omega
theorem len_one (L : Nat) (hL : L ≤ 8) : wrap64 (wrap64 (L : Int)) = (L : Int) := by
  rw [IntWalk.wrap64_in (L : Int) ⟨by omega, by omega⟩, IntWalk.wrap64_in _ ⟨by omega, by omega⟩]
set_option maxHeartbeats 4000000 in
set_option maxRecDepth 100000 in
theorem cLen64 (x : Int) (w : World) (h0 : 0 ≤ x) (h1 : x ≤ 18446744073709551615) :
    Calls Try.prog 105 #[.int .u64 x] w fun e w' => e = .returned (.int .i64 (Lib.bitLen x.toNat)) ∧ w = w' := by
  rcases (show (72057594037927936 ≤ x ∧ x ≤ 18446744073709551615) ∨ (281474976710656 ≤ x ∧ x ≤ 72057594037927935) ∨ (1099511627776 ≤ x ∧ x ≤ 281474976710655) ∨ (4294967296 ≤ x ∧ x ≤ 1099511627775) ∨ (16777216 ≤ x ∧ x ≤ 4294967295) ∨ (65536 ≤ x ∧ x ≤ 16777215) ∨ (256 ≤ x ∧ x ≤ 65535) ∨ x ≤ 255 from by omega) with ⟨ha, hb⟩ | ⟨ha, hb⟩ | ⟨ha, hb⟩ | ⟨ha, hb⟩ | ⟨ha, hb⟩ | ⟨ha, hb⟩ | ⟨ha, hb⟩ | hb
  · have e0 : 0 ≤ x / 4294967296 / 65536 / 256 := by omega
    have e1 : x / 4294967296 / 65536 / 256 ≤ 255 := by omega
    go_enter Try.func105, Try.ntmps105
    go_wp2
    simp [bodyPost, results, Try.results105, go_sem]
    obtain ⟨hl, l⟩ := len8_at (x / 4294967296 / 65536 / 256) e0 e1
    have e : (x / 4294967296 / 65536 / 256).toNat = x.toNat / 72057594037927936 := by omega
    have s := Lib.bitLen_shift56 x.toNat (by omega) (by omega)
    rw [e] at hl l
    rw [hl, s]
    exact len_two 56 56 _ rfl (by decide) l
  · have e0 : 0 ≤ x / 4294967296 / 65536 := by omega
    have e1 : x / 4294967296 / 65536 ≤ 255 := by omega
    go_enter Try.func105, Try.ntmps105
    go_wp2
    simp [bodyPost, results, Try.results105, go_sem]
    obtain ⟨hl, l⟩ := len8_at (x / 4294967296 / 65536) e0 e1
    have e : (x / 4294967296 / 65536).toNat = x.toNat / 281474976710656 := by omega
    have s := Lib.bitLen_shift48 x.toNat (by omega) (by omega)
    rw [e] at hl l
    rw [hl, s]
    exact len_two 48 48 _ rfl (by decide) l
  · have e0 : 0 ≤ x / 4294967296 / 256 := by omega
    have e1 : x / 4294967296 / 256 ≤ 255 := by omega
    go_enter Try.func105, Try.ntmps105
    go_wp2
    simp [bodyPost, results, Try.results105, go_sem]
    obtain ⟨hl, l⟩ := len8_at (x / 4294967296 / 256) e0 e1
    have e : (x / 4294967296 / 256).toNat = x.toNat / 1099511627776 := by omega
    have s := Lib.bitLen_shift40 x.toNat (by omega) (by omega)
    rw [e] at hl l
    rw [hl, s]
    exact len_two 40 40 _ rfl (by decide) l
  · have e0 : 0 ≤ x / 4294967296 := by omega
    have e1 : x / 4294967296 ≤ 255 := by omega
    go_enter Try.func105, Try.ntmps105
    go_wp2
    simp [bodyPost, results, Try.results105, go_sem]
    obtain ⟨hl, l⟩ := len8_at (x / 4294967296) e0 e1
    have e : (x / 4294967296).toNat = x.toNat / 4294967296 := by omega
    have s := Lib.bitLen_shift32 x.toNat (by omega) (by omega)
    rw [e] at hl l
    rw [hl, s]
    exact len_two 32 32 _ rfl (by decide) l
  · have e0 : 0 ≤ x / 65536 / 256 := by omega
    have e1 : x / 65536 / 256 ≤ 255 := by omega
    go_enter Try.func105, Try.ntmps105
    go_wp2
    simp [bodyPost, results, Try.results105, go_sem]
    obtain ⟨hl, l⟩ := len8_at (x / 65536 / 256) e0 e1
    have e : (x / 65536 / 256).toNat = x.toNat / 16777216 := by omega
    have s := Lib.bitLen_shift24 x.toNat (by omega) (by omega)
    rw [e] at hl l
    rw [hl, s]
    exact len_two 24 24 _ rfl (by decide) l
  · have e0 : 0 ≤ x / 65536 := by omega
    have e1 : x / 65536 ≤ 255 := by omega
    go_enter Try.func105, Try.ntmps105
    go_wp2
    simp [bodyPost, results, Try.results105, go_sem]
    obtain ⟨hl, l⟩ := len8_at (x / 65536) e0 e1
    have e : (x / 65536).toNat = x.toNat / 65536 := by omega
    have s := Lib.bitLen_shift16 x.toNat (by omega) (by omega)
    rw [e] at hl l
    rw [hl, s]
    exact len_two 16 16 _ rfl (by decide) l
  · have e0 : 0 ≤ x / 256 := by omega
    have e1 : x / 256 ≤ 255 := by omega
    go_enter Try.func105, Try.ntmps105
    go_wp2
    simp [bodyPost, results, Try.results105, go_sem]
    obtain ⟨hl, l⟩ := len8_at (x / 256) e0 e1
    have e : (x / 256).toNat = x.toNat / 256 := by omega
    have s := Lib.bitLen_shift8 x.toNat (by omega) (by omega)
    rw [e] at hl l
    rw [hl, s]
    exact len_two 8 8 _ rfl (by decide) l
  · go_enter Try.func105, Try.ntmps105
    go_wp2
    simp [bodyPost, results, Try.results105, go_sem]
    obtain ⟨hl, l⟩ := len8_at x h0 hb
    rw [hl]
    exact len_one _ l
/-- How many places a number is short of 64. -/
def lz (x : Int) : Nat := 64 - Lib.bitLen x.toNat
theorem bitLenAux_spec (f : Nat) : ∀ x : Nat, x < 2 ^ f → x < 2 ^ Lib.bitLenAux f x ∧ (x ≠ 0 → 2 ^ (Lib.bitLenAux f x - 1) ≤ x ∧ 1 ≤ Lib.bitLenAux f x) ∧ Lib.bitLenAux f x ≤ f := by
  induction f with
  | zero => intro x hx; simp at hx; subst hx; simp [Lib.bitLenAux]
  | succ f ih =>
    intro x hx
    obtain ⟨i1, i2, i3⟩ := ih (x / 2) (by rw [Nat.pow_succ] at hx; omega)
    unfold Lib.bitLenAux
    split
    · rename_i h; subst h; simp
    · rename_i h
      refine ⟨by rw [Nat.add_comm, Nat.pow_succ]; omega, fun _ => ⟨?_, by omega⟩, by omega⟩
      rw [show 1 + Lib.bitLenAux f (x / 2) - 1 = Lib.bitLenAux f (x / 2) from by omega]
      by_cases h2 : x / 2 = 0
      · rw [h2]
        have : Lib.bitLenAux f 0 = 0 := by cases f <;> simp [Lib.bitLenAux]
        rw [this]; simp; omega
      · obtain ⟨j1, j2⟩ := i2 h2
        have e : 2 ^ Lib.bitLenAux f (x / 2) = 2 ^ (Lib.bitLenAux f (x / 2) - 1) * 2 := by rw [← Nat.pow_succ]; congr 1; omega
        rw [e]; omega
theorem lz_spec (x : Int) (h0 : 1 ≤ x) (h1 : x ≤ 18446744073709551615) : lz x ≤ 63 ∧ 9223372036854775808 ≤ x * 2 ^ lz x ∧ x * 2 ^ lz x ≤ 18446744073709551615 ∧ (64 : Int) - (Lib.bitLen x.toNat : Int) = (lz x : Int) := by
  obtain ⟨n, rfl⟩ := Int.eq_ofNat_of_zero_le (show 0 ≤ x by omega)
  obtain ⟨i1, i2, i3⟩ := bitLenAux_spec 64 n (by omega)
  obtain ⟨i4, i5⟩ := i2 (by omega)
  have e : lz (n : Int) = 64 - Lib.bitLenAux 64 n := by unfold lz Lib.bitLen; simp
  have e' : Lib.bitLen (n : Int).toNat = Lib.bitLenAux 64 n := by unfold Lib.bitLen; simp
  rw [e, e']
  generalize Lib.bitLenAux 64 n = L at *
  have p : 2 ^ L * 2 ^ (64 - L) = 18446744073709551616 := by rw [← Nat.pow_add, show L + (64 - L) = 64 from by omega]
  have p2 : 2 ^ (L - 1) * 2 ^ (64 - L) = 9223372036854775808 := by rw [← Nat.pow_add, show L - 1 + (64 - L) = 63 from by omega]
  have q0 : 0 < 2 ^ (64 - L) := Nat.two_pow_pos _
  have a1 := Nat.mul_le_mul_right (2 ^ (64 - L)) i4
  have a2 := Nat.mul_lt_mul_of_pos_right i1 q0
  have c : (n : Int) * 2 ^ (64 - L) = ((n * 2 ^ (64 - L) : Nat) : Int) := by simp
  rw [c]
  refine ⟨by omega, by omega, by omega, by omega⟩
theorem cLz64 (x : Int) (w : World) (h0 : 1 ≤ x) (h1 : x ≤ 18446744073709551615) :
    Calls Try.prog 102 #[.int .u64 x] w fun e w' => e = .returned (.int .i64 (lz x)) ∧ w = w' := by
  have hs := (lz_spec x h0 h1).2.2.2
  have hl := (lz_spec x h0 h1).1
  go_enter Try.func102, Try.ntmps102
  go_wp2_with (go_at_call 105; refine (cLen64 _ _ (by omega) h1).mono ?_; rintro e w' ⟨rfl, rfl⟩)
  go_ret
  exact ⟨rfl, rfl⟩
/-! ### One digit of a long division -/
theorem mulB (q Y1 Y0 B : Int) : q * (Y1 * B + Y0) = q * Y1 * B + q * Y0 := by grind
theorem dg_bd (Y U d : Int) (h0 : 0 ≤ U) (h1 : U < Y) (d0 : 0 ≤ d) (d1 : d < 4294967296) : 0 ≤ (U * 4294967296 + d) / Y ∧ (U * 4294967296 + d) / Y < 4294967296 :=
  ⟨Int.ediv_nonneg (by omega) (by omega), Int.ediv_lt_of_lt_mul (by omega) (by omega)⟩
theorem dg_init (Y Y1 Y0 U d : Int) (hY : Y = Y1 * 4294967296 + Y0) (y1 : 2147483648 ≤ Y1) (z0 : 0 ≤ Y0) (z1 : Y0 < 4294967296) (h0 : 0 ≤ U) (h1 : U < Y) (d0 : 0 ≤ d) (d1 : d < 4294967296) :
    (U * 4294967296 + d) / Y ≤ U / Y1 ∧ U / Y1 ≤ 4294967297 ∧ 0 ≤ U / Y1 * Y1 ∧ U / Y1 * Y1 ≤ U ∧ U - U / Y1 * Y1 < Y1 := by
  obtain ⟨q0, q1⟩ := dg_bd Y U d h0 h1 d0 d1
  have e := Int.mul_ediv_add_emod (U * 4294967296 + d) Y
  have r0 := Int.emod_nonneg (U * 4294967296 + d) (show Y ≠ 0 by omega)
  generalize hq : (U * 4294967296 + d) / Y = q at *
  have f := Int.mul_ediv_add_emod U Y1
  have g0 := Int.emod_nonneg U (show Y1 ≠ 0 by omega)
  have g1 := Int.emod_lt_of_pos U (show 0 < Y1 by omega)
  rw [Int.mul_comm] at f
  have u0 : 0 ≤ U / Y1 := Int.ediv_nonneg h0 (by omega)
  have u1 : 0 ≤ U / Y1 * Y1 := Int.mul_nonneg u0 (by omega)
  refine ⟨?_, ?_, u1, by omega, by omega⟩
  · refine Int.le_ediv_of_mul_le (by omega) ?_
    have m := mulB q Y1 Y0 4294967296
    rw [← hY, Int.mul_comm] at m
    have m0 : 0 ≤ q * Y0 := Int.mul_nonneg q0 z0
    generalize q * Y1 = p at *
    omega
  · refine Int.le_of_lt_add_one (Int.ediv_lt_of_lt_mul (by omega) ?_)
    omega
theorem dg_test (Y Y1 Y0 U d q r : Int) (hY : Y = Y1 * 4294967296 + Y0) (_y1 : 2147483648 ≤ Y1) (_z0 : 0 ≤ Y0) (h0 : 0 ≤ U) (h1 : U < Y) (d0 : 0 ≤ d) (d1 : d < 4294967296)
    (hr : q * Y1 + r = U) (ht : 4294967296 ≤ q ∨ 4294967296 * r + d < q * Y0) : (U * 4294967296 + d) / Y ≤ q - 1 := by
  rcases ht with ht | ht
  · have := (dg_bd Y U d h0 h1 d0 d1).2
    omega
  · refine Int.le_sub_one_of_lt (Int.ediv_lt_of_lt_mul (by omega) ?_)
    have m := mulB q Y1 Y0 4294967296
    rw [← hY] at m
    generalize q * Y1 = p at *
    omega
theorem dg_exit (Y Y1 Y0 U d q r : Int) (hY : Y = Y1 * 4294967296 + Y0) (y1 : 2147483648 ≤ Y1) (z0 : 0 ≤ Y0)
    (hr : q * Y1 + r = U) (hq : (U * 4294967296 + d) / Y ≤ q) (_d0 : 0 ≤ d) (ht : q * Y0 ≤ 4294967296 * r + d) : q = (U * 4294967296 + d) / Y := by
  have : q ≤ (U * 4294967296 + d) / Y := by
    refine Int.le_ediv_of_mul_le (by omega) ?_
    have m := mulB q Y1 Y0 4294967296
    rw [← hY] at m
    generalize q * Y1 = p at *
    omega
  omega
theorem dg_break (Y Y1 Y0 U d q r : Int) (hY : Y = Y1 * 4294967296 + Y0) (y1 : 2147483648 ≤ Y1) (z0 : 0 ≤ Y0) (z1 : Y0 < 4294967296)
    (hr : q * Y1 + r = U) (hq : (U * 4294967296 + d) / Y ≤ q) (d0 : 0 ≤ d) (_q0 : 0 ≤ q) (q1 : q ≤ 4294967296) (ht : 4294967296 ≤ r) : q = (U * 4294967296 + d) / Y := by
  refine dg_exit Y Y1 Y0 U d q r hY y1 z0 hr hq d0 ?_
  have := Int.mul_le_mul q1 (show Y0 ≤ 4294967296 by omega) z0 (by omega)
  omega
theorem dg_prod (q Y0 : Int) (q0 : 0 ≤ q) (q1 : q < 4294967296) (z0 : 0 ≤ Y0) (z1 : Y0 < 4294967296) : 0 ≤ q * Y0 ∧ q * Y0 ≤ 18446744073709551615 := by
  refine ⟨Int.mul_nonneg q0 z0, ?_⟩
  have := Int.mul_le_mul (show q ≤ 4294967295 by omega) (show Y0 ≤ 4294967295 by omega) z0 (by omega)
  omega
/-- What is left behind a digit. -/
theorem dg_rest (Y U d : Int) (h0 : 0 ≤ U) (h1 : U < Y) (h2 : Y ≤ 18446744073709551615) :
    IntKind.u64.wrap (IntKind.u64.wrap (IntKind.u64.wrap (U * 4294967296) + d) - IntKind.u64.wrap ((U * 4294967296 + d) / Y * Y)) = (U * 4294967296 + d) % Y := by
  have e := Int.mul_ediv_add_emod (U * 4294967296 + d) Y
  have r0 := Int.emod_nonneg (U * 4294967296 + d) (show Y ≠ 0 by omega)
  have r1 := Int.emod_lt_of_pos (U * 4294967296 + d) (show 0 < Y by omega)
  rw [Int.mul_comm] at e
  simp only [IntKind.wrap_u64]
  generalize (U * 4294967296 + d) / Y * Y = p at *
  omega
theorem or_u64 (k : Nat) (x y : Int) (h : k ≤ 63) (hx : x % 2 ^ k = 0) (hx0 : 0 ≤ x) (hx1 : x ≤ 18446744073709551615) (hy0 : 0 ≤ y) (hy : y < 2 ^ k) : bits .or .u64 x y = x + y := by
  have e : ((2 ^ k : Nat) : Int) = (2 : Int) ^ k := by simp
  have : 2 ^ k ≤ 2 ^ 63 := Nat.pow_le_pow_right (by decide) h
  exact bits_join .u64 64 (by decide) (fun n a b => IntWalk.u64_in n (by omega)) k x y hx0 hx (by omega) hy0 hy (by omega)
/-- The words, moved up. -/
theorem shift_words (hi lo y : Int) (s : Nat) (hs : s ≤ 63) (h0 : 0 ≤ hi) (h1 : hi < y) (h2 : 0 ≤ lo) (h3 : lo ≤ 18446744073709551615) (hy : y * 2 ^ s ≤ 18446744073709551615) :
    bits .or .u64 (IntKind.u64.wrap (hi * 2 ^ s)) (lo / 2 ^ (64 - s)) * 18446744073709551616 + IntKind.u64.wrap (lo * 2 ^ s) = wv hi lo * 2 ^ s ∧
      0 ≤ bits .or .u64 (IntKind.u64.wrap (hi * 2 ^ s)) (lo / 2 ^ (64 - s)) ∧ bits .or .u64 (IntKind.u64.wrap (hi * 2 ^ s)) (lo / 2 ^ (64 - s)) < y * 2 ^ s := by
  have ps : (0 : Int) < 2 ^ s := Int.pow_pos (by decide)
  have pt : (0 : Int) < 2 ^ (64 - s) := Int.pow_pos (by decide)
  have pp : (2 : Int) ^ s * 2 ^ (64 - s) = 18446744073709551616 := by rw [← Int.pow_add, show s + (64 - s) = 64 from by omega]; rfl
  have b1 : hi * 2 ^ s + 2 ^ s ≤ y * 2 ^ s := by have := Int.mul_le_mul_of_nonneg_right (show hi + 1 ≤ y by omega) (Int.le_of_lt ps); rw [Int.add_mul] at this; omega
  have b0 : 0 ≤ hi * 2 ^ s := Int.mul_nonneg h0 (by omega)
  have e1 : IntKind.u64.wrap (hi * 2 ^ s) = hi * 2 ^ s := IntWalk.u64_in _ (by omega)
  have l0 : 0 ≤ lo / 2 ^ (64 - s) := Int.ediv_nonneg h2 (by omega)
  have l1 : lo / 2 ^ (64 - s) < 2 ^ s := Int.ediv_lt_of_lt_mul pt (by omega)
  have e2 := or_u64 s (hi * 2 ^ s) (lo / 2 ^ (64 - s)) hs (Int.mul_emod_left _ _) b0 (by omega) l0 l1
  rw [e1, e2]
  refine ⟨?_, by omega, by omega⟩
  have e3 : lo * 2 ^ s = lo / 2 ^ (64 - s) * 18446744073709551616 + lo % 2 ^ (64 - s) * 2 ^ s := by
    have := Int.mul_ediv_add_emod lo (2 ^ (64 - s))
    rw [← pp]; grind
  have m0 := Int.emod_nonneg lo (show (2 : Int) ^ (64 - s) ≠ 0 by omega)
  have m1 := Int.emod_lt_of_pos lo pt
  have m2 : 0 ≤ lo % 2 ^ (64 - s) * 2 ^ s := Int.mul_nonneg m0 (by omega)
  have m3 : lo % 2 ^ (64 - s) * 2 ^ s < 18446744073709551616 := by rw [← pp, Int.mul_comm (2 ^ s)]; exact Int.mul_lt_mul_of_pos_right m1 ps
  have e4 : IntKind.u64.wrap (lo * 2 ^ s) = lo % 2 ^ (64 - s) * 2 ^ s := by rw [IntKind.wrap_u64, e3]; omega
  have e5 : wv hi lo * 2 ^ s = hi * 2 ^ s * 18446744073709551616 + lo * 2 ^ s := by unfold wv; grind
  rw [e4, e5]; omega
/-- Both digits together. -/
theorem dg_both (V y P Y U L : Int) (hP : 0 < P) (hY : y * P = Y) (hy : 0 < y) (hV : U * 18446744073709551616 + L = V * P) (_hL0 : 0 ≤ L) (_hL1 : L ≤ 18446744073709551615) :
    (U * 4294967296 + L / 4294967296) / Y * 4294967296 + ((U * 4294967296 + L / 4294967296) % Y * 4294967296 + L % 4294967296) / Y = V / y ∧
      ((U * 4294967296 + L / 4294967296) % Y * 4294967296 + L % 4294967296) % Y / P = V % y := by
  have Y0 : 0 < Y := by rw [← hY]; exact Int.mul_pos hy hP
  have e1 := Int.mul_ediv_add_emod (U * 4294967296 + L / 4294967296) Y
  have e2 := Int.mul_ediv_add_emod ((U * 4294967296 + L / 4294967296) % Y * 4294967296 + L % 4294967296) Y
  have r0 := Int.emod_nonneg ((U * 4294967296 + L / 4294967296) % Y * 4294967296 + L % 4294967296) (show Y ≠ 0 by omega)
  have r1 := Int.emod_lt_of_pos ((U * 4294967296 + L / 4294967296) % Y * 4294967296 + L % 4294967296) Y0
  generalize (U * 4294967296 + L / 4294967296) / Y = q1 at *
  generalize (U * 4294967296 + L / 4294967296) % Y = u2 at *
  generalize (u2 * 4294967296 + L % 4294967296) / Y = q0 at *
  generalize (u2 * 4294967296 + L % 4294967296) % Y = r at *
  have k : V * P = (q1 * 4294967296 + q0) * y * P + r := by
    have : (q1 * 4294967296 + q0) * y * P = (Y * q1) * 4294967296 + Y * q0 := by rw [← hY]; grind
    rw [this, ← hV]; omega
  have k2 : r = (V - (q1 * 4294967296 + q0) * y) * P := by rw [Int.sub_mul]; omega
  generalize q1 * 4294967296 + q0 = q at *
  have k3 : 0 ≤ V - q * y := by
    rcases Int.lt_or_le (V - q * y) 0 with h | h
    · have := Int.mul_neg_of_neg_of_pos h hP; omega
    · exact h
  have k4 : V - q * y < y := by
    rcases Int.lt_or_le (V - q * y) y with h | h
    · exact h
    · have := Int.mul_le_mul_of_nonneg_right h (Int.le_of_lt hP); omega
  have e : V = (V - q * y) + y * q := by rw [Int.mul_comm]; omega
  generalize V - q * y = z at *
  rw [k2, Int.mul_ediv_cancel _ (by omega), e, Int.add_mul_ediv_left _ _ (by omega), Int.add_mul_emod_self_left, Int.ediv_eq_zero_of_lt k3 k4, Int.emod_eq_of_lt k3 k4]
  omega
set_option maxHeartbeats 1000000 in
theorem cDiv64 (hi lo y : Int) (w : World) (h0 : 0 ≤ hi) (h1 : hi < y) (h2 : 0 ≤ lo) (h3 : lo ≤ 18446744073709551615) (h4 : y ≤ 18446744073709551615) :
    Calls Try.prog 86 #[.int .u64 hi, .int .u64 lo, .int .u64 y] w fun e w' => e = .returned (.tuple #[.int .u64 (wv hi lo / y), .int .u64 (wv hi lo % y)]) ∧ Below w.heap.size w w' := by
  have y0 : 1 ≤ y := by omega
  have c0 : (y == 0) = false := by simp; omega
  by_cases z : hi = 0
  · subst z
    have hv : wv 0 lo = lo := by unfold wv; omega
    rw [hv]
    have q0 : 0 ≤ lo / y ∧ lo / y ≤ lo := IntWalk.tdiv_le lo y h2 y0
    obtain ⟨q1, q2⟩ := q0
    go_enter Try.func86, Try.ntmps86
    go_wp2
    go_quiet (fail)
    go_wp2
    go_ret2
    exact ⟨rfl, by (repeat (first | exact Below.refl _ _ | assumption | apply Below.drew | apply below_drewN | refine below_alloc ?_ _ | refine below_step ?_ (by assumption) | refine Below.alloc ?_ (by first | exact Nat.le_refl _ | omega | (simp; omega) | simp) _ | refine Below.setCell ?_ (by first | exact Nat.le_refl _ | omega | (simp; omega) | simp) _))⟩
  · have c1 : (hi == 0) = false := by simp [z]
    obtain ⟨s0, s1, s2, -⟩ := lz_spec y y0 h4
    obtain ⟨t1, t2, t3⟩ := shift_words hi lo y (lz y) s0 h0 h1 h2 h3 s2
    have ps : (0 : Int) < 2 ^ lz y := Int.pow_pos (by decide)
    have tL0 := u64w_lo (lo * 2 ^ lz y)
    have tL1 := u64w_hi (lo * 2 ^ lz y)
    obtain ⟨Y, hY⟩ : ∃ Y, y * 2 ^ lz y = Y := ⟨_, rfl⟩
    obtain ⟨U, hU⟩ : ∃ U, bits .or .u64 (IntKind.u64.wrap (hi * 2 ^ lz y)) (lo / 2 ^ (64 - lz y)) = U := ⟨_, rfl⟩
    obtain ⟨L, hL⟩ : ∃ L, IntKind.u64.wrap (lo * 2 ^ lz y) = L := ⟨_, rfl⟩
    rw [hU, hL] at t1
    rw [hU] at t2
    rw [hU, hY] at t3
    rw [hL] at tL0 tL1
    rw [hY] at s1 s2
    have HB := Lib.hid (dg_both (wv hi lo) y (2 ^ lz y) Y U L ps hY (by omega) t1 tL0 tL1)
    have aY := and_low32 Y (by omega) (by omega)
    have aL := and_low32 L tL0 (by omega)
    obtain ⟨Y1, hY1⟩ : ∃ Y1, Y / 4294967296 = Y1 := ⟨_, rfl⟩
    obtain ⟨Y0, hY0⟩ : ∃ Y0, Y % 4294967296 = Y0 := ⟨_, rfl⟩
    obtain ⟨D1, hD1⟩ : ∃ D1, L / 4294967296 = D1 := ⟨_, rfl⟩
    obtain ⟨D0, hD0⟩ : ∃ D0, L % 4294967296 = D0 := ⟨_, rfl⟩
    rw [hY0] at aY
    rw [hD0] at aL
    have bY : Y = Y1 * 4294967296 + Y0 := by omega
    have b1 : 2147483648 ≤ Y1 := by omega
    have b2 : Y1 < 4294967296 := by omega
    have b3 : 0 ≤ Y0 := by omega
    have b4 : Y0 < 4294967296 := by omega
    have b5 : 0 ≤ D1 := by omega
    have b6 : D1 < 4294967296 := by omega
    have b7 : 0 ≤ D0 := by omega
    have b8 : D0 < 4294967296 := by omega
    rw [hD1, hD0] at HB
    obtain ⟨i1, i2, i3, i4, i5⟩ := dg_init Y Y1 Y0 U D1 bY b1 b3 b4 t2 t3 b5 b6
    have d1 := dg_rest Y U D1 t2 t3 s2
    have e1 := Int.emod_nonneg (U * 4294967296 + D1) (show Y ≠ 0 by omega)
    have e2 := Int.emod_lt_of_pos (U * 4294967296 + D1) (show 0 < Y by omega)
    obtain ⟨j1, j2⟩ := dg_bd Y U D1 t2 t3 b5 b6
    obtain ⟨Q1, hQ1⟩ : ∃ Q1, (U * 4294967296 + D1) / Y = Q1 := ⟨_, rfl⟩
    obtain ⟨V, hV⟩ : ∃ V, (U * 4294967296 + D1) % Y = V := ⟨_, rfl⟩
    rw [hQ1] at HB i1 d1 j1 j2
    rw [hV] at HB d1 e1 e2
    obtain ⟨k1, k2, k3, k4, k5⟩ := dg_init Y Y1 Y0 V D0 bY b1 b3 b4 e1 e2 b7 b8
    have d2 := dg_rest Y V D0 e1 e2 s2
    obtain ⟨l1, l2⟩ := dg_bd Y V D0 e1 e2 b7 b8
    have g1 := Int.emod_nonneg (V * 4294967296 + D0) (show Y ≠ 0 by omega)
    have g2 := Int.emod_lt_of_pos (V * 4294967296 + D0) (show 0 < Y by omega)
    obtain ⟨Q0, hQ0⟩ : ∃ Q0, (V * 4294967296 + D0) / Y = Q0 := ⟨_, rfl⟩
    obtain ⟨R, hR⟩ : ∃ R, (V * 4294967296 + D0) % Y = R := ⟨_, rfl⟩
    rw [hQ0] at HB k1 d2 l1 l2
    rw [hR] at HB d2 g1 g2
    have HI1 := Lib.hid i1
    have HK1 := Lib.hid k1
    have HBY := Lib.hid bY
    have HQ1 := Lib.hid hQ1
    have HQ0 := Lib.hid hQ0
    have HV := Lib.hid hV
    have HR := Lib.hid hR
    have HY0 := Lib.hid hY0
    have HD0 := Lib.hid hD0
    clear hQ1 hQ0 hV hR hY0 hD0 bY i1 k1 t1
    go_enter Try.func86, Try.ntmps86
    go_upto_block 0 with (go_at_call 102; refine (cLz64 _ _ (by omega) h4).mono ?_; rintro e w' ⟨rfl, rfl⟩)
    go_cut [15] (fun a wx => a = .int .u64 Q1 ∧ wx = w)
    case first =>
      go_wp2_with fail
      go_loopw [15, 16] (fun a b wx => ∃ q r : Int, a = .int .u64 q ∧ b = .int .u64 r ∧ wx = w ∧ 0 ≤ q ∧ q ≤ 4294967297 ∧ 0 ≤ r ∧ r < 4294967296 ∧ Hid (q * Y1 + r = U) ∧ Hid (Q1 ≤ q)) (fun a _ _ => (RowKit.intOf a).toNat)
      case atStart =>
        exact ⟨_, _, rfl, rfl, rfl, Int.ediv_nonneg (by omega) (by omega), by omega, by omega, by omega, Lib.hid (by omega), Lib.hid HI1.out⟩
      case round =>
        obtain ⟨q, r, rfl, rfl, hw, q0, q1, r0, r1, HS, HQ⟩ := hrel
        subst hw
        by_cases hA : 4294967296 ≤ q
        · have HT := dg_test Y Y1 Y0 U D1 q r HBY.out b1 b3 (by omega) (by omega) (by omega) (by omega) HS.out (Or.inl hA)
          by_cases hb : 4294967296 ≤ r + Y1
          · go_wp2_with fail
            go_meet
            case rel => exact ⟨by rw [← HQ1.out, ← dg_break Y Y1 Y0 U D1 (q - 1) (r + Y1) HBY.out b1 b3 b4 (by rw [Int.sub_mul]; have := HS.out; omega) HT (by omega) (by omega) (by omega) hb], rfl⟩
          · go_wp2_with fail
            refine ⟨⟨q - 1, r + Y1, rfl, rfl, (by first | rfl | trivial), by omega, by omega, by omega, by omega, Lib.hid (by rw [Int.sub_mul]; have := HS.out; omega), Lib.hid (by rw [← HQ1.out]; exact HT)⟩, by simp [RowKit.intOf]; omega⟩
        · obtain ⟨p0, p1⟩ := dg_prod q Y0 q0 (by omega) b3 b4
          by_cases hC : 4294967296 * r + D1 < q * Y0
          · have HT := dg_test Y Y1 Y0 U D1 q r HBY.out b1 b3 (by omega) (by omega) (by omega) (by omega) HS.out (Or.inr hC)
            have q2 : 1 ≤ q := by rcases Int.lt_or_le 0 q with h | h <;> first | omega | (exfalso; obtain rfl : q = 0 := (by omega); omega)
            by_cases hb : 4294967296 ≤ r + Y1
            · go_wp2_with fail
              go_meet
              case rel => exact ⟨by rw [← HQ1.out, ← dg_break Y Y1 Y0 U D1 (q - 1) (r + Y1) HBY.out b1 b3 b4 (by rw [Int.sub_mul]; have := HS.out; omega) HT (by omega) (by omega) (by omega) hb], rfl⟩
            · go_wp2_with fail
              refine ⟨⟨q - 1, r + Y1, rfl, rfl, (by first | rfl | trivial), by omega, by omega, by omega, by omega, Lib.hid (by rw [Int.sub_mul]; have := HS.out; omega), Lib.hid (by rw [← HQ1.out]; exact HT)⟩, by simp [RowKit.intOf]; omega⟩
          · go_wp2_with fail
            go_meet
            case rel => exact ⟨by rw [← HQ1.out, ← dg_exit Y Y1 Y0 U D1 q r HBY.out b1 b3 HS.out (by rw [HQ1.out]; exact HQ.out) (by omega) (by omega)], rfl⟩
    case rest =>
      obtain ⟨rfl, rfl⟩ := hcut
      go_upto_block 2 with (fail)
      go_cut [18] (fun a wx => a = .int .u64 Q0 ∧ wx = wc)
      case first =>
        go_wp2_with fail
        go_loopw [18, 16] (fun a b wx => ∃ q r : Int, a = .int .u64 q ∧ b = .int .u64 r ∧ wx = wc ∧ 0 ≤ q ∧ q ≤ 4294967297 ∧ 0 ≤ r ∧ r < 4294967296 ∧ Hid (q * Y1 + r = V) ∧ Hid (Q0 ≤ q)) (fun a _ _ => (RowKit.intOf a).toNat)
        case atStart =>
          exact ⟨_, _, rfl, rfl, rfl, Int.ediv_nonneg (by omega) (by omega), by omega, by omega, by omega, Lib.hid (by omega), Lib.hid HK1.out⟩
        case round =>
          obtain ⟨q, r, rfl, rfl, hw, q0, q1, r0, r1, HS, HQ⟩ := hrel
          subst hw
          by_cases hA : 4294967296 ≤ q
          · have HT := dg_test Y Y1 Y0 V D0 q r HBY.out b1 b3 (by omega) (by omega) (by omega) (by omega) HS.out (Or.inl hA)
            by_cases hb : 4294967296 ≤ r + Y1
            · go_wp2_with fail
              go_meet
              case rel => exact ⟨by rw [← HQ0.out, ← dg_break Y Y1 Y0 V D0 (q - 1) (r + Y1) HBY.out b1 b3 b4 (by rw [Int.sub_mul]; have := HS.out; omega) HT (by omega) (by omega) (by omega) hb], rfl⟩
            · go_wp2_with fail
              refine ⟨⟨q - 1, r + Y1, rfl, rfl, (by first | rfl | trivial), by omega, by omega, by omega, by omega, Lib.hid (by rw [Int.sub_mul]; have := HS.out; omega), Lib.hid (by rw [← HQ0.out]; exact HT)⟩, by simp [RowKit.intOf]; omega⟩
          · obtain ⟨p0, p1⟩ := dg_prod q Y0 q0 (by omega) b3 b4
            by_cases hC : 4294967296 * r + D0 < q * Y0
            · have HT := dg_test Y Y1 Y0 V D0 q r HBY.out b1 b3 (by omega) (by omega) (by omega) (by omega) HS.out (Or.inr hC)
              have q2 : 1 ≤ q := by rcases Int.lt_or_le 0 q with h | h <;> first | omega | (exfalso; obtain rfl : q = 0 := (by omega); omega)
              by_cases hb : 4294967296 ≤ r + Y1
              · go_wp2_with fail
                go_meet
                case rel => exact ⟨by rw [← HQ0.out, ← dg_break Y Y1 Y0 V D0 (q - 1) (r + Y1) HBY.out b1 b3 b4 (by rw [Int.sub_mul]; have := HS.out; omega) HT (by omega) (by omega) (by omega) hb], rfl⟩
              · go_wp2_with fail
                refine ⟨⟨q - 1, r + Y1, rfl, rfl, (by first | rfl | trivial), by omega, by omega, by omega, by omega, Lib.hid (by rw [Int.sub_mul]; have := HS.out; omega), Lib.hid (by rw [← HQ0.out]; exact HT)⟩, by simp [RowKit.intOf]; omega⟩
            · go_wp2_with fail
              go_meet
              case rel => exact ⟨by rw [← HQ0.out, ← dg_exit Y Y1 Y0 V D0 q r HBY.out b1 b3 HS.out (by rw [HQ0.out]; exact HQ.out) (by omega) (by omega)], rfl⟩
      case rest =>
        obtain ⟨rfl, rfl⟩ := hcut
        go_wp2
        go_ret2
        exact ⟨by rw [HB.out.1, HB.out.2]; rfl, by (repeat (first | exact Below.refl _ _ | assumption | apply Below.drew | apply below_drewN | refine below_alloc ?_ _ | refine below_step ?_ (by assumption) | refine Below.alloc ?_ (by first | exact Nat.le_refl _ | omega | (simp; omega) | simp) _ | refine Below.setCell ?_ (by first | exact Nat.le_refl _ | omega | (simp; omega) | simp) _))⟩
end Go.Proofs.Ytjpkkpflamkjkaa
