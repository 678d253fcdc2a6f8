/- Contracts of package fx, continued: Neg, Abs, Of, Floor, Clamp, Div, Ratio. -/
import Derived.Test.YtjpkkpflamkjkaaF1
set_option linter.unusedSimpArgs false
set_option linter.unusedVariables false
namespace Go.Proofs.Ytjpkkpflamkjkaa
open Go.RowKit

theorem cFNeg (y : Int) (b : Nat) (o : Bool) (w : World) (y0 : -9223372036854775808 ≤ y) (y1 : y ≤ 9223372036854775807)
    (hc : w.cell? ⟨b, 0, none⟩ = some (.bool o)) (hf : w.frozen? ⟨b, 0, none⟩ = false) :
    Calls Try.prog 60 #[.pointer (some ⟨b, 0, none⟩), .int .i64 y] w fun e w' => e = .returned (.int .i64 (sat (-y))) ∧ Mv b (o || !fx (-y)) w w' := by
  go_enter Try.func60, Try.ntmps60
  go_wp2_with (go_at_call 22; refine (cFSub 0 y b o _ (by decide) (by decide) y0 y1 hc hf).mono ?_; rintro e w1 ⟨rfl, hM⟩)
  go_ret
  rw [Int.zero_sub] at hM
  exact ⟨by rw [← Int.zero_sub]; rfl, hM⟩
theorem cFAbs (y : Int) (b : Nat) (o : Bool) (w : World) (y0 : -9223372036854775808 ≤ y) (y1 : y ≤ 9223372036854775807)
    (hc : w.cell? ⟨b, 0, none⟩ = some (.bool o)) (hf : w.frozen? ⟨b, 0, none⟩ = false) :
    Calls Try.prog 24 #[.pointer (some ⟨b, 0, none⟩), .int .i64 y] w fun e w' => e = .returned (.int .i64 (sat y.natAbs)) ∧ Mv b (o || !fx y.natAbs) w w' := by
  rcases Int.lt_or_le y 0 with h | h
  · have e : ((y.natAbs : Nat) : Int) = -y := by omega
    rw [e]
    go_enter Try.func24, Try.ntmps24
    go_wp2_with (go_at_call 60; refine (cFNeg y b o _ y0 y1 hc hf).mono ?_; rintro e w1 ⟨rfl, hM⟩)
    go_ret
    exact ⟨rfl, hM⟩
  · have e : ((y.natAbs : Nat) : Int) = y := by omega
    have e2 : fx y = true := (fx_iff y).2 ⟨y0, y1⟩
    rw [e, sat_id y y0 y1, e2]
    have hM := Mv.refl hc hf
    go_enter Try.func24, Try.ntmps24
    go_wp2
    go_ret
    exact ⟨rfl, by simpa using hM⟩
/-- A number, kept from low to high. -/
def clm (a low high : Int) : Int := if a < low then low else if high < a then high else a
theorem cFClamp (a low high : Int) (w : World) : Calls Try.prog 53 #[.int .i64 a, .int .i64 low, .int .i64 high] w fun e w' => e = .returned (.int .i64 (clm a low high)) ∧ w = w' := by
  by_cases h1 : a < low
  · have E : Hid (clm a low high = low) := Lib.hid (by unfold clm; rw [if_pos h1])
    go_enter Try.func53, Try.ntmps53
    go_wp2
    go_ret
    exact ⟨by rw [E.out]; rfl, rfl⟩
  · by_cases h2 : high < a
    · have E : Hid (clm a low high = high) := Lib.hid (by unfold clm; rw [if_neg h1, if_pos h2])
      go_enter Try.func53, Try.ntmps53
      go_wp2
      go_ret
      exact ⟨by rw [E.out]; rfl, rfl⟩
    · have E : Hid (clm a low high = a) := Lib.hid (by unfold clm; rw [if_neg h1, if_neg h2])
      go_enter Try.func53, Try.ntmps53
      go_wp2
      go_ret
      exact ⟨by rw [E.out]; rfl, rfl⟩
/-- A quotient of numbers, or the nearer bound; by 0: the bound on the number's side, 0 of 0. -/
def fq (x y : Int) : Int := if y = 0 then (if x = 0 then 0 else bnd (decide (x < 0))) else sat (rdiv (x * 4294967296) y)
/-- Does it fit? -/
def fqok (x y : Int) : Bool := !decide (y = 0) && fx (rdiv (x * 4294967296) y)
theorem cNought (x : Int) (b : Nat) (o : Bool) (w : World) (hc : w.cell? ⟨b, 0, none⟩ = some (.bool o)) (hf : w.frozen? ⟨b, 0, none⟩ = false) :
    Calls Try.prog 72 #[.pointer (some ⟨b, 0, none⟩), .int .i64 x] w fun e w' => e = .returned (.int .i64 (fq x 0)) ∧ Mv b true w w' := by
  by_cases h : x = 0
  · subst h
    go_enter Try.func72, Try.ntmps72
    go_wp2_with (go_at_call 58; refine (cBound b o _ _ hc hf).mono ?_; rintro e w1 ⟨rfl, hM⟩)
    go_ret
    exact ⟨rfl, hM⟩
  · have h2 : (x == 0) = false := by simpa using h
    have E : Hid (fq x 0 = bnd (decide (x < 0))) := Lib.hid (by unfold fq; rw [if_pos rfl, if_neg h])
    go_enter Try.func72, Try.ntmps72
    go_wp2_with (go_at_call 58; refine (cBound b o _ _ hc hf).mono ?_; rintro e w1 ⟨rfl, hM⟩)
    go_ret
    exact ⟨by rw [E.out]; rfl, hM⟩
theorem sh_hw (x : Int) : x / 4294967296 = hw (x * 4294967296) := by unfold hw; omega
theorem sh_lw (x : Int) : IntKind.u64.wrap (IntKind.u64.wrap x * 4294967296) = lw (x * 4294967296) := by simp only [IntKind.wrap_u64]; unfold lw; omega
theorem qn_bd (N D : Int) (hN : 0 ≤ N) (hD : 0 < D) : 0 ≤ qn N D := by
  have := Int.ediv_nonneg hN (Int.le_of_lt hD)
  unfold qn; split <;> omega
theorem rdiv_sign (x y : Int) (hy : y ≠ 0) (h : fx (rdiv (x * 4294967296) y) = false) : bnd (decide (x < 0) != decide (y < 0)) = sat (rdiv (x * 4294967296) y) := by
  have q0 := qn_bd ((x * 4294967296).natAbs : Int) (y.natAbs : Int) (by omega) (by omega)
  unfold rdiv at h ⊢
  have e : decide (x * 4294967296 < 0) = decide (x < 0) := by rw [decide_eq_decide]; omega
  rw [e] at h ⊢
  generalize qn ((x * 4294967296).natAbs : Int) (y.natAbs : Int) = q at *
  generalize (decide (x < 0) != decide (y < 0)) = g at *
  cases g with
  | true =>
    rw [if_pos rfl] at h ⊢
    unfold fx at h
    unfold bnd sat
    simp at h
    rw [if_pos rfl, if_pos (by omega)]
  | false =>
    rw [if_neg (by simp)] at h ⊢
    unfold fx at h
    unfold bnd sat
    simp at h
    rw [if_neg (by simp), if_neg (by omega), if_pos (by omega)]
theorem cFDiv (x y : Int) (b : Nat) (o : Bool) (w : World) (x0 : -9223372036854775808 ≤ x) (x1 : x ≤ 9223372036854775807) (y0 : -9223372036854775808 ≤ y) (y1 : y ≤ 9223372036854775807)
    (hc : w.cell? ⟨b, 0, none⟩ = some (.bool o)) (hf : w.frozen? ⟨b, 0, none⟩ = false) :
    Calls Try.prog 48 #[.pointer (some ⟨b, 0, none⟩), .int .i64 x, .int .i64 y] w fun e w' => e = .returned (.int .i64 (fq x y)) ∧ Mv b (o || !fqok x y) w w' := by
  by_cases hy : y = 0
  · subst hy
    go_enter Try.func48, Try.ntmps48
    go_wp2_with (go_at_call 72; refine (cNought x b o _ hc hf).mono ?_; rintro e w1 ⟨rfl, hM⟩)
    go_ret
    exact ⟨rfl, by simpa [fqok] using hM⟩
  · have hy2 : (y == 0) = false := by simpa using hy
    have e1 := sh_hw x
    have e2 := sh_lw x
    cases hq : fx (rdiv (x * 4294967296) y) with
    | true =>
      have k1 : dok (x * 4294967296) y = true := by unfold dok; simp [hy, hq]
      have k2 : dq (x * 4294967296) y = fq x y := by unfold dq fq; rw [k1, if_neg hy, sat_id _ ((fx_iff _).1 hq).1 ((fx_iff _).1 hq).2]; rfl
      have k3 : fqok x y = true := by unfold fqok; simp [hy, hq]
      rw [k3]
      clear hq k3
      go_enter Try.func48, Try.ntmps48
      go_wp2_with fail; refine (nWDiv _ _ _ (by omega) (by omega) (by omega) (by omega)).mono ?_; rintro e w1 ⟨rfl, hB1⟩
      go_wp2_with fail
      go_ret
      exact ⟨rfl, by simp; exact (Mv.refl hc hf).below hB1⟩
    | false =>
      have k1 : dok (x * 4294967296) y = false := by unfold dok; simp [hq]
      have k2 : dq (x * 4294967296) y = 0 := by unfold dq; rw [k1]; rfl
      have k3 : fqok x y = false := by unfold fqok; simp [hq]
      have E : Hid (fq x y = bnd (decide (x < 0) != decide (y < 0))) := Lib.hid (by rw [rdiv_sign x y hy hq]; unfold fq; rw [if_neg hy])
      rw [k3]
      clear hq k3
      go_enter Try.func48, Try.ntmps48
      go_wp2_with fail; refine (nWDiv _ _ _ (by omega) (by omega) (by omega) (by omega)).mono ?_; rintro e w1 ⟨rfl, hB1⟩
      have HM := (Mv.refl hc hf).below hB1
      clear hc hf hB1
      have hc := HM.cell
      have hf := HM.free
      go_wp2_with fail
      refine (cBound b o _ _ hc hf).mono ?_
      rintro e w4 ⟨rfl, hM⟩
      go_wp2_with fail
      go_ret
      exact ⟨by rw [E.out]; rfl, by simp; exact HM.trans hM⟩
end Go.Proofs.Ytjpkkpflamkjkaa
