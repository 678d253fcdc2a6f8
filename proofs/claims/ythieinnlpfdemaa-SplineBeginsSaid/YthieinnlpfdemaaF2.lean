/- Contracts of package fx, continued: Neg, Abs, Of, Floor, Clamp, Div, Ratio. -/
import Derived.Test.YthieinnlpfdemaaF1
set_option linter.unusedSimpArgs false
set_option linter.unusedVariables false
namespace Go.Proofs.Ythieinnlpfdemaa
open Go.RowKit

theorem cFNeg (y : Int) (b : Nat) (o : Bool) (w : World) (y0 : -9223372036854775808 ≤ y) (y1 : y ≤ 9223372036854775807)
    (hc : w.cell? ⟨b, 0, none⟩ = some (.bool o)) (hf : w.frozen? ⟨b, 0, none⟩ = false) :
    Calls Try.prog 50 #[.pointer (some ⟨b, 0, none⟩), .int .i64 y] w fun e w' => e = .returned (.int .i64 (sat (-y))) ∧ Mv b (o || !fx (-y)) w w' := by
  go_enter Try.func50, Try.ntmps50
  go_wp2_with (go_at_call 38; refine (cFSub 0 y b o _ (by decide) (by decide) y0 y1 hc hf).mono ?_; rintro e w1 ⟨rfl, hM⟩)
  go_ret
  rw [Int.zero_sub] at hM
  exact ⟨by rw [← Int.zero_sub]; rfl, hM⟩
theorem cFAbs (y : Int) (b : Nat) (o : Bool) (w : World) (y0 : -9223372036854775808 ≤ y) (y1 : y ≤ 9223372036854775807)
    (hc : w.cell? ⟨b, 0, none⟩ = some (.bool o)) (hf : w.frozen? ⟨b, 0, none⟩ = false) :
    Calls Try.prog 24 #[.pointer (some ⟨b, 0, none⟩), .int .i64 y] w fun e w' => e = .returned (.int .i64 (sat y.natAbs)) ∧ Mv b (o || !fx y.natAbs) w w' := by
  rcases Int.lt_or_le y 0 with h | h
  · have e : ((y.natAbs : Nat) : Int) = -y := by omega
    rw [e]
    go_enter Try.func24, Try.ntmps24
    go_wp2_with (go_at_call 50; refine (cFNeg y b o _ y0 y1 hc hf).mono ?_; rintro e w1 ⟨rfl, hM⟩)
    go_ret
    exact ⟨rfl, hM⟩
  · have e : ((y.natAbs : Nat) : Int) = y := by omega
    have e2 : fx y = true := (fx_iff y).2 ⟨y0, y1⟩
    rw [e, sat_id y y0 y1, e2]
    have hM := Mv.refl hc hf
    go_enter Try.func24, Try.ntmps24
    go_wp2
    go_ret
    exact ⟨rfl, by simpa using hM⟩
/-- A number, kept from low to high. -/
def clm (a low high : Int) : Int := if a < low then low else if high < a then high else a
/-- A quotient of numbers, or the nearer bound; by 0: the bound on the number's side, 0 of 0. -/
def fq (x y : Int) : Int := if y = 0 then (if x = 0 then 0 else bnd (decide (x < 0))) else sat (rdiv (x * 4294967296) y)
/-- Does it fit? -/
def fqok (x y : Int) : Bool := !decide (y = 0) && fx (rdiv (x * 4294967296) y)
end Go.Proofs.Ythieinnlpfdemaa
