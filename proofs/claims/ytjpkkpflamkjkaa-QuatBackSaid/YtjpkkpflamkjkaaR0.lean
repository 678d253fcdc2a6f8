/- Contracts of package chicaneref02: sums, signs, whole numbers. -/
import Derived.Test.YtjpkkpflamkjkaaF2
set_option linter.unusedSimpArgs false
set_option linter.unusedVariables false
namespace Go.Proofs.Ytjpkkpflamkjkaa
open Go.RowKit
theorem rBound (b : Nat) (o neg : Bool) (w : World) (hc : w.cell? ⟨b, 0, none⟩ = some (.bool o)) (hf : w.frozen? ⟨b, 0, none⟩ = false) :
    Calls Try.prog 68 #[.pointer (some ⟨b, 0, none⟩), .bool neg] w fun e w' => e = .returned (.int .i64 (bnd neg)) ∧ Mv b true w w' := by
  have HM := Mv.note (Mv.refl hc hf) true
  cases neg
  · go_enter Try.func68, Try.ntmps68
    go_wp2
    go_ret
    exact ⟨rfl, HM⟩
  · go_enter Try.func68, Try.ntmps68
    go_wp2
    go_ret
    exact ⟨rfl, HM⟩
theorem sat_up (n : Int) (h : 9223372036854775807 < n) : bnd false = sat n ∧ fx n = false := by
  refine ⟨?_, ?_⟩
  · unfold sat bnd; rw [if_neg (by decide)]; split <;> (try split) <;> omega
  · unfold fx; simp; omega
theorem sat_dn (n : Int) (h : n < -9223372036854775808) : bnd true = sat n ∧ fx n = false := by
  refine ⟨?_, ?_⟩
  · unfold sat bnd; rw [if_pos rfl]; split <;> (try split) <;> omega
  · unfold fx; simp; omega
theorem sat_in (n : Int) (h0 : -9223372036854775808 ≤ n) (h1 : n ≤ 9223372036854775807) : n = sat n ∧ fx n = true := ⟨(sat_id n h0 h1).symm, by rw [fx_iff]; exact ⟨h0, h1⟩⟩
/-- A size with its sign. -/
def sg (neg : Bool) (n : Int) : Int := if neg = true then -n else n
theorem rSigned (neg : Bool) (n : Int) (b : Nat) (o : Bool) (w : World) (n0 : 0 ≤ n) (n1 : n ≤ 18446744073709551615) (hc : w.cell? ⟨b, 0, none⟩ = some (.bool o)) (hf : w.frozen? ⟨b, 0, none⟩ = false) :
    Calls Try.prog 69 #[.pointer (some ⟨b, 0, none⟩), .bool neg, .int .u64 n] w fun e w' => e = .returned (.int .i64 (sat (sg neg n))) ∧ Mv b (o || !fx (sg neg n)) w w' := by
  cases neg with
  | true =>
    rcases (show n = 9223372036854775808 ∨ n ≤ 9223372036854775807 ∨ 9223372036854775808 < n from by omega) with h | h | h
    · subst h
      have e1 : sat (sg true 9223372036854775808) = -9223372036854775808 := by decide
      have e2 : fx (sg true 9223372036854775808) = true := by decide
      rw [e1, e2]
      go_enter Try.func69, Try.ntmps69
      go_wp2
      go_ret
      exact ⟨rfl, by simpa using Mv.refl hc hf⟩
    · obtain ⟨e1, e2⟩ := sat_in (-n) (by omega) (by omega)
      have e3 : sg true n = -n := rfl
      rw [e3, ← e1, e2]
      clear e1 e2 e3
      have h1 : (n == 9223372036854775808) = false := by simp; omega
      have h2 : ¬ 9223372036854775807 < n := by omega
      go_enter Try.func69, Try.ntmps69
      go_wp2
      go_ret
      exact ⟨rfl, by simpa using Mv.refl hc hf⟩
    · obtain ⟨e1, e2⟩ := sat_dn (-n) (by omega)
      have e3 : sg true n = -n := rfl
      rw [e3, ← e1, e2]
      clear e1 e2 e3
      have h1 : (n == 9223372036854775808) = false := by simp; omega
      have h2 : 9223372036854775807 < n := by omega
      go_enter Try.func69, Try.ntmps69
      go_wp2_with (go_at_call 68; refine (rBound b o _ _ hc hf).mono ?_; rintro e w1 ⟨rfl, hM⟩)
      go_ret
      exact ⟨rfl, by simpa using hM⟩
  | false =>
    rcases (show n ≤ 9223372036854775807 ∨ 9223372036854775807 < n from by omega) with h | h
    · obtain ⟨e1, e2⟩ := sat_in n (by omega) (by omega)
      have e3 : sg false n = n := rfl
      rw [e3, ← e1, e2]
      clear e1 e2 e3
      have h2 : ¬ 9223372036854775807 < n := by omega
      go_enter Try.func69, Try.ntmps69
      go_wp2
      go_ret
      exact ⟨rfl, by simpa using Mv.refl hc hf⟩
    · obtain ⟨e1, e2⟩ := sat_up n (by omega)
      have e3 : sg false n = n := rfl
      rw [e3, ← e1, e2]
      clear e1 e2 e3
      go_enter Try.func69, Try.ntmps69
      go_wp2_with (go_at_call 68; refine (rBound b o _ _ hc hf).mono ?_; rintro e w1 ⟨rfl, hM⟩)
      go_ret
      exact ⟨rfl, by simpa using hM⟩
theorem rFAdd (x y : Int) (b : Nat) (o : Bool) (w : World) (x0 : -9223372036854775808 ≤ x) (x1 : x ≤ 9223372036854775807) (y0 : -9223372036854775808 ≤ y) (y1 : y ≤ 9223372036854775807)
    (hc : w.cell? ⟨b, 0, none⟩ = some (.bool o)) (hf : w.frozen? ⟨b, 0, none⟩ = false) :
    Calls Try.prog 37 #[.pointer (some ⟨b, 0, none⟩), .int .i64 x, .int .i64 y] w fun e w' => e = .returned (.int .i64 (sat (x + y))) ∧ Mv b (o || !fx (x + y)) w w' := by
  rcases (show 9223372036854775807 < x + y ∨ x + y < -9223372036854775808 ∨ (-9223372036854775808 ≤ x + y ∧ x + y ≤ 9223372036854775807) from by omega) with h | h | ⟨h, h'⟩
  · obtain ⟨e1, e2⟩ := sat_up _ h
    rw [← e1, e2]
    clear e1 e2
    have k1 : 0 < y := by omega
    have k2 : 9223372036854775807 - y < x := by omega
    go_enter Try.func37, Try.ntmps37
    go_wp2_with (go_at_call 68; refine (rBound b o _ _ hc hf).mono ?_; rintro e w1 ⟨rfl, hM⟩)
    go_ret
    exact ⟨rfl, by simpa using hM⟩
  · obtain ⟨e1, e2⟩ := sat_dn _ h
    rw [← e1, e2]
    clear e1 e2
    have k1 : ¬ 0 < y := by omega
    have k3 : y < 0 := by omega
    have k2 : x < -9223372036854775808 - y := by omega
    go_enter Try.func37, Try.ntmps37
    go_wp2_with (go_at_call 68; refine (rBound b o _ _ hc hf).mono ?_; rintro e w1 ⟨rfl, hM⟩)
    go_ret
    exact ⟨rfl, by simpa using hM⟩
  · obtain ⟨e1, e2⟩ := sat_in _ h h'
    rw [← e1, e2]
    clear e1 e2
    rcases (show y < 0 ∨ y = 0 ∨ 0 < y from by omega) with k | k | k
    · have k1 : ¬ 0 < y := by omega
      have k2 : ¬ x < -9223372036854775808 - y := by omega
      go_enter Try.func37, Try.ntmps37
      go_wp2
      go_ret
      exact ⟨rfl, by simpa using Mv.refl hc hf⟩
    · subst k
      go_enter Try.func37, Try.ntmps37
      go_wp2
      go_ret
      exact ⟨by rw [Int.add_zero]; rfl, by simpa using Mv.refl hc hf⟩
    · have k1 : ¬ y < 0 := by omega
      have k2 : ¬ 9223372036854775807 - y < x := by omega
      go_enter Try.func37, Try.ntmps37
      go_wp2
      go_ret
      exact ⟨rfl, by simpa using Mv.refl hc hf⟩
theorem rFSub (x y : Int) (b : Nat) (o : Bool) (w : World) (x0 : -9223372036854775808 ≤ x) (x1 : x ≤ 9223372036854775807) (y0 : -9223372036854775808 ≤ y) (y1 : y ≤ 9223372036854775807)
    (hc : w.cell? ⟨b, 0, none⟩ = some (.bool o)) (hf : w.frozen? ⟨b, 0, none⟩ = false) :
    Calls Try.prog 38 #[.pointer (some ⟨b, 0, none⟩), .int .i64 x, .int .i64 y] w fun e w' => e = .returned (.int .i64 (sat (x - y))) ∧ Mv b (o || !fx (x - y)) w w' := by
  rcases (show 9223372036854775807 < x - y ∨ x - y < -9223372036854775808 ∨ (-9223372036854775808 ≤ x - y ∧ x - y ≤ 9223372036854775807) from by omega) with h | h | ⟨h, h'⟩
  · obtain ⟨e1, e2⟩ := sat_up _ h
    rw [← e1, e2]
    clear e1 e2
    have k1 : y < 0 := by omega
    have k2 : 9223372036854775807 + y < x := by omega
    go_enter Try.func38, Try.ntmps38
    go_wp2_with (go_at_call 68; refine (rBound b o _ _ hc hf).mono ?_; rintro e w1 ⟨rfl, hM⟩)
    go_ret
    exact ⟨rfl, by simpa using hM⟩
  · obtain ⟨e1, e2⟩ := sat_dn _ h
    rw [← e1, e2]
    clear e1 e2
    have k1 : ¬ y < 0 := by omega
    have k3 : 0 < y := by omega
    have k2 : x < -9223372036854775808 + y := by omega
    go_enter Try.func38, Try.ntmps38
    go_wp2_with (go_at_call 68; refine (rBound b o _ _ hc hf).mono ?_; rintro e w1 ⟨rfl, hM⟩)
    go_ret
    exact ⟨rfl, by simpa using hM⟩
  · obtain ⟨e1, e2⟩ := sat_in _ h h'
    rw [← e1, e2]
    clear e1 e2
    rcases (show y < 0 ∨ y = 0 ∨ 0 < y from by omega) with k | k | k
    · have k1 : ¬ 0 < y := by omega
      have k2 : ¬ 9223372036854775807 + y < x := by omega
      go_enter Try.func38, Try.ntmps38
      go_wp2
      go_ret
      exact ⟨rfl, by simpa using Mv.refl hc hf⟩
    · subst k
      go_enter Try.func38, Try.ntmps38
      go_wp2
      go_ret
      exact ⟨by simp, by simpa using Mv.refl hc hf⟩
    · have k1 : ¬ y < 0 := by omega
      have k2 : ¬ x < -9223372036854775808 + y := by omega
      go_enter Try.func38, Try.ntmps38
      go_wp2
      go_ret
      exact ⟨rfl, by simpa using Mv.refl hc hf⟩
end Go.Proofs.Ytjpkkpflamkjkaa
