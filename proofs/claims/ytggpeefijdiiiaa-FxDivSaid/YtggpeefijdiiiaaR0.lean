/- Contracts of package chicaneref02: sums, signs, whole numbers. -/
import Derived.Test.YtggpeefijdiiiaaF2
namespace Go.Proofs.Ytggpeefijdiiiaa
open Go.RowKit
theorem rBound (b : Nat) (o neg : Bool) (w : World) (hc : w.cell? ⟨b, 0, none⟩ = some (.bool o)) (hf : w.frozen? ⟨b, 0, none⟩ = false) :
    Calls Try.prog 42 #[.pointer (some ⟨b, 0, none⟩), .bool neg] w fun e w' => e = .returned (.int .i64 (bnd neg)) ∧ Mv b true w w' := by
  have HM := Mv.note (Mv.refl hc hf) true
  cases neg
  · go_enter Try.func42, Try.ntmps42
    go_wp2
    go_ret
    exact ⟨rfl, HM⟩
  · go_enter Try.func42, Try.ntmps42
    go_wp2
    go_ret
    exact ⟨rfl, HM⟩
theorem sat_up (n : Int) (h : 9223372036854775807 < n) : bnd false = sat n ∧ fx n = false := by
  refine ⟨?_, ?_⟩
  · unfold sat bnd; rw [if_neg (by decide)]; split <;> (try split) <;> omega
  · unfold fx; simp; omega
theorem sat_dn (n : Int) (h : n < -9223372036854775808) : bnd true = sat n ∧ fx n = false := by
  refine ⟨?_, ?_⟩
  · unfold sat bnd; rw [if_pos rfl]; split <;> (try split) <;> omega
  · unfold fx; simp; omega
theorem sat_in (n : Int) (h0 : -9223372036854775808 ≤ n) (h1 : n ≤ 9223372036854775807) : n = sat n ∧ fx n = true := ⟨(sat_id n h0 h1).symm, by rw [fx_iff]; exact ⟨h0, h1⟩⟩
/-- A size with its sign. -/
def sg (neg : Bool) (n : Int) : Int := if neg = true then -n else n
theorem rSigned (neg : Bool) (n : Int) (b : Nat) (o : Bool) (w : World) (n0 : 0 ≤ n) (n1 : n ≤ 18446744073709551615) (hc : w.cell? ⟨b, 0, none⟩ = some (.bool o)) (hf : w.frozen? ⟨b, 0, none⟩ = false) :
    Calls Try.prog 43 #[.pointer (some ⟨b, 0, none⟩), .bool neg, .int .u64 n] w fun e w' => e = .returned (.int .i64 (sat (sg neg n))) ∧ Mv b (o || !fx (sg neg n)) w w' := by
  cases neg with
  | true =>
    rcases (show n = 9223372036854775808 ∨ n ≤ 9223372036854775807 ∨ 9223372036854775808 < n from by omega) with h | h | h
    · subst h
      have e1 : sat (sg true 9223372036854775808) = -9223372036854775808 := by decide
      have e2 : fx (sg true 9223372036854775808) = true := by decide
      rw [e1, e2]
      go_enter Try.func43, Try.ntmps43
      go_wp2
      go_ret
      exact ⟨rfl, by simpa using Mv.refl hc hf⟩
    · obtain ⟨e1, e2⟩ := sat_in (-n) (by omega) (by omega)
      have e3 : sg true n = -n := rfl
      rw [e3, ← e1, e2]
      clear e1 e2 e3
      have h1 : (n == 9223372036854775808) = false := by simp; omega
      have h2 : ¬ 9223372036854775807 < n := by omega
      go_enter Try.func43, Try.ntmps43
      go_wp2
      go_ret
      exact ⟨rfl, by simpa using Mv.refl hc hf⟩
    · obtain ⟨e1, e2⟩ := sat_dn (-n) (by omega)
      have e3 : sg true n = -n := rfl
      rw [e3, ← e1, e2]
      clear e1 e2 e3
      have h1 : (n == 9223372036854775808) = false := by simp; omega
      have h2 : 9223372036854775807 < n := by omega
      go_enter Try.func43, Try.ntmps43
      go_wp2_with (go_at_call 42; refine (rBound b o _ _ hc hf).mono ?_; rintro e w1 ⟨rfl, hM⟩)
      go_ret
      exact ⟨rfl, by simpa using hM⟩
  | false =>
    rcases (show n ≤ 9223372036854775807 ∨ 9223372036854775807 < n from by omega) with h | h
    · obtain ⟨e1, e2⟩ := sat_in n (by omega) (by omega)
      have e3 : sg false n = n := rfl
      rw [e3, ← e1, e2]
      clear e1 e2 e3
      have h2 : ¬ 9223372036854775807 < n := by omega
      go_enter Try.func43, Try.ntmps43
      go_wp2
      go_ret
      exact ⟨rfl, by simpa using Mv.refl hc hf⟩
    · obtain ⟨e1, e2⟩ := sat_up n (by omega)
      have e3 : sg false n = n := rfl
      rw [e3, ← e1, e2]
      clear e1 e2 e3
      go_enter Try.func43, Try.ntmps43
      go_wp2_with (go_at_call 42; refine (rBound b o _ _ hc hf).mono ?_; rintro e w1 ⟨rfl, hM⟩)
      go_ret
      exact ⟨rfl, by simpa using hM⟩
theorem rFAdd (x y : Int) (b : Nat) (o : Bool) (w : World) (x0 : -9223372036854775808 ≤ x) (x1 : x ≤ 9223372036854775807) (y0 : -9223372036854775808 ≤ y) (y1 : y ≤ 9223372036854775807)
    (hc : w.cell? ⟨b, 0, none⟩ = some (.bool o)) (hf : w.frozen? ⟨b, 0, none⟩ = false) :
    Calls Try.prog 27 #[.pointer (some ⟨b, 0, none⟩), .int .i64 x, .int .i64 y] w fun e w' => e = .returned (.int .i64 (sat (x + y))) ∧ Mv b (o || !fx (x + y)) w w' := by
  rcases (show 9223372036854775807 < x + y ∨ x + y < -9223372036854775808 ∨ (-9223372036854775808 ≤ x + y ∧ x + y ≤ 9223372036854775807) from by omega) with h | h | ⟨h, h'⟩
  · obtain ⟨e1, e2⟩ := sat_up _ h
    rw [← e1, e2]
    clear e1 e2
    have k1 : 0 < y := by omega
    have k2 : 9223372036854775807 - y < x := by omega
    go_enter Try.func27, Try.ntmps27
    go_wp2_with (go_at_call 42; refine (rBound b o _ _ hc hf).mono ?_; rintro e w1 ⟨rfl, hM⟩)
    go_ret
    exact ⟨rfl, by simpa using hM⟩
  · obtain ⟨e1, e2⟩ := sat_dn _ h
    rw [← e1, e2]
    clear e1 e2
    have k1 : ¬ 0 < y := by omega
    have k3 : y < 0 := by omega
    have k2 : x < -9223372036854775808 - y := by omega
    go_enter Try.func27, Try.ntmps27
    go_wp2_with (go_at_call 42; refine (rBound b o _ _ hc hf).mono ?_; rintro e w1 ⟨rfl, hM⟩)
    go_ret
    exact ⟨rfl, by simpa using hM⟩
  · obtain ⟨e1, e2⟩ := sat_in _ h h'
    rw [← e1, e2]
    clear e1 e2
    rcases (show y < 0 ∨ y = 0 ∨ 0 < y from by omega) with k | k | k
    · have k1 : ¬ 0 < y := by omega
      have k2 : ¬ x < -9223372036854775808 - y := by omega
      go_enter Try.func27, Try.ntmps27
      go_wp2
      go_ret
      exact ⟨rfl, by simpa using Mv.refl hc hf⟩
    · subst k
      go_enter Try.func27, Try.ntmps27
      go_wp2
      go_ret
      exact ⟨by rw [Int.add_zero]; rfl, by simpa using Mv.refl hc hf⟩
    · have k1 : ¬ y < 0 := by omega
      have k2 : ¬ 9223372036854775807 - y < x := by omega
      go_enter Try.func27, Try.ntmps27
      go_wp2
      go_ret
      exact ⟨rfl, by simpa using Mv.refl hc hf⟩
theorem rFSub (x y : Int) (b : Nat) (o : Bool) (w : World) (x0 : -9223372036854775808 ≤ x) (x1 : x ≤ 9223372036854775807) (y0 : -9223372036854775808 ≤ y) (y1 : y ≤ 9223372036854775807)
    (hc : w.cell? ⟨b, 0, none⟩ = some (.bool o)) (hf : w.frozen? ⟨b, 0, none⟩ = false) :
    Calls Try.prog 29 #[.pointer (some ⟨b, 0, none⟩), .int .i64 x, .int .i64 y] w fun e w' => e = .returned (.int .i64 (sat (x - y))) ∧ Mv b (o || !fx (x - y)) w w' := by
  rcases (show 9223372036854775807 < x - y ∨ x - y < -9223372036854775808 ∨ (-9223372036854775808 ≤ x - y ∧ x - y ≤ 9223372036854775807) from by omega) with h | h | ⟨h, h'⟩
  · obtain ⟨e1, e2⟩ := sat_up _ h
    rw [← e1, e2]
    clear e1 e2
    have k1 : y < 0 := by omega
    have k2 : 9223372036854775807 + y < x := by omega
    go_enter Try.func29, Try.ntmps29
    go_wp2_with (go_at_call 42; refine (rBound b o _ _ hc hf).mono ?_; rintro e w1 ⟨rfl, hM⟩)
    go_ret
    exact ⟨rfl, by simpa using hM⟩
  · obtain ⟨e1, e2⟩ := sat_dn _ h
    rw [← e1, e2]
    clear e1 e2
    have k1 : ¬ y < 0 := by omega
    have k3 : 0 < y := by omega
    have k2 : x < -9223372036854775808 + y := by omega
    go_enter Try.func29, Try.ntmps29
    go_wp2_with (go_at_call 42; refine (rBound b o _ _ hc hf).mono ?_; rintro e w1 ⟨rfl, hM⟩)
    go_ret
    exact ⟨rfl, by simpa using hM⟩
  · obtain ⟨e1, e2⟩ := sat_in _ h h'
    rw [← e1, e2]
    clear e1 e2
    rcases (show y < 0 ∨ y = 0 ∨ 0 < y from by omega) with k | k | k
    · have k1 : ¬ 0 < y := by omega
      have k2 : ¬ 9223372036854775807 + y < x := by omega
      go_enter Try.func29, Try.ntmps29
      go_wp2
      go_ret
      exact ⟨rfl, by simpa using Mv.refl hc hf⟩
    · subst k
      go_enter Try.func29, Try.ntmps29
      go_wp2
      go_ret
      exact ⟨by simp, by simpa using Mv.refl hc hf⟩
    · have k1 : ¬ y < 0 := by omega
      have k2 : ¬ x < -9223372036854775808 + y := by omega
      go_enter Try.func29, Try.ntmps29
      go_wp2
      go_ret
      exact ⟨rfl, by simpa using Mv.refl hc hf⟩
theorem rFNeg (y : Int) (b : Nat) (o : Bool) (w : World) (y0 : -9223372036854775808 ≤ y) (y1 : y ≤ 9223372036854775807)
    (hc : w.cell? ⟨b, 0, none⟩ = some (.bool o)) (hf : w.frozen? ⟨b, 0, none⟩ = false) :
    Calls Try.prog 31 #[.pointer (some ⟨b, 0, none⟩), .int .i64 y] w fun e w' => e = .returned (.int .i64 (sat (-y))) ∧ Mv b (o || !fx (-y)) w w' := by
  have e1 : 0 - y = -y := by omega
  have h := rFSub 0 y b o w (by decide) (by decide) y0 y1 hc hf
  rw [e1] at h
  go_enter Try.func31, Try.ntmps31
  go_wp2_with (fail)
  refine h.mono ?_
  rintro e w1 ⟨rfl, hM⟩
  go_wp2_with (fail)
  go_ret
  exact ⟨rfl, hM⟩
theorem rFAbs (y : Int) (b : Nat) (o : Bool) (w : World) (y0 : -9223372036854775808 ≤ y) (y1 : y ≤ 9223372036854775807)
    (hc : w.cell? ⟨b, 0, none⟩ = some (.bool o)) (hf : w.frozen? ⟨b, 0, none⟩ = false) :
    Calls Try.prog 33 #[.pointer (some ⟨b, 0, none⟩), .int .i64 y] w fun e w' => e = .returned (.int .i64 (sat (y.natAbs : Int))) ∧ Mv b (o || !fx (y.natAbs : Int)) w w' := by
  by_cases h : y < 0
  · have e1 : (y.natAbs : Int) = -y := by omega
    rw [e1]
    go_enter Try.func33, Try.ntmps33
    go_wp2_with (fail)
    refine (rFNeg y b o w y0 y1 hc hf).mono ?_
    rintro e w1 ⟨rfl, hM⟩
    go_wp2_with (fail)
    go_ret
    exact ⟨rfl, hM⟩
  · have e1 : (y.natAbs : Int) = y := by omega
    rw [e1]
    obtain ⟨e2, e3⟩ := sat_in y (by omega) (by omega)
    rw [← e2, e3]
    clear e1 e2 e3
    go_enter Try.func33, Try.ntmps33
    go_wp2_with (fail)
    go_ret
    exact ⟨rfl, by simpa using Mv.refl hc hf⟩
theorem rFOf (n : Int) (b : Nat) (o : Bool) (w : World) (n0 : -9223372036854775808 ≤ n) (n1 : n ≤ 9223372036854775807)
    (hc : w.cell? ⟨b, 0, none⟩ = some (.bool o)) (hf : w.frozen? ⟨b, 0, none⟩ = false) :
    Calls Try.prog 19 #[.pointer (some ⟨b, 0, none⟩), .int .i64 n] w fun e w' => e = .returned (.int .i64 (sat (n * 4294967296))) ∧ Mv b (o || !fx (n * 4294967296)) w w' := by
  rcases (show 2147483647 < n ∨ n < -2147483648 ∨ (-2147483648 ≤ n ∧ n ≤ 2147483647) from by omega) with h | h | ⟨h, h'⟩
  · obtain ⟨e1, e2⟩ := sat_up (n * 4294967296) (by omega)
    rw [← e1, e2]
    clear e1 e2
    go_enter Try.func19, Try.ntmps19
    go_wp2_with (go_at_call 42; refine (rBound b o _ _ hc hf).mono ?_; rintro e w1 ⟨rfl, hM⟩)
    go_ret
    exact ⟨rfl, by simpa using hM⟩
  · obtain ⟨e1, e2⟩ := sat_dn (n * 4294967296) (by omega)
    rw [← e1, e2]
    clear e1 e2
    have k1 : ¬ 2147483647 < n := by omega
    go_enter Try.func19, Try.ntmps19
    go_wp2_with (go_at_call 42; refine (rBound b o _ _ hc hf).mono ?_; rintro e w1 ⟨rfl, hM⟩)
    go_ret
    exact ⟨rfl, by simpa using hM⟩
  · obtain ⟨e1, e2⟩ := sat_in (n * 4294967296) (by omega) (by omega)
    rw [← e1, e2]
    clear e1 e2
    have k1 : ¬ 2147483647 < n := by omega
    have k2 : ¬ n < -2147483648 := by omega
    go_enter Try.func19, Try.ntmps19
    go_wp2
    go_ret
    exact ⟨rfl, by simpa using Mv.refl hc hf⟩
theorem td_bd (n : Int) : (0 ≤ n ∧ n.tdiv 4294967296 = n / 4294967296) ∨ (n < 0 ∧ n.tdiv 4294967296 = -((-n) / 4294967296)) := by
  rcases Int.lt_or_le n 0 with h | h
  · right; refine ⟨h, ?_⟩
    have := Int.neg_tdiv (-n) 4294967296
    rw [Int.neg_neg] at this
    rw [this, Int.tdiv_eq_ediv_of_nonneg (by omega)]
  · left; exact ⟨h, Int.tdiv_eq_ediv_of_nonneg h⟩
theorem rFFloor (n : Int) (w : World) (n0 : -9223372036854775808 ≤ n) (n1 : n ≤ 9223372036854775807) :
    Calls Try.prog 21 #[.int .i64 n] w fun e w' => e = .returned (.int .i64 (n / 4294967296)) ∧ w = w' := by
  obtain ⟨q, hq⟩ : ∃ q, n.tdiv 4294967296 = q := ⟨_, rfl⟩
  have k := td_bd n
  rw [hq] at k
  have k2 : IntKind.i64.wrap (q * 4294967296) = q * 4294967296 := IntWalk.i64_in _ (by omega)
  by_cases h : n < q * 4294967296
  · have e1 : q - 1 = n / 4294967296 := by omega
    go_enter Try.func21, Try.ntmps21
    go_wp2
    go_ret
    exact ⟨by rw [← e1]; rfl, rfl⟩
  · have e1 : q = n / 4294967296 := by omega
    go_enter Try.func21, Try.ntmps21
    go_wp2
    go_ret
    exact ⟨by rw [← e1]; rfl, rfl⟩
theorem rClamp (a low high : Int) (w : World) : Calls Try.prog 23 #[.int .i64 a, .int .i64 low, .int .i64 high] w fun e w' => e = .returned (.int .i64 (clm a low high)) ∧ w = w' := by
  by_cases h1 : a < low
  · have E : Hid (clm a low high = low) := Lib.hid (by unfold clm; rw [if_pos h1])
    go_enter Try.func23, Try.ntmps23
    go_wp2
    go_ret
    exact ⟨by rw [E.out]; rfl, rfl⟩
  · by_cases h2 : high < a
    · have E : Hid (clm a low high = high) := Lib.hid (by unfold clm; rw [if_neg h1, if_pos h2])
      go_enter Try.func23, Try.ntmps23
      go_wp2
      go_ret
      exact ⟨by rw [E.out]; rfl, rfl⟩
    · have E : Hid (clm a low high = a) := Lib.hid (by unfold clm; rw [if_neg h1, if_neg h2])
      go_enter Try.func23, Try.ntmps23
      go_wp2
      go_ret
      exact ⟨by rw [E.out]; rfl, rfl⟩
end Go.Proofs.Ytggpeefijdiiiaa
