/- Contracts of package wide: each function's answer, as a fact on whole numbers. -/
import Derived.Test.YtjpkkpflamkjkaaA1
import Derived.Deep.RegionHeld3
set_option linter.unusedSimpArgs false
set_option linter.unusedVariables false
namespace Go.Proofs.Ytjpkkpflamkjkaa
open Go.RowKit

theorem cWOf (n : Int) (w : World) (h0 : -9223372036854775808 ≤ n) (h1 : n ≤ 9223372036854775807) :
    Calls Try.prog 55 #[.int .i64 n] w fun e w' => e = .returned (.agg #[.int .i64 (hw n), .int .u64 (lw n)]) ∧ Below w.heap.size w w' := by
  go_enter Try.func55, Try.ntmps55
  go_wp2
  simp [bodyPost, results, Try.results55, go_sem]
  refine ⟨?_, ?_⟩
  · unfold hw lw; rw [IntKind.wrap_u64]; omega
  · (repeat (first | exact Below.refl _ _ | assumption | apply Below.drew | apply below_drewN | refine below_alloc ?_ _ | refine below_step ?_ (by assumption) | refine Below.alloc ?_ (by first | exact Nat.le_refl _ | omega | (simp; omega) | simp) _ | refine Below.setCell ?_ (by first | exact Nat.le_refl _ | omega | (simp; omega) | simp) _))

theorem cWMul (a b : Int) (w : World) (a0 : -9223372036854775808 ≤ a) (a1 : a ≤ 9223372036854775807) (b0 : -9223372036854775808 ≤ b) (b1 : b ≤ 9223372036854775807) :
    Calls Try.prog 66 #[.int .i64 a, .int .i64 b] w fun e w' => e = .returned (.agg #[.int .i64 (hw (a * b)), .int .u64 (lw (a * b))]) ∧ Below w.heap.size w w' := by
  obtain ⟨s, t, hp, s1, s0, t1, t0⟩ := mul_words a b a0 a1 b0 b1
  obtain ⟨m0, m1⟩ := mul_bd a b a0 a1 b0 b1
  have HP := Lib.hid hp
  clear hp
  go_enter Try.func66, Try.ntmps66
  go_wp2_with (go_at_call 83; refine (cMul64 _ _ (u64w_lo _) (u64w_hi _) (u64w_lo _) (u64w_hi _) _).mono ?_; rintro e w' ⟨rfl, rfl⟩)
  all_goals (simp [bodyPost, results, Try.results66, go_sem])
  all_goals (refine ⟨?_, ?_⟩)
  all_goals first
    | (repeat (first | exact Below.refl _ _ | assumption | apply Below.drew | apply below_drewN | refine below_alloc ?_ _ | refine below_step ?_ (by assumption) | refine Below.alloc ?_ (by first | exact Nat.le_refl _ | omega | (simp; omega) | simp) _ | refine Below.setCell ?_ (by first | exact Nat.le_refl _ | omega | (simp; omega) | simp) _))
    | skip
  all_goals
    have hp := HP.out
    clear HP
    go_light
    have hs : (a < 0 ∧ s = 1) ∨ (0 ≤ a ∧ s = 0) := by omega
    have ht : (b < 0 ∧ t = 1) ∨ (0 ≤ b ∧ t = 0) := by omega
    rcases hs with ⟨ha, rfl⟩ | ⟨ha, rfl⟩ <;> rcases ht with ⟨hb, rfl⟩ | ⟨hb, rfl⟩ <;> (first | (exfalso; omega) | skip) <;> (try rw [IntWalk.u64_in a (by omega)] at hp) <;> (try rw [IntWalk.u64_in b (by omega)] at hp) <;> (simp only [hw, lw, wrap64, IntKind.wrap_u64] at *; omega)

theorem cWAdd (ah al bh bl : Int) (w : World) (h0 : -9223372036854775808 ≤ ah) (h1 : ah ≤ 9223372036854775807) (h2 : 0 ≤ al) (h3 : al ≤ 18446744073709551615)
    (h4 : -9223372036854775808 ≤ bh) (h5 : bh ≤ 9223372036854775807) (h6 : 0 ≤ bl) (h7 : bl ≤ 18446744073709551615) :
    Calls Try.prog 56 #[.agg #[.int .i64 ah, .int .u64 al], .agg #[.int .i64 bh, .int .u64 bl]] w fun e w' =>
     e = .returned (.tuple #[.agg #[.int .i64 (hw (cw (wv ah al + wv bh bl))), .int .u64 (lw (cw (wv ah al + wv bh bl)))], .bool (fw (wv ah al + wv bh bl))]) ∧ Below w.heap.size w w' := by
  have hk0 : 0 ≤ (al + bl) / 18446744073709551616 := by omega
  have hk1 : (al + bl) / 18446744073709551616 ≤ 1 := by omega
  go_enter Try.func56, Try.ntmps56
  go_wp2
  all_goals (simp [bodyPost, results, Try.results56, go_sem])
  all_goals (refine ⟨?_, ?_⟩)
  all_goals first
    | (repeat (first | exact Below.refl _ _ | assumption | apply Below.drew | apply below_drewN | refine below_alloc ?_ _ | refine below_step ?_ (by assumption) | refine Below.alloc ?_ (by first | exact Nat.le_refl _ | omega | (simp; omega) | simp) _ | refine Below.setCell ?_ (by first | exact Nat.le_refl _ | omega | (simp; omega) | simp) _))
    | skip
  all_goals (go_light)
  all_goals (by_cases hf : -170141183460469231731687303715884105728 ≤ wv ah al + wv bh bl ∧ wv ah al + wv bh bl ≤ 170141183460469231731687303715884105727)
  all_goals (simp only [cw, fw, hf, decide_true, decide_false, if_true, if_false, and_self, Bool.false_eq_true])
  all_goals (simp only [hw, lw, wv, wrap64, IntKind.wrap_u64] at *)
  all_goals (simp at *)
  all_goals omega

theorem cWNeg (ah al : Int) (w : World) (h0 : -9223372036854775808 ≤ ah) (h1 : ah ≤ 9223372036854775807) (h2 : 0 ≤ al) (h3 : al ≤ 18446744073709551615) :
    Calls Try.prog 54 #[.agg #[.int .i64 ah, .int .u64 al]] w fun e w' =>
     e = .returned (.tuple #[.agg #[.int .i64 (hw (cw (-wv ah al))), .int .u64 (lw (cw (-wv ah al)))], .bool (fw (-wv ah al))]) ∧ Below w.heap.size w w' := by
  go_enter Try.func54, Try.ntmps54
  go_wp2
  all_goals (simp [bodyPost, results, Try.results54, go_sem])
  all_goals (refine ⟨?_, ?_⟩)
  all_goals first
    | (repeat (first | exact Below.refl _ _ | assumption | apply Below.drew | apply below_drewN | refine below_alloc ?_ _ | refine below_step ?_ (by assumption) | refine Below.alloc ?_ (by first | exact Nat.le_refl _ | omega | (simp; omega) | simp) _ | refine Below.setCell ?_ (by first | exact Nat.le_refl _ | omega | (simp; omega) | simp) _))
    | skip
  all_goals (go_light)
  all_goals (by_cases hf : -170141183460469231731687303715884105728 ≤ -wv ah al ∧ -wv ah al ≤ 170141183460469231731687303715884105727)
  all_goals (simp only [cw, fw, hf, decide_true, decide_false, if_true, if_false, and_self, Bool.false_eq_true])
  all_goals (simp only [hw, lw, wv, wrap64, IntKind.wrap_u64, bor] at *)
  all_goals (simp at *)
  all_goals first
    | omega
    | (split at * <;> omega)

theorem cSized (ah al : Int) (w : World) (h0 : -9223372036854775808 ≤ ah) (h1 : ah ≤ 9223372036854775807) (h2 : 0 ≤ al) (h3 : al ≤ 18446744073709551615) :
    Calls Try.prog 85 #[.agg #[.int .i64 ah, .int .u64 al]] w fun e w' =>
     e = .returned (.tuple #[.agg #[.int .u64 (hw (wv ah al).natAbs), .int .u64 (lw (wv ah al).natAbs)], .bool (decide (wv ah al < 0))]) ∧ Below w.heap.size w w' := by
  go_enter Try.func85, Try.ntmps85
  go_wp2
  all_goals (simp [bodyPost, results, Try.results85, go_sem])
  all_goals (refine ⟨?_, ?_⟩)
  all_goals first
    | (repeat (first | exact Below.refl _ _ | assumption | apply Below.drew | apply below_drewN | refine below_alloc ?_ _ | refine below_step ?_ (by assumption) | refine Below.alloc ?_ (by first | exact Nat.le_refl _ | omega | (simp; omega) | simp) _ | refine Below.setCell ?_ (by first | exact Nat.le_refl _ | omega | (simp; omega) | simp) _))
    | skip
  all_goals (go_light)
  all_goals (simp only [hw, lw, wv, IntKind.wrap_u64, bor] at *)
  all_goals (try simp at *)
  all_goals first
    | omega
    | (split at * <;> omega)

theorem cBelow (ah al bh bl : Int) (w : World) (h2 : 0 ≤ al) (h3 : al ≤ 18446744073709551615) (h6 : 0 ≤ bl) (h7 : bl ≤ 18446744073709551615) :
    Calls Try.prog 101 #[.agg #[.int .u64 ah, .int .u64 al], .agg #[.int .u64 bh, .int .u64 bl]] w fun e w' =>
     e = .returned (.bool (decide (wv ah al < wv bh bl))) ∧ Below w.heap.size w w' := by
  by_cases c1 : ah < bh
  · have e1 : decide (wv ah al < wv bh bl) = true := by unfold wv; simp; omega
    have E1 := Lib.hid e1
    clear e1
    go_enter Try.func101, Try.ntmps101
    go_wp2
    go_ret
    exact ⟨by rw [E1.out]; rfl, by (repeat (first | exact Below.refl _ _ | assumption | apply Below.drew | apply below_drewN | refine below_alloc ?_ _ | refine below_step ?_ (by assumption) | refine Below.alloc ?_ (by first | exact Nat.le_refl _ | omega | (simp; omega) | simp) _ | refine Below.setCell ?_ (by first | exact Nat.le_refl _ | omega | (simp; omega) | simp) _))⟩
  · by_cases c2 : ah = bh
    · subst c2
      by_cases c3 : al < bl
      · have e1 : decide (wv ah al < wv ah bl) = true := by unfold wv; simp; omega
        have E1 := Lib.hid e1
        clear e1
        go_enter Try.func101, Try.ntmps101
        go_wp2
        go_ret
        exact ⟨by rw [E1.out]; rfl, by (repeat (first | exact Below.refl _ _ | assumption | apply Below.drew | apply below_drewN | refine below_alloc ?_ _ | refine below_step ?_ (by assumption) | refine Below.alloc ?_ (by first | exact Nat.le_refl _ | omega | (simp; omega) | simp) _ | refine Below.setCell ?_ (by first | exact Nat.le_refl _ | omega | (simp; omega) | simp) _))⟩
      · have e1 : decide (wv ah al < wv ah bl) = false := by unfold wv; simp; omega
        have E1 := Lib.hid e1
        clear e1
        go_enter Try.func101, Try.ntmps101
        go_wp2
        go_ret
        exact ⟨by rw [E1.out]; rfl, by (repeat (first | exact Below.refl _ _ | assumption | apply Below.drew | apply below_drewN | refine below_alloc ?_ _ | refine below_step ?_ (by assumption) | refine Below.alloc ?_ (by first | exact Nat.le_refl _ | omega | (simp; omega) | simp) _ | refine Below.setCell ?_ (by first | exact Nat.le_refl _ | omega | (simp; omega) | simp) _))⟩
    · have e1 : decide (wv ah al < wv bh bl) = false := by unfold wv; simp; omega
      have E1 := Lib.hid e1
      clear e1
      have c4 : (ah == bh) = false := by simpa using c2
      go_enter Try.func101, Try.ntmps101
      go_wp2
      go_ret
      exact ⟨by rw [E1.out]; rfl, by (repeat (first | exact Below.refl _ _ | assumption | apply Below.drew | apply below_drewN | refine below_alloc ?_ _ | refine below_step ?_ (by assumption) | refine Below.alloc ?_ (by first | exact Nat.le_refl _ | omega | (simp; omega) | simp) _ | refine Below.setCell ?_ (by first | exact Nat.le_refl _ | omega | (simp; omega) | simp) _))⟩


end Go.Proofs.Ytjpkkpflamkjkaa
