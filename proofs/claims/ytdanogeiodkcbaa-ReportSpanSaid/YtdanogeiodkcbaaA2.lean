/- Contracts of package wide: each function's answer, as a fact on whole numbers. -/
import Derived.Test.YtdanogeiodkcbaaA1
import Derived.Deep.RegionHeld3
set_option linter.unusedSimpArgs false
set_option linter.unusedVariables false
namespace Go.Proofs.Ytdanogeiodkcbaa
open Go.RowKit


theorem cWMul (a b : Int) (w : World) (a0 : -9223372036854775808 ≤ a) (a1 : a ≤ 9223372036854775807) (b0 : -9223372036854775808 ≤ b) (b1 : b ≤ 9223372036854775807) :
    Calls Try.prog 19 #[.int .i64 a, .int .i64 b] w fun e w' => e = .returned (.agg #[.int .i64 (hw (a * b)), .int .u64 (lw (a * b))]) ∧ Below w.heap.size w w' := by
  obtain ⟨s, t, hp, s1, s0, t1, t0⟩ := mul_words a b a0 a1 b0 b1
  obtain ⟨m0, m1⟩ := mul_bd a b a0 a1 b0 b1
  have HP := Lib.hid hp
  clear hp
  go_enter Try.func19, Try.ntmps19
  go_wp2_with (go_at_call 30; refine (cMul64 _ _ (u64w_lo _) (u64w_hi _) (u64w_lo _) (u64w_hi _) _).mono ?_; rintro e w' ⟨rfl, rfl⟩)
  all_goals (simp [bodyPost, results, Try.results19, go_sem])
  all_goals (refine ⟨?_, ?_⟩)
  all_goals first
    | (repeat (first | exact Below.refl _ _ | assumption | apply Below.drew | apply below_drewN | refine below_alloc ?_ _ | refine below_step ?_ (by assumption) | refine Below.alloc ?_ (by first | exact Nat.le_refl _ | omega | (simp; omega) | simp) _ | refine Below.setCell ?_ (by first | exact Nat.le_refl _ | omega | (simp; omega) | simp) _))
    | skip
  all_goals
    have hp := HP.out
    clear HP
    go_light
    have hs : (a < 0 ∧ s = 1) ∨ (0 ≤ a ∧ s = 0) := by omega
    have ht : (b < 0 ∧ t = 1) ∨ (0 ≤ b ∧ t = 0) := by omega
    rcases hs with ⟨ha, rfl⟩ | ⟨ha, rfl⟩ <;> rcases ht with ⟨hb, rfl⟩ | ⟨hb, rfl⟩ <;> (first | (exfalso; omega) | skip) <;> (try rw [IntWalk.u64_in a (by omega)] at hp) <;> (try rw [IntWalk.u64_in b (by omega)] at hp) <;> (simp only [hw, lw, wrap64, IntKind.wrap_u64] at *; omega)



theorem cSized (ah al : Int) (w : World) (h0 : -9223372036854775808 ≤ ah) (h1 : ah ≤ 9223372036854775807) (h2 : 0 ≤ al) (h3 : al ≤ 18446744073709551615) :
    Calls Try.prog 31 #[.agg #[.int .i64 ah, .int .u64 al]] w fun e w' =>
     e = .returned (.tuple #[.agg #[.int .u64 (hw (wv ah al).natAbs), .int .u64 (lw (wv ah al).natAbs)], .bool (decide (wv ah al < 0))]) ∧ Below w.heap.size w w' := by
  go_enter Try.func31, Try.ntmps31
  go_wp2
  all_goals (simp [bodyPost, results, Try.results31, go_sem])
  all_goals (refine ⟨?_, ?_⟩)
  all_goals first
    | (repeat (first | exact Below.refl _ _ | assumption | apply Below.drew | apply below_drewN | refine below_alloc ?_ _ | refine below_step ?_ (by assumption) | refine Below.alloc ?_ (by first | exact Nat.le_refl _ | omega | (simp; omega) | simp) _ | refine Below.setCell ?_ (by first | exact Nat.le_refl _ | omega | (simp; omega) | simp) _))
    | skip
  all_goals (go_light)
  all_goals (simp only [hw, lw, wv, IntKind.wrap_u64, bor] at *)
  all_goals (try simp at *)
  all_goals first
    | omega
    | (split at * <;> omega)



theorem or3_cmp (ah al bh bl : Int) (h2 : 0 ≤ al) (h3 : al ≤ 18446744073709551615) (h6 : 0 ≤ bl) (h7 : bl ≤ 18446744073709551615) :
    or3 (cmp3 ah bh) (cmp3 al bl) = cmp3 (wv ah al) (wv bh bl) := by
  unfold or3 cmp3 wv
  repeat' split
  all_goals omega
theorem cWCmp (ah al bh bl : Int) (w : World) (h2 : 0 ≤ al) (h3 : al ≤ 18446744073709551615) (h6 : 0 ≤ bl) (h7 : bl ≤ 18446744073709551615) :
    Calls Try.prog 21 #[.agg #[.int .i64 ah, .int .u64 al], .agg #[.int .i64 bh, .int .u64 bl]] w fun e w' =>
     e = .returned (.int .i64 (cmp3 (wv ah al) (wv bh bl))) ∧ Below w.heap.size w w' := by
  rw [← or3_cmp ah al bh bl h2 h3 h6 h7]
  go_enter Try.func21, Try.ntmps21
  go_wp2
  go_region_held3 (fun w' => w'.cell? ⟨w.heap.size, 0, none⟩ = some (.int .i64 ah) ∧ w'.cell? ⟨w.heap.size, 1, none⟩ = some (.int .u64 al) ∧ w'.cell? ⟨w.heap.size + 1, 0, none⟩ = some (.int .i64 bh) ∧ w'.cell? ⟨w.heap.size + 1, 1, none⟩ = some (.int .u64 bl)) (simp [go_sem, World.cell?_alloc_past])
    (first
      | (go_at_call 34; refine (cCmpI _ _ _).mono ?_; rintro e w' ⟨rfl, rfl⟩)
      | (go_at_call 35; refine (cCmpU _ _ _).mono ?_; rintro e w' ⟨rfl, rfl⟩)
      | (go_at_call 33; refine (cOr (cmp3 ah bh) (cmp3 al bl) _ _ ?_ ?_).mono ?_; (simp [go_sem]); (simp [go_sem]); rintro e w' ⟨rfl, rfl⟩))
  all_goals (go_wp2)
  all_goals (go_ret)
  all_goals (refine ⟨rfl, ?_⟩)
  all_goals (repeat (first | exact Below.refl _ _ | assumption | apply Below.drew | apply below_drewN | refine below_alloc ?_ _ | refine below_step ?_ (by assumption) | refine Below.alloc ?_ (by first | exact Nat.le_refl _ | omega | (simp; omega) | simp) _ | refine Below.setCell ?_ (by first | exact Nat.le_refl _ | omega | (simp; omega) | simp) _))
end Go.Proofs.Ytdanogeiodkcbaa
