/- The contracts of the document's sizes of four parts, by their numbers. -/
import Derived.Test.YtjpkkpflamkjkaaB1
set_option linter.unusedSimpArgs false
set_option linter.unusedVariables false
namespace Go.Proofs.Ytjpkkpflamkjkaa
open Go.RowKit
theorem ag_of (N x0 x1 x2 x3 : Int) (h0 : 0 ≤ x0 ∧ x0 ≤ 4294967295) (h1 : 0 ≤ x1 ∧ x1 ≤ 4294967295) (h2 : 0 ≤ x2 ∧ x2 ≤ 4294967295) (h3 : 0 ≤ x3 ∧ x3 ≤ 4294967295) (h : N = av x0 x1 x2 x3) :
    (.agg #[.int .u64 x0, .int .u64 x1, .int .u64 x2, .int .u64 x3] : Value) = .agg #[.int .u64 (d0 (N)), .int .u64 (d1 (N)), .int .u64 (d2 (N)), .int .u64 (d3 (N))] := by
  obtain ⟨a, b, c, d⟩ := d_av x0 x1 x2 x3 h0 h1 h2 h3
  rw [h, a, b, c, d]
theorem dg (n : Int) (h0 : 0 ≤ n) (h1 : n ≤ 340282366920938463463374607431768211455) : n = d0 n + d1 n * 4294967296 + d2 n * 18446744073709551616 + d3 n * 79228162514264337593543950336 := (av_d n h0 h1).symm
theorem cRLess (m n : Int) (w : World) (hm : 0 ≤ m) (hm' : m ≤ 340282366920938463463374607431768211455) (hn : 0 ≤ n) (hn' : n ≤ 340282366920938463463374607431768211455) :
    Calls Try.prog 88 #[.agg #[.int .u64 (d0 (m)), .int .u64 (d1 (m)), .int .u64 (d2 (m)), .int .u64 (d3 (m))], .agg #[.int .u64 (d0 (n)), .int .u64 (d1 (n)), .int .u64 (d2 (n)), .int .u64 (d3 (n))]] w fun e w' => e = .returned (.bool (decide (m < n))) ∧ Below w.heap.size w w' := by
  have em := dg m hm hm'
  have en := dg n hn hn'
  have a0 := d0_bd m; have a1 := d1_bd m; have a2 := d2_bd m; have a3 := d3_bd m
  have b0 := d0_bd n; have b1 := d1_bd n; have b2 := d2_bd n; have b3 := d3_bd n
  generalize d0 m = x0 at *; generalize d1 m = x1 at *; generalize d2 m = x2 at *; generalize d3 m = x3 at *
  generalize d0 n = y0 at *; generalize d1 n = y1 at *; generalize d2 n = y2 at *; generalize d3 n = y3 at *
  by_cases h3 : x3 = y3
  · have n3 : (x3 != y3) = false := by simpa using h3
    by_cases h2 : x2 = y2
    · have n2 : (x2 != y2) = false := by simpa using h2
      by_cases h1 : x1 = y1
      · have n1 : (x1 != y1) = false := by simpa using h1
        by_cases h0 : x0 = y0
        · have n0 : (x0 != y0) = false := by simpa using h0
          rw [show decide (m < n) = false from decide_eq_false (by omega)]
          exact cRLessE _ _ _ _ _ _ _ _ w n3 n2 n1 n0
        · exact cRLess0 _ _ _ _ _ _ _ _ _ w n3 n2 n1 (by simpa using h0) (by rw [decide_eq_decide]; omega)
      · exact cRLess1 _ _ _ _ _ _ _ _ _ w n3 n2 (by simpa using h1) (by rw [decide_eq_decide]; omega)
    · exact cRLess2 _ _ _ _ _ _ _ _ _ w n3 (by simpa using h2) (by rw [decide_eq_decide]; omega)
  · exact cRLess3 _ _ _ _ _ _ _ _ _ w (by simpa using h3) (by rw [decide_eq_decide]; omega)
theorem cRPlus (m n : Int) (w : World) (hm : 0 ≤ m) (hm' : m ≤ 340282366920938463463374607431768211455) (hn : 0 ≤ n) (hn' : n ≤ 340282366920938463463374607431768211455) :
    Calls Try.prog 87 #[.agg #[.int .u64 (d0 (m)), .int .u64 (d1 (m)), .int .u64 (d2 (m)), .int .u64 (d3 (m))], .agg #[.int .u64 (d0 (n)), .int .u64 (d1 (n)), .int .u64 (d2 (n)), .int .u64 (d3 (n))]] w fun e w' => e = .returned (.tuple #[.agg #[.int .u64 (d0 ((m + n) % 340282366920938463463374607431768211456)), .int .u64 (d1 ((m + n) % 340282366920938463463374607431768211456)), .int .u64 (d2 ((m + n) % 340282366920938463463374607431768211456)), .int .u64 (d3 ((m + n) % 340282366920938463463374607431768211456))], .int .u64 ((m + n) / 340282366920938463463374607431768211456)]) ∧ Below w.heap.size w w' := by
  have em := dg m hm hm'
  have en := dg n hn hn'
  have a0 := d0_bd m; have a1 := d1_bd m; have a2 := d2_bd m; have a3 := d3_bd m
  have b0 := d0_bd n; have b1 := d1_bd n; have b2 := d2_bd n; have b3 := d3_bd n
  generalize d0 m = x0 at *; generalize d1 m = x1 at *; generalize d2 m = x2 at *; generalize d3 m = x3 at *
  generalize d0 n = y0 at *; generalize d1 n = y1 at *; generalize d2 n = y2 at *; generalize d3 n = y3 at *
  obtain ⟨s0, hs0⟩ : ∃ s, s = x0 + y0 := ⟨_, rfl⟩
  obtain ⟨s1, hs1⟩ : ∃ s, s = x1 + y1 + s0 / 4294967296 := ⟨_, rfl⟩
  obtain ⟨s2, hs2⟩ : ∃ s, s = x2 + y2 + s1 / 4294967296 := ⟨_, rfl⟩
  obtain ⟨s3, hs3⟩ : ∃ s, s = x3 + y3 + s2 / 4294967296 := ⟨_, rfl⟩
  rw [← ag_of ((m + n) % 340282366920938463463374607431768211456) (s0 % 4294967296) (s1 % 4294967296) (s2 % 4294967296) (s3 % 4294967296) (by omega) (by omega) (by omega) (by omega) (by unfold av; omega),
    show (m + n) / 340282366920938463463374607431768211456 = s3 / 4294967296 by omega]
  exact cRPlusA x0 x1 x2 x3 y0 y1 y2 y3 s0 s1 s2 s3 (x1 + y1) (x2 + y2) (x3 + y3) _ _ _ _ _ _ _ _ w (by rw [IntKind.wrap_u64]; omega) (by rw [IntKind.wrap_u64]; omega) (by rw [IntKind.wrap_u64]; omega) (by rw [IntKind.wrap_u64]; omega)
    (by rw [IntKind.wrap_u64]; omega) (by rw [IntKind.wrap_u64]; omega) (by rw [IntKind.wrap_u64]; omega) rfl rfl rfl rfl rfl rfl rfl rfl (by omega) (by omega) (by omega) (by omega) (by omega) (by omega) (by omega) (by omega)
theorem cRTwice (m c : Int) (w : World) (hm : 0 ≤ m) (hm' : m ≤ 340282366920938463463374607431768211455) (hc : 0 ≤ c) (hc' : c ≤ 1) :
    Calls Try.prog 100 #[.agg #[.int .u64 (d0 (m)), .int .u64 (d1 (m)), .int .u64 (d2 (m)), .int .u64 (d3 (m))], .int .u64 c] w fun e w' => e = .returned (.agg #[.int .u64 (d0 ((2 * m + c) % 340282366920938463463374607431768211456)), .int .u64 (d1 ((2 * m + c) % 340282366920938463463374607431768211456)), .int .u64 (d2 ((2 * m + c) % 340282366920938463463374607431768211456)), .int .u64 (d3 ((2 * m + c) % 340282366920938463463374607431768211456))]) ∧ Below w.heap.size w w' := by
  have em := dg m hm hm'
  have a0 := d0_bd m; have a1 := d1_bd m; have a2 := d2_bd m; have a3 := d3_bd m
  generalize d0 m = x0 at *; generalize d1 m = x1 at *; generalize d2 m = x2 at *; generalize d3 m = x3 at *
  obtain ⟨s0, hs0⟩ : ∃ s, s = 2 * x0 + c := ⟨_, rfl⟩
  obtain ⟨s1, hs1⟩ : ∃ s, s = 2 * x1 + s0 / 4294967296 := ⟨_, rfl⟩
  obtain ⟨s2, hs2⟩ : ∃ s, s = 2 * x2 + s1 / 4294967296 := ⟨_, rfl⟩
  obtain ⟨s3, hs3⟩ : ∃ s, s = 2 * x3 + s2 / 4294967296 := ⟨_, rfl⟩
  rw [← ag_of ((2 * m + c) % 340282366920938463463374607431768211456) (s0 % 4294967296) (s1 % 4294967296) (s2 % 4294967296) (s3 % 4294967296) (by omega) (by omega) (by omega) (by omega) (by unfold av; omega)]
  exact cRTwiceA x0 x1 x2 x3 c s0 s1 s2 s3 (2 * x0) (2 * x1) (2 * x2) (2 * x3) _ _ _ _ _ _ _ _ w (by rw [IntKind.wrap_u64]; omega) (by rw [IntKind.wrap_u64]; omega) (by rw [IntKind.wrap_u64]; omega) (by rw [IntKind.wrap_u64]; omega)
    (by rw [IntKind.wrap_u64]; omega) (by rw [IntKind.wrap_u64]; omega) (by rw [IntKind.wrap_u64]; omega) (by rw [IntKind.wrap_u64]; omega) rfl rfl rfl rfl rfl rfl rfl rfl (by omega) (by omega) (by omega) (by omega) (by omega) (by omega) (by omega) (by omega)
theorem cRMinus (m n : Int) (w : World) (hm : 0 ≤ m) (hm' : m ≤ 340282366920938463463374607431768211455) (hn : 0 ≤ n) (hn' : n ≤ m) :
    Calls Try.prog 89 #[.agg #[.int .u64 (d0 (m)), .int .u64 (d1 (m)), .int .u64 (d2 (m)), .int .u64 (d3 (m))], .agg #[.int .u64 (d0 (n)), .int .u64 (d1 (n)), .int .u64 (d2 (n)), .int .u64 (d3 (n))]] w fun e w' => e = .returned (.agg #[.int .u64 (d0 (m - n)), .int .u64 (d1 (m - n)), .int .u64 (d2 (m - n)), .int .u64 (d3 (m - n))]) ∧ Below w.heap.size w w' := by
  have em := dg m hm hm'
  have en := dg n hn (by omega)
  have a0 := d0_bd m; have a1 := d1_bd m; have a2 := d2_bd m; have a3 := d3_bd m
  have b0 := d0_bd n; have b1 := d1_bd n; have b2 := d2_bd n; have b3 := d3_bd n
  generalize d0 m = x0 at *; generalize d1 m = x1 at *; generalize d2 m = x2 at *; generalize d3 m = x3 at *
  generalize d0 n = y0 at *; generalize d1 n = y1 at *; generalize d2 n = y2 at *; generalize d3 n = y3 at *
  obtain ⟨s0, hs0⟩ : ∃ s, s = x0 + 4294967296 - y0 := ⟨_, rfl⟩
  obtain ⟨s1, hs1⟩ : ∃ s, s = x1 + 4294967296 - y1 - (1 - s0 / 4294967296) := ⟨_, rfl⟩
  obtain ⟨s2, hs2⟩ : ∃ s, s = x2 + 4294967296 - y2 - (1 - s1 / 4294967296) := ⟨_, rfl⟩
  obtain ⟨s3, hs3⟩ : ∃ s, s = x3 + 4294967296 - y3 - (1 - s2 / 4294967296) := ⟨_, rfl⟩
  rw [← ag_of (m - n) (s0 % 4294967296) (s1 % 4294967296) (s2 % 4294967296) (s3 % 4294967296) (by omega) (by omega) (by omega) (by omega) (by unfold av; omega)]
  exact cRMinusA x0 x1 x2 x3 y0 y1 y2 y3 s0 s1 s2 s3 (x0 + 4294967296) (x1 + 4294967296) (x2 + 4294967296) (x3 + 4294967296) 0 (x1 + 4294967296 - y1) (x2 + 4294967296 - y2) (x3 + 4294967296 - y3) _ _ _ _ (1 - s0 / 4294967296) (1 - s1 / 4294967296) (1 - s2 / 4294967296) (1 - s3 / 4294967296) _ _ _ _ w
    (by rw [IntKind.wrap_u64]; omega) (by rw [IntKind.wrap_u64]; omega) (by rw [IntKind.wrap_u64]; omega) (by rw [IntKind.wrap_u64]; omega) (by rw [IntKind.wrap_u64]; omega) (by rw [IntKind.wrap_u64]; omega) (by rw [IntKind.wrap_u64]; omega) (by rw [IntKind.wrap_u64]; omega) (by rw [IntKind.wrap_u64]; omega)
    (by rw [IntKind.wrap_u64]; omega) (by rw [IntKind.wrap_u64]; omega) rfl rfl (by rw [IntKind.wrap_u64]; omega) rfl rfl (by rw [IntKind.wrap_u64]; omega) rfl rfl (by rw [IntKind.wrap_u64]; omega) rfl rfl (by rw [IntKind.wrap_u64]; omega)
    (by omega) (by omega) (by omega) (by omega) (by omega) (by omega) (by omega) (by omega)
end Go.Proofs.Ytjpkkpflamkjkaa
