/- The walks of WideEnclosed and WideNear. -/
import Derived.Test.YtmkpnejnjnkpiaaL1a
namespace Go.Proofs.Ytmkpnejnjnkpiaa
open Go.RowKit
theorem frozen_later {a : Addr} {v : Value} {W w1 : World} (hb : Below W.heap.size W w1) (q : W.cell? a = some v) (f : W.frozen? a = false) : w1.frozen? a = false := by
  rw [bfrozen hb a (by rw [q]; rfl)]; exact f
theorem qn_near (N D : Int) (hN : 0 ≤ N) (hD : 0 < D) : -D ≤ 2 * (N - qn N D * D) ∧ 2 * (N - qn N D * D) ≤ D ∧ ((2 * (N - qn N D * D) = D ∨ 2 * (N - qn N D * D) = -D) → qn N D % 2 = 0) := by
  have e := Int.mul_ediv_add_emod N D
  have r0 := Int.emod_nonneg N (show D ≠ 0 by omega)
  have r1 := Int.emod_lt_of_pos N hD
  unfold qn
  generalize N / D = Q at *
  generalize N % D = R at *
  rw [Int.mul_comm] at e
  split
  · rw [Int.add_mul]
    generalize Q * D = p at *
    refine ⟨by omega, by omega, fun h => by omega⟩
  · generalize Q * D = p at *
    refine ⟨by omega, by omega, fun h => by omega⟩
theorem rdiv_mul (A b : Int) : rdiv A b * b = if A < 0 then -(qn A.natAbs b.natAbs * b.natAbs) else qn A.natAbs b.natAbs * b.natAbs := by
  unfold rdiv
  generalize qn (A.natAbs : Int) (b.natAbs : Int) = q
  rcases Int.lt_or_le b 0 with hb | hb
  · rw [show ((b.natAbs : Nat) : Int) = -b from by omega]
    rcases Int.lt_or_le A 0 with ha | ha
    · simp [ha, hb] <;> grind
    · have : ¬ A < 0 := by omega
      simp [this, hb] <;> grind
  · rw [show ((b.natAbs : Nat) : Int) = b from by omega]
    have hb2 : ¬ b < 0 := by omega
    rcases Int.lt_or_le A 0 with ha | ha
    · simp [ha, hb2] <;> grind
    · have : ¬ A < 0 := by omega
      simp [this, hb2]
theorem rdiv_even (A b : Int) : rdiv A b % 2 = 0 ↔ qn A.natAbs b.natAbs % 2 = 0 := by
  unfold rdiv; split <;> omega
theorem rdiv_near (A b : Int) (hb : b ≠ 0) : -(b.natAbs : Int) ≤ 2 * (A - rdiv A b * b) ∧ 2 * (A - rdiv A b * b) ≤ b.natAbs ∧ ((2 * (A - rdiv A b * b) = b.natAbs ∨ 2 * (A - rdiv A b * b) = -(b.natAbs : Int)) → rdiv A b % 2 = 0) := by
  obtain ⟨h1, h2, h3⟩ := qn_near A.natAbs b.natAbs (by omega) (by omega)
  rw [rdiv_mul, rdiv_even]
  generalize qn (A.natAbs : Int) (b.natAbs : Int) * (b.natAbs : Int) = p at *
  split
  · refine ⟨by omega, by omega, fun h => h3 (by omega)⟩
  · refine ⟨by omega, by omega, fun h => h3 (by omega)⟩
theorem walkN_WideEnclosed (A : Int) (w : World) (hA0 : -170141183460469231731687303715884105728 ≤ A) (hA1 : A ≤ 170141183460469231731687303715884105727) :
    Calls Try.prog 8 #[.agg #[.int .i64 (hw A), .int .u64 (lw A)]] w fun e w' => e = .returned (.bool true) ∧ Below w.heap.size w w' := by
  have r0 := rt_nonneg A
  have q0 : (w.alloc (.cells #[.int .i64 (hw A), .int .u64 (lw A)] 25)).cell? ⟨w.heap.size, 0, none⟩ = some (.int .i64 (hw A)) := by simp [go_sem]
  have q1 : (w.alloc (.cells #[.int .i64 (hw A), .int .u64 (lw A)] 25)).cell? ⟨w.heap.size, 1, none⟩ = some (.int .u64 (lw A)) := by simp [go_sem]
  have r1 := rt_hi A hA1
  by_cases c1 : 4611686018427387904 ≤ rt A
  · have hp : 0 < A := by
      rcases Int.lt_or_le 0 A with h | h
      · exact h
      · rw [rt_neg A h] at c1; omega
    have e1 : cmp3 A 0 = 1 := by unfold cmp3; rw [if_neg (by omega), if_pos (by omega)]
    have e2 : (rt A == 0) = false := by simp; omega
    go_enter Try.func8, Try.ntmps8
    go_wp2_with (first
      | (go_at_call 24; refine (nWRoot _ _ (by omega) (by omega)).mono ?_; rintro e w1 ⟨rfl, hB⟩; replace q0 := cell_later hB (by first | exact q0 | exact ck q0 | exact ck (ck q0) | exact ck (ck (ck q0))); replace q1 := cell_later hB (by first | exact q1 | exact ck q1 | exact ck (ck q1) | exact ck (ck (ck q1))))
      | (go_at_call 22; refine (nWSign _ _ (by omega) (by omega)).mono ?_; rintro e w1 ⟨rfl, hB⟩; replace q0 := cell_later hB (by first | exact q0 | exact ck q0 | exact ck (ck q0) | exact ck (ck (ck q0))); replace q1 := cell_later hB (by first | exact q1 | exact ck q1 | exact ck (ck q1) | exact ck (ck (ck q1))))
      | (go_at_call 16; refine (cAwake1 _).mono ?_; rintro e w1 ⟨rfl, hB⟩))
    go_ret
    exact ⟨rfl, by (repeat (first | exact Below.refl _ _ | assumption | apply Below.drew | apply below_drewN | refine below_alloc ?_ _ | refine below_step ?_ (by assumption) | refine Below.alloc ?_ (by first | exact Nat.le_refl _ | omega | (simp; omega) | simp) _ | refine Below.setCell ?_ (by first | exact Nat.le_refl _ | omega | (simp; omega) | simp) _))⟩
  · by_cases c2 : A < 0
    · have e1 : cmp3 A 0 = -1 := by unfold cmp3; rw [if_pos c2]
      have e2 : rt A = 0 := rt_neg A (by omega)
      go_enter Try.func8, Try.ntmps8
      go_wp2_with (first
        | (go_at_call 24; refine (nWRoot _ _ (by omega) (by omega)).mono ?_; rintro e w1 ⟨rfl, hB⟩; replace q0 := cell_later hB (by first | exact q0 | exact ck q0 | exact ck (ck q0) | exact ck (ck (ck q0))); replace q1 := cell_later hB (by first | exact q1 | exact ck q1 | exact ck (ck q1) | exact ck (ck (ck q1))))
        | (go_at_call 22; refine (nWSign _ _ (by omega) (by omega)).mono ?_; rintro e w1 ⟨rfl, hB⟩; replace q0 := cell_later hB (by first | exact q0 | exact ck q0 | exact ck (ck q0) | exact ck (ck (ck q0))); replace q1 := cell_later hB (by first | exact q1 | exact ck q1 | exact ck (ck q1) | exact ck (ck (ck q1))))
        | (go_at_call 16; refine (cAwake1 _).mono ?_; rintro e w1 ⟨rfl, hB⟩))
      go_ret
      exact ⟨rfl, by (repeat (first | exact Below.refl _ _ | assumption | apply Below.drew | apply below_drewN | refine below_alloc ?_ _ | refine below_step ?_ (by assumption) | refine Below.alloc ?_ (by first | exact Nat.le_refl _ | omega | (simp; omega) | simp) _ | refine Below.setCell ?_ (by first | exact Nat.le_refl _ | omega | (simp; omega) | simp) _))⟩
    · have e1 : ¬ (cmp3 A 0 < 0) := by unfold cmp3; rw [if_neg c2]; split <;> omega
      have s1 := rt_le A (by omega)
      have s2 := rt_gt A (by omega)
      obtain ⟨r, hr⟩ : ∃ r, rt A = r := ⟨_, rfl⟩
      rw [hr] at r0 r1 c1 s1 s2
      have e2 : cmp3 (r * r) A ≤ 0 := by unfold cmp3; split <;> first | omega | (rw [if_neg (by omega)]; omega)
      have e3 : 0 < cmp3 ((r + 1) * (r + 1)) A := by unfold cmp3; rw [if_neg (by omega), if_pos (by omega)]; decide
      have e4 : IntKind.i64.wrap (r) = r := IntWalk.i64_in _ (by omega)
      have e5 : IntKind.i64.wrap (r + 1) = r + 1 := IntWalk.i64_in _ (by omega)
      have m1 := mul_bd (r) (r) (by omega) (by omega) (by omega) (by omega)
      have m2 := mul_bd (r + 1) (r + 1) (by omega) (by omega) (by omega) (by omega)
      clear s1 s2
      go_enter Try.func8, Try.ntmps8
      go_wp2_with (first
        | (go_at_call 24; refine (nWRoot _ _ (by omega) (by omega)).mono ?_; rintro e w1 ⟨rfl, hB⟩; replace q0 := cell_later hB (by first | exact q0 | exact ck q0 | exact ck (ck q0) | exact ck (ck (ck q0))); replace q1 := cell_later hB (by first | exact q1 | exact ck q1 | exact ck (ck q1) | exact ck (ck (ck q1))))
        | (go_at_call 22; refine (nWSign _ _ (by omega) (by omega)).mono ?_; rintro e w1 ⟨rfl, hB⟩; replace q0 := cell_later hB (by first | exact q0 | exact ck q0 | exact ck (ck q0) | exact ck (ck (ck q0))); replace q1 := cell_later hB (by first | exact q1 | exact ck q1 | exact ck (ck q1) | exact ck (ck (ck q1)))))
      go_region_held3 (fun w' => w'.cell? ⟨w.heap.size, 0, none⟩ = some (.int .i64 (hw A)) ∧ w'.cell? ⟨w.heap.size, 1, none⟩ = some (.int .u64 (lw A))) (first | (refine ⟨cell_later hR ?_, cell_later hR ?_⟩ <;> (simp (maxDischargeDepth := 6) [go_sem, *]; done)) | (simp (maxDischargeDepth := 6) [go_sem, *]; done) | (exact ⟨alloc_swap (‹_ ∧ _›).1 (by first | exact hz | omega), alloc_swap (‹_ ∧ _›).2 (by first | exact hz | omega)⟩))
        (first
          | (go_at_call 12; refine (cWMul _ _ _ (by omega) (by omega) (by omega) (by omega)).mono ?_; rintro e w1 ⟨rfl, hR⟩; have hcR := bsome hR; have hfR := bfrozen hR)
          | (go_at_call 20; refine (nWCmp _ _ _).mono ?_; rintro e w1 ⟨rfl, hR⟩; have hcR := bsome hR; have hfR := bfrozen hR)
          | (go_at_call 16; refine (cAwake1 _).mono ?_; rintro e w1 ⟨rfl, hR⟩; have hcR := bsome hR; have hfR := bfrozen hR))
      all_goals go_wp2
      all_goals go_ret
      all_goals refine ⟨rfl, ?_⟩
      all_goals (repeat (first | exact Below.refl _ _ | assumption | apply Below.drew | apply below_drewN | refine below_alloc ?_ _ | refine below_step ?_ (by assumption) | refine Below.alloc ?_ (by first | exact Nat.le_refl _ | omega | (simp; omega) | simp) _ | refine Below.setCell ?_ (by first | exact Nat.le_refl _ | omega | (simp; omega) | simp) _))
theorem walk_WideEnclosed (x0 x1 : Int) (w : World) (h0 : -9223372036854775808 ≤ x0) (h1 : x0 ≤ 9223372036854775807) (h2 : 0 ≤ x1) (h3 : x1 ≤ 18446744073709551615) :
    Calls Try.prog 8 #[.agg #[.int .i64 x0, .int .u64 x1]] w fun e w' => e = .returned (.bool true) ∧ Below w.heap.size w w' := by
  have h := walkN_WideEnclosed (wv x0 x1) w (wv_lo x0 x1 h0 h2) (wv_hi x0 x1 h1 h3)
  rw [hw_wv x0 x1 h2 h3, lw_wv x0 x1 h2 h3] at h
  exact h
set_option maxHeartbeats 2000000 in
theorem walkN_WideNear (A b : Int) (w : World) (hA0 : -170141183460469231731687303715884105728 ≤ A) (hA1 : A ≤ 170141183460469231731687303715884105727) (b0 : -9223372036854775808 ≤ b) (b1 : b ≤ 9223372036854775807) :
    Calls Try.prog 10 #[.agg #[.int .i64 (hw A), .int .u64 (lw A)], .int .i64 b] w fun e w' => e = .returned (.bool true) ∧ Below w.heap.size w w' := by
  have q0 : (w.alloc (.cells #[.int .i64 (hw A), .int .u64 (lw A)] 25)).cell? ⟨w.heap.size, 0, none⟩ = some (.int .i64 (hw A)) := by simp [go_sem]
  have q1 : (w.alloc (.cells #[.int .i64 (hw A), .int .u64 (lw A)] 25)).cell? ⟨w.heap.size, 1, none⟩ = some (.int .u64 (lw A)) := by simp [go_sem]
  cases hok : dok A b with
  | false =>
    have hq : dq A b = 0 := by unfold dq; rw [hok]; rfl
    go_enter Try.func10, Try.ntmps10
    go_wp2_with (first
      | (go_at_call 17; refine (nWDiv _ _ _ (by omega) (by omega) (by omega) (by omega)).mono ?_; rintro e w1 ⟨rfl, hB⟩)
      | (go_at_call 16; refine (cAwake1 _).mono ?_; rintro e w1 ⟨rfl, hB⟩))
    go_ret
    exact ⟨rfl, by (repeat (first | exact Below.refl _ _ | assumption | apply Below.drew | apply below_drewN | refine below_alloc ?_ _ | refine below_step ?_ (by assumption) | refine Below.alloc ?_ (by first | exact Nat.le_refl _ | omega | (simp; omega) | simp) _ | refine Below.setCell ?_ (by first | exact Nat.le_refl _ | omega | (simp; omega) | simp) _))⟩
  | true =>
    have hb : b ≠ 0 := by intro h; unfold dok at hok; simp [h] at hok
    obtain ⟨n1, n2, n3⟩ := rdiv_near A b hb
    have hq : dq A b = rdiv A b := by unfold dq; rw [hok]; rfl
    have hf : fx (rdiv A b) = true := by unfold dok at hok; simp at hok; exact hok.2
    have hf2 : -9223372036854775808 ≤ rdiv A b ∧ rdiv A b ≤ 9223372036854775807 := by unfold fx at hf; simpa using hf
    obtain ⟨q, hr⟩ : ∃ q, rdiv A b = q := ⟨_, rfl⟩
    rw [hr] at n1 n2 n3 hq hf2
    obtain ⟨f0, f1⟩ := hf2
    obtain ⟨m0, m1⟩ := mul_bd q b f0 f1 b0 b1
    obtain ⟨P, hP⟩ : ∃ P, q * b = P := ⟨_, rfl⟩
    rw [hP] at n1 n2 n3 m0 m1
    obtain ⟨D, hD⟩ : ∃ D, A + -P = D := ⟨_, rfl⟩
    have hD' : A - P = D := by omega
    rw [hD'] at n1 n2 n3
    obtain ⟨T, hT⟩ : ∃ T, D + D = T := ⟨_, rfl⟩
    have t1 : -(b.natAbs : Int) ≤ T := by omega
    have t2 : T ≤ b.natAbs := by omega
    have t3 : (T = b.natAbs ∨ T = -(b.natAbs : Int)) → q.tmod 2 = 0 := by
      intro h
      have := n3 (by omega)
      obtain ⟨k, hk⟩ : ∃ k, q = 2 * k := ⟨q / 2, by omega⟩
      rw [hk]; exact Int.mul_tmod_right 2 k
    have c1 : cw (-P) = -P := cw_yes _ (by omega) (by omega)
    have c2 : fw (-P) = true := fw_yes _ (by omega) (by omega)
    have c3 : cw D = D := cw_yes _ (by omega) (by omega)
    have c4 : fw D = true := fw_yes _ (by omega) (by omega)
    have c5 : cw T = T := cw_yes _ (by omega) (by omega)
    have c6 : fw T = true := fw_yes _ (by omega) (by omega)
    have c7 : cw (-T) = -T := cw_yes _ (by omega) (by omega)
    have c8 : cw (-b) = -b := cw_yes _ (by omega) (by omega)
    have d0 : -170141183460469231731687303715884105728 ≤ D := by omega
    have d1 : D ≤ 170141183460469231731687303715884105727 := by omega
    have m2 : -85070591730234615865843651857942052864 ≤ P := m0
    have g0 : -9223372036854775808 ≤ T := by omega
    have g1 : T ≤ 9223372036854775808 := by omega
    clear n1 n2 n3
    have HD := Lib.hid hD'
    clear hD' hr hf
    rcases Int.lt_or_le b 0 with hbn | hbn
    · by_cases ht : T < 0
      · by_cases hl : -T < -b
        · have x1 : cmp3 T 0 < 0 := by unfold cmp3; rw [if_pos ht]; decide
          have x1' : (cmp3 T 0 < 0) := by omega
          have x2 : cmp3 (-T) (-b) = -1 := by unfold cmp3; rw [if_pos (by omega)]
          clear t1 t2 t3 x1 hl
          go_enter Try.func10, Try.ntmps10
          go_wp2_with fail; refine (nWDiv _ _ _ (by omega) (by omega) (by omega) (by omega)).mono ?_; rintro e w1 ⟨rfl, hB1⟩
          replace q0 := cell_later hB1 (by first | exact q0 | exact ck q0 | exact ck (ck q0) | exact ck (ck (ck q0))); replace q1 := cell_later hB1 (by first | exact q1 | exact ck q1 | exact ck (ck q1) | exact ck (ck (ck q1)))
          go_wp2_with fail; refine (cWMul _ _ _ (by omega) (by omega) (by omega) (by omega)).mono ?_; rintro e w2 ⟨rfl, hB2⟩
          replace q0 := cell_later hB2 (by first | exact q0 | exact ck q0 | exact ck (ck q0) | exact ck (ck (ck q0))); replace q1 := cell_later hB2 (by first | exact q1 | exact ck q1 | exact ck (ck q1) | exact ck (ck (ck q1)))
          go_wp2_with fail; refine (nWNeg _ _ (by omega) (by omega)).mono ?_; rintro e w3 ⟨rfl, hB3⟩
          replace q0 := cell_later hB3 (by first | exact q0 | exact ck q0 | exact ck (ck q0) | exact ck (ck (ck q0))); replace q1 := cell_later hB3 (by first | exact q1 | exact ck q1 | exact ck (ck q1) | exact ck (ck (ck q1)))
          go_wp2_with fail; refine (nWAdd _ _ _ (by omega) (by omega) (by omega) (by omega)).mono ?_; rintro e w4 ⟨rfl, hB4⟩
          clear q0 q1
          go_wp2_with fail; refine (nWAdd _ _ _ (by omega) (by omega) (by omega) (by omega)).mono ?_; rintro e w5 ⟨rfl, hB5⟩
          go_wp2_with fail; refine (cWOf _ _ (by omega) (by omega)).mono ?_; rintro e w6 ⟨rfl, hB6⟩
          have f2' := frozen_later (a := ⟨w5.heap.size, 0, none⟩) (v := .int .i64 (hw T)) hB6 (by simp [go_sem, *]) (by simp [go_sem, *]); have q2' := cell_later (a := ⟨w5.heap.size, 0, none⟩) (v := .int .i64 (hw T)) hB6 (by simp [go_sem, *]); try clear q2 f2; have q2 := q2'; have f2 := f2'; clear q2' f2'
          have f3' := frozen_later (a := ⟨w5.heap.size, 1, none⟩) (v := .int .u64 (lw T)) hB6 (by simp [go_sem, *]) (by simp [go_sem, *]); have q3' := cell_later (a := ⟨w5.heap.size, 1, none⟩) (v := .int .u64 (lw T)) hB6 (by simp [go_sem, *]); try clear q3 f3; have q3 := q3'; have f3 := f3'; clear q3' f3'
          have z6 : w5.heap.size < w6.heap.size := by have := hB6.size; simp at this; omega
          go_wp2_with fail; refine (nWNeg _ _ (by omega) (by omega)).mono ?_; rintro e w7 ⟨rfl, hB7⟩
          have f2' := frozen_later (a := ⟨w5.heap.size, 0, none⟩) (v := .int .i64 (hw T)) hB7 (by simp [go_sem, *]) (by simp [go_sem, *]); have q2' := cell_later (a := ⟨w5.heap.size, 0, none⟩) (v := .int .i64 (hw T)) hB7 (by simp [go_sem, *]); try clear q2 f2; have q2 := q2'; have f2 := f2'; clear q2' f2'
          have f3' := frozen_later (a := ⟨w5.heap.size, 1, none⟩) (v := .int .u64 (lw T)) hB7 (by simp [go_sem, *]) (by simp [go_sem, *]); have q3' := cell_later (a := ⟨w5.heap.size, 1, none⟩) (v := .int .u64 (lw T)) hB7 (by simp [go_sem, *]); try clear q3 f3; have q3 := q3'; have f3 := f3'; clear q3' f3'
          have f4' := frozen_later (a := ⟨w6.heap.size, 0, none⟩) (v := .int .i64 (hw b)) hB7 (by simp [go_sem, *]) (by simp [go_sem, *]); have q4' := cell_later (a := ⟨w6.heap.size, 0, none⟩) (v := .int .i64 (hw b)) hB7 (by simp [go_sem, *]); try clear q4 f4; have q4 := q4'; have f4 := f4'; clear q4' f4'
          have f5' := frozen_later (a := ⟨w6.heap.size, 1, none⟩) (v := .int .u64 (lw b)) hB7 (by simp [go_sem, *]) (by simp [go_sem, *]); have q5' := cell_later (a := ⟨w6.heap.size, 1, none⟩) (v := .int .u64 (lw b)) hB7 (by simp [go_sem, *]); try clear q5 f5; have q5 := q5'; have f5 := f5'; clear q5' f5'
          go_wp2_with fail; refine (nWSign _ _ (by omega) (by omega)).mono ?_; rintro e w8 ⟨rfl, hB8⟩
          have f2' := frozen_later (a := ⟨w5.heap.size, 0, none⟩) (v := .int .i64 (hw T)) hB8 (by simp [go_sem, *]) (by simp [go_sem, *]); have q2' := cell_later (a := ⟨w5.heap.size, 0, none⟩) (v := .int .i64 (hw T)) hB8 (by simp [go_sem, *]); try clear q2 f2; have q2 := q2'; have f2 := f2'; clear q2' f2'
          have f3' := frozen_later (a := ⟨w5.heap.size, 1, none⟩) (v := .int .u64 (lw T)) hB8 (by simp [go_sem, *]) (by simp [go_sem, *]); have q3' := cell_later (a := ⟨w5.heap.size, 1, none⟩) (v := .int .u64 (lw T)) hB8 (by simp [go_sem, *]); try clear q3 f3; have q3 := q3'; have f3 := f3'; clear q3' f3'
          have f4' := frozen_later (a := ⟨w6.heap.size, 0, none⟩) (v := .int .i64 (hw (-b))) hB8 (by simp [go_sem, *]) (by simp [go_sem, *]); have q4' := cell_later (a := ⟨w6.heap.size, 0, none⟩) (v := .int .i64 (hw (-b))) hB8 (by simp [go_sem, *]); try clear q4 f4; have q4 := q4'; have f4 := f4'; clear q4' f4'
          have f5' := frozen_later (a := ⟨w6.heap.size, 1, none⟩) (v := .int .u64 (lw (-b))) hB8 (by simp [go_sem, *]) (by simp [go_sem, *]); have q5' := cell_later (a := ⟨w6.heap.size, 1, none⟩) (v := .int .u64 (lw (-b))) hB8 (by simp [go_sem, *]); try clear q5 f5; have q5 := q5'; have f5 := f5'; clear q5' f5'
          go_wp2_with fail; refine (nWNeg _ _ (by omega) (by omega)).mono ?_; rintro e w9 ⟨rfl, hB9⟩
          have f2' := frozen_later (a := ⟨w5.heap.size, 0, none⟩) (v := .int .i64 (hw T)) hB9 (by simp [go_sem, *]) (by simp [go_sem, *]); have q2' := cell_later (a := ⟨w5.heap.size, 0, none⟩) (v := .int .i64 (hw T)) hB9 (by simp [go_sem, *]); try clear q2 f2; have q2 := q2'; have f2 := f2'; clear q2' f2'
          have f3' := frozen_later (a := ⟨w5.heap.size, 1, none⟩) (v := .int .u64 (lw T)) hB9 (by simp [go_sem, *]) (by simp [go_sem, *]); have q3' := cell_later (a := ⟨w5.heap.size, 1, none⟩) (v := .int .u64 (lw T)) hB9 (by simp [go_sem, *]); try clear q3 f3; have q3 := q3'; have f3 := f3'; clear q3' f3'
          have f4' := frozen_later (a := ⟨w6.heap.size, 0, none⟩) (v := .int .i64 (hw (-b))) hB9 (by simp [go_sem, *]) (by simp [go_sem, *]); have q4' := cell_later (a := ⟨w6.heap.size, 0, none⟩) (v := .int .i64 (hw (-b))) hB9 (by simp [go_sem, *]); try clear q4 f4; have q4 := q4'; have f4 := f4'; clear q4' f4'
          have f5' := frozen_later (a := ⟨w6.heap.size, 1, none⟩) (v := .int .u64 (lw (-b))) hB9 (by simp [go_sem, *]) (by simp [go_sem, *]); have q5' := cell_later (a := ⟨w6.heap.size, 1, none⟩) (v := .int .u64 (lw (-b))) hB9 (by simp [go_sem, *]); try clear q5 f5; have q5 := q5'; have f5 := f5'; clear q5' f5'
          go_wp2_with fail; refine (nWCmp _ _ _).mono ?_; rintro e w10 ⟨rfl, hB10⟩
          have f2' := frozen_later (a := ⟨w5.heap.size, 0, none⟩) (v := .int .i64 (hw (-T))) hB10 (by simp [go_sem, *]) (by simp [go_sem, *]); have q2' := cell_later (a := ⟨w5.heap.size, 0, none⟩) (v := .int .i64 (hw (-T))) hB10 (by simp [go_sem, *]); try clear q2 f2; have q2 := q2'; have f2 := f2'; clear q2' f2'
          have f3' := frozen_later (a := ⟨w5.heap.size, 1, none⟩) (v := .int .u64 (lw (-T))) hB10 (by simp [go_sem, *]) (by simp [go_sem, *]); have q3' := cell_later (a := ⟨w5.heap.size, 1, none⟩) (v := .int .u64 (lw (-T))) hB10 (by simp [go_sem, *]); try clear q3 f3; have q3 := q3'; have f3 := f3'; clear q3' f3'
          have f4' := frozen_later (a := ⟨w6.heap.size, 0, none⟩) (v := .int .i64 (hw (-b))) hB10 (by simp [go_sem, *]) (by simp [go_sem, *]); have q4' := cell_later (a := ⟨w6.heap.size, 0, none⟩) (v := .int .i64 (hw (-b))) hB10 (by simp [go_sem, *]); try clear q4 f4; have q4 := q4'; have f4 := f4'; clear q4' f4'
          have f5' := frozen_later (a := ⟨w6.heap.size, 1, none⟩) (v := .int .u64 (lw (-b))) hB10 (by simp [go_sem, *]) (by simp [go_sem, *]); have q5' := cell_later (a := ⟨w6.heap.size, 1, none⟩) (v := .int .u64 (lw (-b))) hB10 (by simp [go_sem, *]); try clear q5 f5; have q5 := q5'; have f5 := f5'; clear q5' f5'
          go_wp2_with fail; refine (nWCmp _ _ _).mono ?_; rintro e w11 ⟨rfl, hB11⟩
          go_wp2_with fail; refine (cAwake1 _).mono ?_; rintro e w12 ⟨rfl, hB12⟩
          go_wp2_with fail
          go_ret
          refine ⟨rfl, ?_⟩
          have y5 : w.heap.size ≤ w5.heap.size := by have a1 := hB1.size; have a2 := hB2.size; have a3 := hB3.size; have a4 := hB4.size; have a5 := hB5.size; simp at a1 a2 a3 a4 a5; omega
          have y6 : w.heap.size ≤ w6.heap.size := by omega
          (repeat (first | exact Below.refl _ _ | assumption | apply Below.drew | apply below_drewN | refine below_alloc ?_ _ | refine below_step ?_ (by assumption) | refine Below.alloc ?_ (by first | exact Nat.le_refl _ | omega | (simp; omega) | simp) _ | refine Below.setCell ?_ (by first | exact Nat.le_refl _ | omega | (simp; omega) | simp) _))
        · have x1 : cmp3 T 0 < 0 := by unfold cmp3; rw [if_pos ht]; decide
          have x1' : (cmp3 T 0 < 0) := by omega
          have x2 : cmp3 (-T) (-b) = 0 := by unfold cmp3; rw [if_neg (by omega), if_neg (by omega)]
          have x3 : q.tmod 2 = 0 := t3 (by omega)
          clear t1 t2 t3 x1 hl
          go_enter Try.func10, Try.ntmps10
          go_wp2_with fail; refine (nWDiv _ _ _ (by omega) (by omega) (by omega) (by omega)).mono ?_; rintro e w1 ⟨rfl, hB1⟩
          replace q0 := cell_later hB1 (by first | exact q0 | exact ck q0 | exact ck (ck q0) | exact ck (ck (ck q0))); replace q1 := cell_later hB1 (by first | exact q1 | exact ck q1 | exact ck (ck q1) | exact ck (ck (ck q1)))
          go_wp2_with fail; refine (cWMul _ _ _ (by omega) (by omega) (by omega) (by omega)).mono ?_; rintro e w2 ⟨rfl, hB2⟩
          replace q0 := cell_later hB2 (by first | exact q0 | exact ck q0 | exact ck (ck q0) | exact ck (ck (ck q0))); replace q1 := cell_later hB2 (by first | exact q1 | exact ck q1 | exact ck (ck q1) | exact ck (ck (ck q1)))
          go_wp2_with fail; refine (nWNeg _ _ (by omega) (by omega)).mono ?_; rintro e w3 ⟨rfl, hB3⟩
          replace q0 := cell_later hB3 (by first | exact q0 | exact ck q0 | exact ck (ck q0) | exact ck (ck (ck q0))); replace q1 := cell_later hB3 (by first | exact q1 | exact ck q1 | exact ck (ck q1) | exact ck (ck (ck q1)))
          go_wp2_with fail; refine (nWAdd _ _ _ (by omega) (by omega) (by omega) (by omega)).mono ?_; rintro e w4 ⟨rfl, hB4⟩
          clear q0 q1
          go_wp2_with fail; refine (nWAdd _ _ _ (by omega) (by omega) (by omega) (by omega)).mono ?_; rintro e w5 ⟨rfl, hB5⟩
          go_wp2_with fail; refine (cWOf _ _ (by omega) (by omega)).mono ?_; rintro e w6 ⟨rfl, hB6⟩
          have f2' := frozen_later (a := ⟨w5.heap.size, 0, none⟩) (v := .int .i64 (hw T)) hB6 (by simp [go_sem, *]) (by simp [go_sem, *]); have q2' := cell_later (a := ⟨w5.heap.size, 0, none⟩) (v := .int .i64 (hw T)) hB6 (by simp [go_sem, *]); try clear q2 f2; have q2 := q2'; have f2 := f2'; clear q2' f2'
          have f3' := frozen_later (a := ⟨w5.heap.size, 1, none⟩) (v := .int .u64 (lw T)) hB6 (by simp [go_sem, *]) (by simp [go_sem, *]); have q3' := cell_later (a := ⟨w5.heap.size, 1, none⟩) (v := .int .u64 (lw T)) hB6 (by simp [go_sem, *]); try clear q3 f3; have q3 := q3'; have f3 := f3'; clear q3' f3'
          have z6 : w5.heap.size < w6.heap.size := by have := hB6.size; simp at this; omega
          go_wp2_with fail; refine (nWNeg _ _ (by omega) (by omega)).mono ?_; rintro e w7 ⟨rfl, hB7⟩
          have f2' := frozen_later (a := ⟨w5.heap.size, 0, none⟩) (v := .int .i64 (hw T)) hB7 (by simp [go_sem, *]) (by simp [go_sem, *]); have q2' := cell_later (a := ⟨w5.heap.size, 0, none⟩) (v := .int .i64 (hw T)) hB7 (by simp [go_sem, *]); try clear q2 f2; have q2 := q2'; have f2 := f2'; clear q2' f2'
          have f3' := frozen_later (a := ⟨w5.heap.size, 1, none⟩) (v := .int .u64 (lw T)) hB7 (by simp [go_sem, *]) (by simp [go_sem, *]); have q3' := cell_later (a := ⟨w5.heap.size, 1, none⟩) (v := .int .u64 (lw T)) hB7 (by simp [go_sem, *]); try clear q3 f3; have q3 := q3'; have f3 := f3'; clear q3' f3'
          have f4' := frozen_later (a := ⟨w6.heap.size, 0, none⟩) (v := .int .i64 (hw b)) hB7 (by simp [go_sem, *]) (by simp [go_sem, *]); have q4' := cell_later (a := ⟨w6.heap.size, 0, none⟩) (v := .int .i64 (hw b)) hB7 (by simp [go_sem, *]); try clear q4 f4; have q4 := q4'; have f4 := f4'; clear q4' f4'
          have f5' := frozen_later (a := ⟨w6.heap.size, 1, none⟩) (v := .int .u64 (lw b)) hB7 (by simp [go_sem, *]) (by simp [go_sem, *]); have q5' := cell_later (a := ⟨w6.heap.size, 1, none⟩) (v := .int .u64 (lw b)) hB7 (by simp [go_sem, *]); try clear q5 f5; have q5 := q5'; have f5 := f5'; clear q5' f5'
          go_wp2_with fail; refine (nWSign _ _ (by omega) (by omega)).mono ?_; rintro e w8 ⟨rfl, hB8⟩
          have f2' := frozen_later (a := ⟨w5.heap.size, 0, none⟩) (v := .int .i64 (hw T)) hB8 (by simp [go_sem, *]) (by simp [go_sem, *]); have q2' := cell_later (a := ⟨w5.heap.size, 0, none⟩) (v := .int .i64 (hw T)) hB8 (by simp [go_sem, *]); try clear q2 f2; have q2 := q2'; have f2 := f2'; clear q2' f2'
          have f3' := frozen_later (a := ⟨w5.heap.size, 1, none⟩) (v := .int .u64 (lw T)) hB8 (by simp [go_sem, *]) (by simp [go_sem, *]); have q3' := cell_later (a := ⟨w5.heap.size, 1, none⟩) (v := .int .u64 (lw T)) hB8 (by simp [go_sem, *]); try clear q3 f3; have q3 := q3'; have f3 := f3'; clear q3' f3'
          have f4' := frozen_later (a := ⟨w6.heap.size, 0, none⟩) (v := .int .i64 (hw (-b))) hB8 (by simp [go_sem, *]) (by simp [go_sem, *]); have q4' := cell_later (a := ⟨w6.heap.size, 0, none⟩) (v := .int .i64 (hw (-b))) hB8 (by simp [go_sem, *]); try clear q4 f4; have q4 := q4'; have f4 := f4'; clear q4' f4'
          have f5' := frozen_later (a := ⟨w6.heap.size, 1, none⟩) (v := .int .u64 (lw (-b))) hB8 (by simp [go_sem, *]) (by simp [go_sem, *]); have q5' := cell_later (a := ⟨w6.heap.size, 1, none⟩) (v := .int .u64 (lw (-b))) hB8 (by simp [go_sem, *]); try clear q5 f5; have q5 := q5'; have f5 := f5'; clear q5' f5'
          go_wp2_with fail; refine (nWNeg _ _ (by omega) (by omega)).mono ?_; rintro e w9 ⟨rfl, hB9⟩
          have f2' := frozen_later (a := ⟨w5.heap.size, 0, none⟩) (v := .int .i64 (hw T)) hB9 (by simp [go_sem, *]) (by simp [go_sem, *]); have q2' := cell_later (a := ⟨w5.heap.size, 0, none⟩) (v := .int .i64 (hw T)) hB9 (by simp [go_sem, *]); try clear q2 f2; have q2 := q2'; have f2 := f2'; clear q2' f2'
          have f3' := frozen_later (a := ⟨w5.heap.size, 1, none⟩) (v := .int .u64 (lw T)) hB9 (by simp [go_sem, *]) (by simp [go_sem, *]); have q3' := cell_later (a := ⟨w5.heap.size, 1, none⟩) (v := .int .u64 (lw T)) hB9 (by simp [go_sem, *]); try clear q3 f3; have q3 := q3'; have f3 := f3'; clear q3' f3'
          have f4' := frozen_later (a := ⟨w6.heap.size, 0, none⟩) (v := .int .i64 (hw (-b))) hB9 (by simp [go_sem, *]) (by simp [go_sem, *]); have q4' := cell_later (a := ⟨w6.heap.size, 0, none⟩) (v := .int .i64 (hw (-b))) hB9 (by simp [go_sem, *]); try clear q4 f4; have q4 := q4'; have f4 := f4'; clear q4' f4'
          have f5' := frozen_later (a := ⟨w6.heap.size, 1, none⟩) (v := .int .u64 (lw (-b))) hB9 (by simp [go_sem, *]) (by simp [go_sem, *]); have q5' := cell_later (a := ⟨w6.heap.size, 1, none⟩) (v := .int .u64 (lw (-b))) hB9 (by simp [go_sem, *]); try clear q5 f5; have q5 := q5'; have f5 := f5'; clear q5' f5'
          go_wp2_with fail; refine (nWCmp _ _ _).mono ?_; rintro e w10 ⟨rfl, hB10⟩
          have f2' := frozen_later (a := ⟨w5.heap.size, 0, none⟩) (v := .int .i64 (hw (-T))) hB10 (by simp [go_sem, *]) (by simp [go_sem, *]); have q2' := cell_later (a := ⟨w5.heap.size, 0, none⟩) (v := .int .i64 (hw (-T))) hB10 (by simp [go_sem, *]); try clear q2 f2; have q2 := q2'; have f2 := f2'; clear q2' f2'
          have f3' := frozen_later (a := ⟨w5.heap.size, 1, none⟩) (v := .int .u64 (lw (-T))) hB10 (by simp [go_sem, *]) (by simp [go_sem, *]); have q3' := cell_later (a := ⟨w5.heap.size, 1, none⟩) (v := .int .u64 (lw (-T))) hB10 (by simp [go_sem, *]); try clear q3 f3; have q3 := q3'; have f3 := f3'; clear q3' f3'
          have f4' := frozen_later (a := ⟨w6.heap.size, 0, none⟩) (v := .int .i64 (hw (-b))) hB10 (by simp [go_sem, *]) (by simp [go_sem, *]); have q4' := cell_later (a := ⟨w6.heap.size, 0, none⟩) (v := .int .i64 (hw (-b))) hB10 (by simp [go_sem, *]); try clear q4 f4; have q4 := q4'; have f4 := f4'; clear q4' f4'
          have f5' := frozen_later (a := ⟨w6.heap.size, 1, none⟩) (v := .int .u64 (lw (-b))) hB10 (by simp [go_sem, *]) (by simp [go_sem, *]); have q5' := cell_later (a := ⟨w6.heap.size, 1, none⟩) (v := .int .u64 (lw (-b))) hB10 (by simp [go_sem, *]); try clear q5 f5; have q5 := q5'; have f5 := f5'; clear q5' f5'
          go_wp2_with fail; refine (nWCmp _ _ _).mono ?_; rintro e w11 ⟨rfl, hB11⟩
          go_wp2_with fail; refine (cAwake1 _).mono ?_; rintro e w12 ⟨rfl, hB12⟩
          go_wp2_with fail
          go_ret
          refine ⟨rfl, ?_⟩
          have y5 : w.heap.size ≤ w5.heap.size := by have a1 := hB1.size; have a2 := hB2.size; have a3 := hB3.size; have a4 := hB4.size; have a5 := hB5.size; simp at a1 a2 a3 a4 a5; omega
          have y6 : w.heap.size ≤ w6.heap.size := by omega
          (repeat (first | exact Below.refl _ _ | assumption | apply Below.drew | apply below_drewN | refine below_alloc ?_ _ | refine below_step ?_ (by assumption) | refine Below.alloc ?_ (by first | exact Nat.le_refl _ | omega | (simp; omega) | simp) _ | refine Below.setCell ?_ (by first | exact Nat.le_refl _ | omega | (simp; omega) | simp) _))
      · by_cases hl : T < -b
        · have x1 : cmp3 T 0 ≥ 0 := by unfold cmp3; rw [if_neg ht]; split <;> omega
          have x1' : ¬ (cmp3 T 0 < 0) := by omega
          have x2 : cmp3 (T) (-b) = -1 := by unfold cmp3; rw [if_pos (by omega)]
          clear t1 t2 t3 x1 hl
          go_enter Try.func10, Try.ntmps10
          go_wp2_with fail; refine (nWDiv _ _ _ (by omega) (by omega) (by omega) (by omega)).mono ?_; rintro e w1 ⟨rfl, hB1⟩
          replace q0 := cell_later hB1 (by first | exact q0 | exact ck q0 | exact ck (ck q0) | exact ck (ck (ck q0))); replace q1 := cell_later hB1 (by first | exact q1 | exact ck q1 | exact ck (ck q1) | exact ck (ck (ck q1)))
          go_wp2_with fail; refine (cWMul _ _ _ (by omega) (by omega) (by omega) (by omega)).mono ?_; rintro e w2 ⟨rfl, hB2⟩
          replace q0 := cell_later hB2 (by first | exact q0 | exact ck q0 | exact ck (ck q0) | exact ck (ck (ck q0))); replace q1 := cell_later hB2 (by first | exact q1 | exact ck q1 | exact ck (ck q1) | exact ck (ck (ck q1)))
          go_wp2_with fail; refine (nWNeg _ _ (by omega) (by omega)).mono ?_; rintro e w3 ⟨rfl, hB3⟩
          replace q0 := cell_later hB3 (by first | exact q0 | exact ck q0 | exact ck (ck q0) | exact ck (ck (ck q0))); replace q1 := cell_later hB3 (by first | exact q1 | exact ck q1 | exact ck (ck q1) | exact ck (ck (ck q1)))
          go_wp2_with fail; refine (nWAdd _ _ _ (by omega) (by omega) (by omega) (by omega)).mono ?_; rintro e w4 ⟨rfl, hB4⟩
          clear q0 q1
          go_wp2_with fail; refine (nWAdd _ _ _ (by omega) (by omega) (by omega) (by omega)).mono ?_; rintro e w5 ⟨rfl, hB5⟩
          go_wp2_with fail; refine (cWOf _ _ (by omega) (by omega)).mono ?_; rintro e w6 ⟨rfl, hB6⟩
          have f2' := frozen_later (a := ⟨w5.heap.size, 0, none⟩) (v := .int .i64 (hw T)) hB6 (by simp [go_sem, *]) (by simp [go_sem, *]); have q2' := cell_later (a := ⟨w5.heap.size, 0, none⟩) (v := .int .i64 (hw T)) hB6 (by simp [go_sem, *]); try clear q2 f2; have q2 := q2'; have f2 := f2'; clear q2' f2'
          have f3' := frozen_later (a := ⟨w5.heap.size, 1, none⟩) (v := .int .u64 (lw T)) hB6 (by simp [go_sem, *]) (by simp [go_sem, *]); have q3' := cell_later (a := ⟨w5.heap.size, 1, none⟩) (v := .int .u64 (lw T)) hB6 (by simp [go_sem, *]); try clear q3 f3; have q3 := q3'; have f3 := f3'; clear q3' f3'
          have z6 : w5.heap.size < w6.heap.size := by have := hB6.size; simp at this; omega
          go_wp2_with fail; refine (nWNeg _ _ (by omega) (by omega)).mono ?_; rintro e w7 ⟨rfl, hB7⟩
          have f2' := frozen_later (a := ⟨w5.heap.size, 0, none⟩) (v := .int .i64 (hw T)) hB7 (by simp [go_sem, *]) (by simp [go_sem, *]); have q2' := cell_later (a := ⟨w5.heap.size, 0, none⟩) (v := .int .i64 (hw T)) hB7 (by simp [go_sem, *]); try clear q2 f2; have q2 := q2'; have f2 := f2'; clear q2' f2'
          have f3' := frozen_later (a := ⟨w5.heap.size, 1, none⟩) (v := .int .u64 (lw T)) hB7 (by simp [go_sem, *]) (by simp [go_sem, *]); have q3' := cell_later (a := ⟨w5.heap.size, 1, none⟩) (v := .int .u64 (lw T)) hB7 (by simp [go_sem, *]); try clear q3 f3; have q3 := q3'; have f3 := f3'; clear q3' f3'
          have f4' := frozen_later (a := ⟨w6.heap.size, 0, none⟩) (v := .int .i64 (hw b)) hB7 (by simp [go_sem, *]) (by simp [go_sem, *]); have q4' := cell_later (a := ⟨w6.heap.size, 0, none⟩) (v := .int .i64 (hw b)) hB7 (by simp [go_sem, *]); try clear q4 f4; have q4 := q4'; have f4 := f4'; clear q4' f4'
          have f5' := frozen_later (a := ⟨w6.heap.size, 1, none⟩) (v := .int .u64 (lw b)) hB7 (by simp [go_sem, *]) (by simp [go_sem, *]); have q5' := cell_later (a := ⟨w6.heap.size, 1, none⟩) (v := .int .u64 (lw b)) hB7 (by simp [go_sem, *]); try clear q5 f5; have q5 := q5'; have f5 := f5'; clear q5' f5'
          go_wp2_with fail; refine (nWSign _ _ (by omega) (by omega)).mono ?_; rintro e w8 ⟨rfl, hB8⟩
          have f2' := frozen_later (a := ⟨w5.heap.size, 0, none⟩) (v := .int .i64 (hw T)) hB8 (by simp [go_sem, *]) (by simp [go_sem, *]); have q2' := cell_later (a := ⟨w5.heap.size, 0, none⟩) (v := .int .i64 (hw T)) hB8 (by simp [go_sem, *]); try clear q2 f2; have q2 := q2'; have f2 := f2'; clear q2' f2'
          have f3' := frozen_later (a := ⟨w5.heap.size, 1, none⟩) (v := .int .u64 (lw T)) hB8 (by simp [go_sem, *]) (by simp [go_sem, *]); have q3' := cell_later (a := ⟨w5.heap.size, 1, none⟩) (v := .int .u64 (lw T)) hB8 (by simp [go_sem, *]); try clear q3 f3; have q3 := q3'; have f3 := f3'; clear q3' f3'
          have f4' := frozen_later (a := ⟨w6.heap.size, 0, none⟩) (v := .int .i64 (hw (-b))) hB8 (by simp [go_sem, *]) (by simp [go_sem, *]); have q4' := cell_later (a := ⟨w6.heap.size, 0, none⟩) (v := .int .i64 (hw (-b))) hB8 (by simp [go_sem, *]); try clear q4 f4; have q4 := q4'; have f4 := f4'; clear q4' f4'
          have f5' := frozen_later (a := ⟨w6.heap.size, 1, none⟩) (v := .int .u64 (lw (-b))) hB8 (by simp [go_sem, *]) (by simp [go_sem, *]); have q5' := cell_later (a := ⟨w6.heap.size, 1, none⟩) (v := .int .u64 (lw (-b))) hB8 (by simp [go_sem, *]); try clear q5 f5; have q5 := q5'; have f5 := f5'; clear q5' f5'
          go_wp2_with fail; refine (nWCmp _ _ _).mono ?_; rintro e w10 ⟨rfl, hB10⟩
          have f2' := frozen_later (a := ⟨w5.heap.size, 0, none⟩) (v := .int .i64 (hw (T))) hB10 (by simp [go_sem, *]) (by simp [go_sem, *]); have q2' := cell_later (a := ⟨w5.heap.size, 0, none⟩) (v := .int .i64 (hw (T))) hB10 (by simp [go_sem, *]); try clear q2 f2; have q2 := q2'; have f2 := f2'; clear q2' f2'
          have f3' := frozen_later (a := ⟨w5.heap.size, 1, none⟩) (v := .int .u64 (lw (T))) hB10 (by simp [go_sem, *]) (by simp [go_sem, *]); have q3' := cell_later (a := ⟨w5.heap.size, 1, none⟩) (v := .int .u64 (lw (T))) hB10 (by simp [go_sem, *]); try clear q3 f3; have q3 := q3'; have f3 := f3'; clear q3' f3'
          have f4' := frozen_later (a := ⟨w6.heap.size, 0, none⟩) (v := .int .i64 (hw (-b))) hB10 (by simp [go_sem, *]) (by simp [go_sem, *]); have q4' := cell_later (a := ⟨w6.heap.size, 0, none⟩) (v := .int .i64 (hw (-b))) hB10 (by simp [go_sem, *]); try clear q4 f4; have q4 := q4'; have f4 := f4'; clear q4' f4'
          have f5' := frozen_later (a := ⟨w6.heap.size, 1, none⟩) (v := .int .u64 (lw (-b))) hB10 (by simp [go_sem, *]) (by simp [go_sem, *]); have q5' := cell_later (a := ⟨w6.heap.size, 1, none⟩) (v := .int .u64 (lw (-b))) hB10 (by simp [go_sem, *]); try clear q5 f5; have q5 := q5'; have f5 := f5'; clear q5' f5'
          go_wp2_with fail; refine (nWCmp _ _ _).mono ?_; rintro e w11 ⟨rfl, hB11⟩
          go_wp2_with fail; refine (cAwake1 _).mono ?_; rintro e w12 ⟨rfl, hB12⟩
          go_wp2_with fail
          go_ret
          refine ⟨rfl, ?_⟩
          have y5 : w.heap.size ≤ w5.heap.size := by have a1 := hB1.size; have a2 := hB2.size; have a3 := hB3.size; have a4 := hB4.size; have a5 := hB5.size; simp at a1 a2 a3 a4 a5; omega
          have y6 : w.heap.size ≤ w6.heap.size := by omega
          (repeat (first | exact Below.refl _ _ | assumption | apply Below.drew | apply below_drewN | refine below_alloc ?_ _ | refine below_step ?_ (by assumption) | refine Below.alloc ?_ (by first | exact Nat.le_refl _ | omega | (simp; omega) | simp) _ | refine Below.setCell ?_ (by first | exact Nat.le_refl _ | omega | (simp; omega) | simp) _))
        · have x1 : cmp3 T 0 ≥ 0 := by unfold cmp3; rw [if_neg ht]; split <;> omega
          have x1' : ¬ (cmp3 T 0 < 0) := by omega
          have x2 : cmp3 (T) (-b) = 0 := by unfold cmp3; rw [if_neg (by omega), if_neg (by omega)]
          have x3 : q.tmod 2 = 0 := t3 (by omega)
          clear t1 t2 t3 x1 hl
          go_enter Try.func10, Try.ntmps10
          go_wp2_with fail; refine (nWDiv _ _ _ (by omega) (by omega) (by omega) (by omega)).mono ?_; rintro e w1 ⟨rfl, hB1⟩
          replace q0 := cell_later hB1 (by first | exact q0 | exact ck q0 | exact ck (ck q0) | exact ck (ck (ck q0))); replace q1 := cell_later hB1 (by first | exact q1 | exact ck q1 | exact ck (ck q1) | exact ck (ck (ck q1)))
          go_wp2_with fail; refine (cWMul _ _ _ (by omega) (by omega) (by omega) (by omega)).mono ?_; rintro e w2 ⟨rfl, hB2⟩
          replace q0 := cell_later hB2 (by first | exact q0 | exact ck q0 | exact ck (ck q0) | exact ck (ck (ck q0))); replace q1 := cell_later hB2 (by first | exact q1 | exact ck q1 | exact ck (ck q1) | exact ck (ck (ck q1)))
          go_wp2_with fail; refine (nWNeg _ _ (by omega) (by omega)).mono ?_; rintro e w3 ⟨rfl, hB3⟩
          replace q0 := cell_later hB3 (by first | exact q0 | exact ck q0 | exact ck (ck q0) | exact ck (ck (ck q0))); replace q1 := cell_later hB3 (by first | exact q1 | exact ck q1 | exact ck (ck q1) | exact ck (ck (ck q1)))
          go_wp2_with fail; refine (nWAdd _ _ _ (by omega) (by omega) (by omega) (by omega)).mono ?_; rintro e w4 ⟨rfl, hB4⟩
          clear q0 q1
          go_wp2_with fail; refine (nWAdd _ _ _ (by omega) (by omega) (by omega) (by omega)).mono ?_; rintro e w5 ⟨rfl, hB5⟩
          go_wp2_with fail; refine (cWOf _ _ (by omega) (by omega)).mono ?_; rintro e w6 ⟨rfl, hB6⟩
          have f2' := frozen_later (a := ⟨w5.heap.size, 0, none⟩) (v := .int .i64 (hw T)) hB6 (by simp [go_sem, *]) (by simp [go_sem, *]); have q2' := cell_later (a := ⟨w5.heap.size, 0, none⟩) (v := .int .i64 (hw T)) hB6 (by simp [go_sem, *]); try clear q2 f2; have q2 := q2'; have f2 := f2'; clear q2' f2'
          have f3' := frozen_later (a := ⟨w5.heap.size, 1, none⟩) (v := .int .u64 (lw T)) hB6 (by simp [go_sem, *]) (by simp [go_sem, *]); have q3' := cell_later (a := ⟨w5.heap.size, 1, none⟩) (v := .int .u64 (lw T)) hB6 (by simp [go_sem, *]); try clear q3 f3; have q3 := q3'; have f3 := f3'; clear q3' f3'
          have z6 : w5.heap.size < w6.heap.size := by have := hB6.size; simp at this; omega
          go_wp2_with fail; refine (nWNeg _ _ (by omega) (by omega)).mono ?_; rintro e w7 ⟨rfl, hB7⟩
          have f2' := frozen_later (a := ⟨w5.heap.size, 0, none⟩) (v := .int .i64 (hw T)) hB7 (by simp [go_sem, *]) (by simp [go_sem, *]); have q2' := cell_later (a := ⟨w5.heap.size, 0, none⟩) (v := .int .i64 (hw T)) hB7 (by simp [go_sem, *]); try clear q2 f2; have q2 := q2'; have f2 := f2'; clear q2' f2'
          have f3' := frozen_later (a := ⟨w5.heap.size, 1, none⟩) (v := .int .u64 (lw T)) hB7 (by simp [go_sem, *]) (by simp [go_sem, *]); have q3' := cell_later (a := ⟨w5.heap.size, 1, none⟩) (v := .int .u64 (lw T)) hB7 (by simp [go_sem, *]); try clear q3 f3; have q3 := q3'; have f3 := f3'; clear q3' f3'
          have f4' := frozen_later (a := ⟨w6.heap.size, 0, none⟩) (v := .int .i64 (hw b)) hB7 (by simp [go_sem, *]) (by simp [go_sem, *]); have q4' := cell_later (a := ⟨w6.heap.size, 0, none⟩) (v := .int .i64 (hw b)) hB7 (by simp [go_sem, *]); try clear q4 f4; have q4 := q4'; have f4 := f4'; clear q4' f4'
          have f5' := frozen_later (a := ⟨w6.heap.size, 1, none⟩) (v := .int .u64 (lw b)) hB7 (by simp [go_sem, *]) (by simp [go_sem, *]); have q5' := cell_later (a := ⟨w6.heap.size, 1, none⟩) (v := .int .u64 (lw b)) hB7 (by simp [go_sem, *]); try clear q5 f5; have q5 := q5'; have f5 := f5'; clear q5' f5'
          go_wp2_with fail; refine (nWSign _ _ (by omega) (by omega)).mono ?_; rintro e w8 ⟨rfl, hB8⟩
          have f2' := frozen_later (a := ⟨w5.heap.size, 0, none⟩) (v := .int .i64 (hw T)) hB8 (by simp [go_sem, *]) (by simp [go_sem, *]); have q2' := cell_later (a := ⟨w5.heap.size, 0, none⟩) (v := .int .i64 (hw T)) hB8 (by simp [go_sem, *]); try clear q2 f2; have q2 := q2'; have f2 := f2'; clear q2' f2'
          have f3' := frozen_later (a := ⟨w5.heap.size, 1, none⟩) (v := .int .u64 (lw T)) hB8 (by simp [go_sem, *]) (by simp [go_sem, *]); have q3' := cell_later (a := ⟨w5.heap.size, 1, none⟩) (v := .int .u64 (lw T)) hB8 (by simp [go_sem, *]); try clear q3 f3; have q3 := q3'; have f3 := f3'; clear q3' f3'
          have f4' := frozen_later (a := ⟨w6.heap.size, 0, none⟩) (v := .int .i64 (hw (-b))) hB8 (by simp [go_sem, *]) (by simp [go_sem, *]); have q4' := cell_later (a := ⟨w6.heap.size, 0, none⟩) (v := .int .i64 (hw (-b))) hB8 (by simp [go_sem, *]); try clear q4 f4; have q4 := q4'; have f4 := f4'; clear q4' f4'
          have f5' := frozen_later (a := ⟨w6.heap.size, 1, none⟩) (v := .int .u64 (lw (-b))) hB8 (by simp [go_sem, *]) (by simp [go_sem, *]); have q5' := cell_later (a := ⟨w6.heap.size, 1, none⟩) (v := .int .u64 (lw (-b))) hB8 (by simp [go_sem, *]); try clear q5 f5; have q5 := q5'; have f5 := f5'; clear q5' f5'
          go_wp2_with fail; refine (nWCmp _ _ _).mono ?_; rintro e w10 ⟨rfl, hB10⟩
          have f2' := frozen_later (a := ⟨w5.heap.size, 0, none⟩) (v := .int .i64 (hw (T))) hB10 (by simp [go_sem, *]) (by simp [go_sem, *]); have q2' := cell_later (a := ⟨w5.heap.size, 0, none⟩) (v := .int .i64 (hw (T))) hB10 (by simp [go_sem, *]); try clear q2 f2; have q2 := q2'; have f2 := f2'; clear q2' f2'
          have f3' := frozen_later (a := ⟨w5.heap.size, 1, none⟩) (v := .int .u64 (lw (T))) hB10 (by simp [go_sem, *]) (by simp [go_sem, *]); have q3' := cell_later (a := ⟨w5.heap.size, 1, none⟩) (v := .int .u64 (lw (T))) hB10 (by simp [go_sem, *]); try clear q3 f3; have q3 := q3'; have f3 := f3'; clear q3' f3'
          have f4' := frozen_later (a := ⟨w6.heap.size, 0, none⟩) (v := .int .i64 (hw (-b))) hB10 (by simp [go_sem, *]) (by simp [go_sem, *]); have q4' := cell_later (a := ⟨w6.heap.size, 0, none⟩) (v := .int .i64 (hw (-b))) hB10 (by simp [go_sem, *]); try clear q4 f4; have q4 := q4'; have f4 := f4'; clear q4' f4'
          have f5' := frozen_later (a := ⟨w6.heap.size, 1, none⟩) (v := .int .u64 (lw (-b))) hB10 (by simp [go_sem, *]) (by simp [go_sem, *]); have q5' := cell_later (a := ⟨w6.heap.size, 1, none⟩) (v := .int .u64 (lw (-b))) hB10 (by simp [go_sem, *]); try clear q5 f5; have q5 := q5'; have f5 := f5'; clear q5' f5'
          go_wp2_with fail; refine (nWCmp _ _ _).mono ?_; rintro e w11 ⟨rfl, hB11⟩
          go_wp2_with fail; refine (cAwake1 _).mono ?_; rintro e w12 ⟨rfl, hB12⟩
          go_wp2_with fail
          go_ret
          refine ⟨rfl, ?_⟩
          have y5 : w.heap.size ≤ w5.heap.size := by have a1 := hB1.size; have a2 := hB2.size; have a3 := hB3.size; have a4 := hB4.size; have a5 := hB5.size; simp at a1 a2 a3 a4 a5; omega
          have y6 : w.heap.size ≤ w6.heap.size := by omega
          (repeat (first | exact Below.refl _ _ | assumption | apply Below.drew | apply below_drewN | refine below_alloc ?_ _ | refine below_step ?_ (by assumption) | refine Below.alloc ?_ (by first | exact Nat.le_refl _ | omega | (simp; omega) | simp) _ | refine Below.setCell ?_ (by first | exact Nat.le_refl _ | omega | (simp; omega) | simp) _))
    · by_cases ht : T < 0
      · by_cases hl : -T < b
        · have x1 : cmp3 T 0 < 0 := by unfold cmp3; rw [if_pos ht]; decide
          have x1' : (cmp3 T 0 < 0) := by omega
          have x2 : cmp3 (-T) (b) = -1 := by unfold cmp3; rw [if_pos (by omega)]
          clear t1 t2 t3 x1 hl
          go_enter Try.func10, Try.ntmps10
          go_wp2_with fail; refine (nWDiv _ _ _ (by omega) (by omega) (by omega) (by omega)).mono ?_; rintro e w1 ⟨rfl, hB1⟩
          replace q0 := cell_later hB1 (by first | exact q0 | exact ck q0 | exact ck (ck q0) | exact ck (ck (ck q0))); replace q1 := cell_later hB1 (by first | exact q1 | exact ck q1 | exact ck (ck q1) | exact ck (ck (ck q1)))
          go_wp2_with fail; refine (cWMul _ _ _ (by omega) (by omega) (by omega) (by omega)).mono ?_; rintro e w2 ⟨rfl, hB2⟩
          replace q0 := cell_later hB2 (by first | exact q0 | exact ck q0 | exact ck (ck q0) | exact ck (ck (ck q0))); replace q1 := cell_later hB2 (by first | exact q1 | exact ck q1 | exact ck (ck q1) | exact ck (ck (ck q1)))
          go_wp2_with fail; refine (nWNeg _ _ (by omega) (by omega)).mono ?_; rintro e w3 ⟨rfl, hB3⟩
          replace q0 := cell_later hB3 (by first | exact q0 | exact ck q0 | exact ck (ck q0) | exact ck (ck (ck q0))); replace q1 := cell_later hB3 (by first | exact q1 | exact ck q1 | exact ck (ck q1) | exact ck (ck (ck q1)))
          go_wp2_with fail; refine (nWAdd _ _ _ (by omega) (by omega) (by omega) (by omega)).mono ?_; rintro e w4 ⟨rfl, hB4⟩
          clear q0 q1
          go_wp2_with fail; refine (nWAdd _ _ _ (by omega) (by omega) (by omega) (by omega)).mono ?_; rintro e w5 ⟨rfl, hB5⟩
          go_wp2_with fail; refine (cWOf _ _ (by omega) (by omega)).mono ?_; rintro e w6 ⟨rfl, hB6⟩
          have f2' := frozen_later (a := ⟨w5.heap.size, 0, none⟩) (v := .int .i64 (hw T)) hB6 (by simp [go_sem, *]) (by simp [go_sem, *]); have q2' := cell_later (a := ⟨w5.heap.size, 0, none⟩) (v := .int .i64 (hw T)) hB6 (by simp [go_sem, *]); try clear q2 f2; have q2 := q2'; have f2 := f2'; clear q2' f2'
          have f3' := frozen_later (a := ⟨w5.heap.size, 1, none⟩) (v := .int .u64 (lw T)) hB6 (by simp [go_sem, *]) (by simp [go_sem, *]); have q3' := cell_later (a := ⟨w5.heap.size, 1, none⟩) (v := .int .u64 (lw T)) hB6 (by simp [go_sem, *]); try clear q3 f3; have q3 := q3'; have f3 := f3'; clear q3' f3'
          have z6 : w5.heap.size < w6.heap.size := by have := hB6.size; simp at this; omega
          go_wp2_with fail; refine (nWSign _ _ (by omega) (by omega)).mono ?_; rintro e w8 ⟨rfl, hB8⟩
          have f2' := frozen_later (a := ⟨w5.heap.size, 0, none⟩) (v := .int .i64 (hw T)) hB8 (by simp [go_sem, *]) (by simp [go_sem, *]); have q2' := cell_later (a := ⟨w5.heap.size, 0, none⟩) (v := .int .i64 (hw T)) hB8 (by simp [go_sem, *]); try clear q2 f2; have q2 := q2'; have f2 := f2'; clear q2' f2'
          have f3' := frozen_later (a := ⟨w5.heap.size, 1, none⟩) (v := .int .u64 (lw T)) hB8 (by simp [go_sem, *]) (by simp [go_sem, *]); have q3' := cell_later (a := ⟨w5.heap.size, 1, none⟩) (v := .int .u64 (lw T)) hB8 (by simp [go_sem, *]); try clear q3 f3; have q3 := q3'; have f3 := f3'; clear q3' f3'
          have f4' := frozen_later (a := ⟨w6.heap.size, 0, none⟩) (v := .int .i64 (hw (b))) hB8 (by simp [go_sem, *]) (by simp [go_sem, *]); have q4' := cell_later (a := ⟨w6.heap.size, 0, none⟩) (v := .int .i64 (hw (b))) hB8 (by simp [go_sem, *]); try clear q4 f4; have q4 := q4'; have f4 := f4'; clear q4' f4'
          have f5' := frozen_later (a := ⟨w6.heap.size, 1, none⟩) (v := .int .u64 (lw (b))) hB8 (by simp [go_sem, *]) (by simp [go_sem, *]); have q5' := cell_later (a := ⟨w6.heap.size, 1, none⟩) (v := .int .u64 (lw (b))) hB8 (by simp [go_sem, *]); try clear q5 f5; have q5 := q5'; have f5 := f5'; clear q5' f5'
          go_wp2_with fail; refine (nWNeg _ _ (by omega) (by omega)).mono ?_; rintro e w9 ⟨rfl, hB9⟩
          have f2' := frozen_later (a := ⟨w5.heap.size, 0, none⟩) (v := .int .i64 (hw T)) hB9 (by simp [go_sem, *]) (by simp [go_sem, *]); have q2' := cell_later (a := ⟨w5.heap.size, 0, none⟩) (v := .int .i64 (hw T)) hB9 (by simp [go_sem, *]); try clear q2 f2; have q2 := q2'; have f2 := f2'; clear q2' f2'
          have f3' := frozen_later (a := ⟨w5.heap.size, 1, none⟩) (v := .int .u64 (lw T)) hB9 (by simp [go_sem, *]) (by simp [go_sem, *]); have q3' := cell_later (a := ⟨w5.heap.size, 1, none⟩) (v := .int .u64 (lw T)) hB9 (by simp [go_sem, *]); try clear q3 f3; have q3 := q3'; have f3 := f3'; clear q3' f3'
          have f4' := frozen_later (a := ⟨w6.heap.size, 0, none⟩) (v := .int .i64 (hw (b))) hB9 (by simp [go_sem, *]) (by simp [go_sem, *]); have q4' := cell_later (a := ⟨w6.heap.size, 0, none⟩) (v := .int .i64 (hw (b))) hB9 (by simp [go_sem, *]); try clear q4 f4; have q4 := q4'; have f4 := f4'; clear q4' f4'
          have f5' := frozen_later (a := ⟨w6.heap.size, 1, none⟩) (v := .int .u64 (lw (b))) hB9 (by simp [go_sem, *]) (by simp [go_sem, *]); have q5' := cell_later (a := ⟨w6.heap.size, 1, none⟩) (v := .int .u64 (lw (b))) hB9 (by simp [go_sem, *]); try clear q5 f5; have q5 := q5'; have f5 := f5'; clear q5' f5'
          go_wp2_with fail; refine (nWCmp _ _ _).mono ?_; rintro e w10 ⟨rfl, hB10⟩
          have f2' := frozen_later (a := ⟨w5.heap.size, 0, none⟩) (v := .int .i64 (hw (-T))) hB10 (by simp [go_sem, *]) (by simp [go_sem, *]); have q2' := cell_later (a := ⟨w5.heap.size, 0, none⟩) (v := .int .i64 (hw (-T))) hB10 (by simp [go_sem, *]); try clear q2 f2; have q2 := q2'; have f2 := f2'; clear q2' f2'
          have f3' := frozen_later (a := ⟨w5.heap.size, 1, none⟩) (v := .int .u64 (lw (-T))) hB10 (by simp [go_sem, *]) (by simp [go_sem, *]); have q3' := cell_later (a := ⟨w5.heap.size, 1, none⟩) (v := .int .u64 (lw (-T))) hB10 (by simp [go_sem, *]); try clear q3 f3; have q3 := q3'; have f3 := f3'; clear q3' f3'
          have f4' := frozen_later (a := ⟨w6.heap.size, 0, none⟩) (v := .int .i64 (hw (b))) hB10 (by simp [go_sem, *]) (by simp [go_sem, *]); have q4' := cell_later (a := ⟨w6.heap.size, 0, none⟩) (v := .int .i64 (hw (b))) hB10 (by simp [go_sem, *]); try clear q4 f4; have q4 := q4'; have f4 := f4'; clear q4' f4'
          have f5' := frozen_later (a := ⟨w6.heap.size, 1, none⟩) (v := .int .u64 (lw (b))) hB10 (by simp [go_sem, *]) (by simp [go_sem, *]); have q5' := cell_later (a := ⟨w6.heap.size, 1, none⟩) (v := .int .u64 (lw (b))) hB10 (by simp [go_sem, *]); try clear q5 f5; have q5 := q5'; have f5 := f5'; clear q5' f5'
          go_wp2_with fail; refine (nWCmp _ _ _).mono ?_; rintro e w11 ⟨rfl, hB11⟩
          go_wp2_with fail; refine (cAwake1 _).mono ?_; rintro e w12 ⟨rfl, hB12⟩
          go_wp2_with fail
          go_ret
          refine ⟨rfl, ?_⟩
          have y5 : w.heap.size ≤ w5.heap.size := by have a1 := hB1.size; have a2 := hB2.size; have a3 := hB3.size; have a4 := hB4.size; have a5 := hB5.size; simp at a1 a2 a3 a4 a5; omega
          have y6 : w.heap.size ≤ w6.heap.size := by omega
          (repeat (first | exact Below.refl _ _ | assumption | apply Below.drew | apply below_drewN | refine below_alloc ?_ _ | refine below_step ?_ (by assumption) | refine Below.alloc ?_ (by first | exact Nat.le_refl _ | omega | (simp; omega) | simp) _ | refine Below.setCell ?_ (by first | exact Nat.le_refl _ | omega | (simp; omega) | simp) _))
        · have x1 : cmp3 T 0 < 0 := by unfold cmp3; rw [if_pos ht]; decide
          have x1' : (cmp3 T 0 < 0) := by omega
          have x2 : cmp3 (-T) (b) = 0 := by unfold cmp3; rw [if_neg (by omega), if_neg (by omega)]
          have x3 : q.tmod 2 = 0 := t3 (by omega)
          clear t1 t2 t3 x1 hl
          go_enter Try.func10, Try.ntmps10
          go_wp2_with fail; refine (nWDiv _ _ _ (by omega) (by omega) (by omega) (by omega)).mono ?_; rintro e w1 ⟨rfl, hB1⟩
          replace q0 := cell_later hB1 (by first | exact q0 | exact ck q0 | exact ck (ck q0) | exact ck (ck (ck q0))); replace q1 := cell_later hB1 (by first | exact q1 | exact ck q1 | exact ck (ck q1) | exact ck (ck (ck q1)))
          go_wp2_with fail; refine (cWMul _ _ _ (by omega) (by omega) (by omega) (by omega)).mono ?_; rintro e w2 ⟨rfl, hB2⟩
          replace q0 := cell_later hB2 (by first | exact q0 | exact ck q0 | exact ck (ck q0) | exact ck (ck (ck q0))); replace q1 := cell_later hB2 (by first | exact q1 | exact ck q1 | exact ck (ck q1) | exact ck (ck (ck q1)))
          go_wp2_with fail; refine (nWNeg _ _ (by omega) (by omega)).mono ?_; rintro e w3 ⟨rfl, hB3⟩
          replace q0 := cell_later hB3 (by first | exact q0 | exact ck q0 | exact ck (ck q0) | exact ck (ck (ck q0))); replace q1 := cell_later hB3 (by first | exact q1 | exact ck q1 | exact ck (ck q1) | exact ck (ck (ck q1)))
          go_wp2_with fail; refine (nWAdd _ _ _ (by omega) (by omega) (by omega) (by omega)).mono ?_; rintro e w4 ⟨rfl, hB4⟩
          clear q0 q1
          go_wp2_with fail; refine (nWAdd _ _ _ (by omega) (by omega) (by omega) (by omega)).mono ?_; rintro e w5 ⟨rfl, hB5⟩
          go_wp2_with fail; refine (cWOf _ _ (by omega) (by omega)).mono ?_; rintro e w6 ⟨rfl, hB6⟩
          have f2' := frozen_later (a := ⟨w5.heap.size, 0, none⟩) (v := .int .i64 (hw T)) hB6 (by simp [go_sem, *]) (by simp [go_sem, *]); have q2' := cell_later (a := ⟨w5.heap.size, 0, none⟩) (v := .int .i64 (hw T)) hB6 (by simp [go_sem, *]); try clear q2 f2; have q2 := q2'; have f2 := f2'; clear q2' f2'
          have f3' := frozen_later (a := ⟨w5.heap.size, 1, none⟩) (v := .int .u64 (lw T)) hB6 (by simp [go_sem, *]) (by simp [go_sem, *]); have q3' := cell_later (a := ⟨w5.heap.size, 1, none⟩) (v := .int .u64 (lw T)) hB6 (by simp [go_sem, *]); try clear q3 f3; have q3 := q3'; have f3 := f3'; clear q3' f3'
          have z6 : w5.heap.size < w6.heap.size := by have := hB6.size; simp at this; omega
          go_wp2_with fail; refine (nWSign _ _ (by omega) (by omega)).mono ?_; rintro e w8 ⟨rfl, hB8⟩
          have f2' := frozen_later (a := ⟨w5.heap.size, 0, none⟩) (v := .int .i64 (hw T)) hB8 (by simp [go_sem, *]) (by simp [go_sem, *]); have q2' := cell_later (a := ⟨w5.heap.size, 0, none⟩) (v := .int .i64 (hw T)) hB8 (by simp [go_sem, *]); try clear q2 f2; have q2 := q2'; have f2 := f2'; clear q2' f2'
          have f3' := frozen_later (a := ⟨w5.heap.size, 1, none⟩) (v := .int .u64 (lw T)) hB8 (by simp [go_sem, *]) (by simp [go_sem, *]); have q3' := cell_later (a := ⟨w5.heap.size, 1, none⟩) (v := .int .u64 (lw T)) hB8 (by simp [go_sem, *]); try clear q3 f3; have q3 := q3'; have f3 := f3'; clear q3' f3'
          have f4' := frozen_later (a := ⟨w6.heap.size, 0, none⟩) (v := .int .i64 (hw (b))) hB8 (by simp [go_sem, *]) (by simp [go_sem, *]); have q4' := cell_later (a := ⟨w6.heap.size, 0, none⟩) (v := .int .i64 (hw (b))) hB8 (by simp [go_sem, *]); try clear q4 f4; have q4 := q4'; have f4 := f4'; clear q4' f4'
          have f5' := frozen_later (a := ⟨w6.heap.size, 1, none⟩) (v := .int .u64 (lw (b))) hB8 (by simp [go_sem, *]) (by simp [go_sem, *]); have q5' := cell_later (a := ⟨w6.heap.size, 1, none⟩) (v := .int .u64 (lw (b))) hB8 (by simp [go_sem, *]); try clear q5 f5; have q5 := q5'; have f5 := f5'; clear q5' f5'
          go_wp2_with fail; refine (nWNeg _ _ (by omega) (by omega)).mono ?_; rintro e w9 ⟨rfl, hB9⟩
          have f2' := frozen_later (a := ⟨w5.heap.size, 0, none⟩) (v := .int .i64 (hw T)) hB9 (by simp [go_sem, *]) (by simp [go_sem, *]); have q2' := cell_later (a := ⟨w5.heap.size, 0, none⟩) (v := .int .i64 (hw T)) hB9 (by simp [go_sem, *]); try clear q2 f2; have q2 := q2'; have f2 := f2'; clear q2' f2'
          have f3' := frozen_later (a := ⟨w5.heap.size, 1, none⟩) (v := .int .u64 (lw T)) hB9 (by simp [go_sem, *]) (by simp [go_sem, *]); have q3' := cell_later (a := ⟨w5.heap.size, 1, none⟩) (v := .int .u64 (lw T)) hB9 (by simp [go_sem, *]); try clear q3 f3; have q3 := q3'; have f3 := f3'; clear q3' f3'
          have f4' := frozen_later (a := ⟨w6.heap.size, 0, none⟩) (v := .int .i64 (hw (b))) hB9 (by simp [go_sem, *]) (by simp [go_sem, *]); have q4' := cell_later (a := ⟨w6.heap.size, 0, none⟩) (v := .int .i64 (hw (b))) hB9 (by simp [go_sem, *]); try clear q4 f4; have q4 := q4'; have f4 := f4'; clear q4' f4'
          have f5' := frozen_later (a := ⟨w6.heap.size, 1, none⟩) (v := .int .u64 (lw (b))) hB9 (by simp [go_sem, *]) (by simp [go_sem, *]); have q5' := cell_later (a := ⟨w6.heap.size, 1, none⟩) (v := .int .u64 (lw (b))) hB9 (by simp [go_sem, *]); try clear q5 f5; have q5 := q5'; have f5 := f5'; clear q5' f5'
          go_wp2_with fail; refine (nWCmp _ _ _).mono ?_; rintro e w10 ⟨rfl, hB10⟩
          have f2' := frozen_later (a := ⟨w5.heap.size, 0, none⟩) (v := .int .i64 (hw (-T))) hB10 (by simp [go_sem, *]) (by simp [go_sem, *]); have q2' := cell_later (a := ⟨w5.heap.size, 0, none⟩) (v := .int .i64 (hw (-T))) hB10 (by simp [go_sem, *]); try clear q2 f2; have q2 := q2'; have f2 := f2'; clear q2' f2'
          have f3' := frozen_later (a := ⟨w5.heap.size, 1, none⟩) (v := .int .u64 (lw (-T))) hB10 (by simp [go_sem, *]) (by simp [go_sem, *]); have q3' := cell_later (a := ⟨w5.heap.size, 1, none⟩) (v := .int .u64 (lw (-T))) hB10 (by simp [go_sem, *]); try clear q3 f3; have q3 := q3'; have f3 := f3'; clear q3' f3'
          have f4' := frozen_later (a := ⟨w6.heap.size, 0, none⟩) (v := .int .i64 (hw (b))) hB10 (by simp [go_sem, *]) (by simp [go_sem, *]); have q4' := cell_later (a := ⟨w6.heap.size, 0, none⟩) (v := .int .i64 (hw (b))) hB10 (by simp [go_sem, *]); try clear q4 f4; have q4 := q4'; have f4 := f4'; clear q4' f4'
          have f5' := frozen_later (a := ⟨w6.heap.size, 1, none⟩) (v := .int .u64 (lw (b))) hB10 (by simp [go_sem, *]) (by simp [go_sem, *]); have q5' := cell_later (a := ⟨w6.heap.size, 1, none⟩) (v := .int .u64 (lw (b))) hB10 (by simp [go_sem, *]); try clear q5 f5; have q5 := q5'; have f5 := f5'; clear q5' f5'
          go_wp2_with fail; refine (nWCmp _ _ _).mono ?_; rintro e w11 ⟨rfl, hB11⟩
          go_wp2_with fail; refine (cAwake1 _).mono ?_; rintro e w12 ⟨rfl, hB12⟩
          go_wp2_with fail
          go_ret
          refine ⟨rfl, ?_⟩
          have y5 : w.heap.size ≤ w5.heap.size := by have a1 := hB1.size; have a2 := hB2.size; have a3 := hB3.size; have a4 := hB4.size; have a5 := hB5.size; simp at a1 a2 a3 a4 a5; omega
          have y6 : w.heap.size ≤ w6.heap.size := by omega
          (repeat (first | exact Below.refl _ _ | assumption | apply Below.drew | apply below_drewN | refine below_alloc ?_ _ | refine below_step ?_ (by assumption) | refine Below.alloc ?_ (by first | exact Nat.le_refl _ | omega | (simp; omega) | simp) _ | refine Below.setCell ?_ (by first | exact Nat.le_refl _ | omega | (simp; omega) | simp) _))
      · by_cases hl : T < b
        · have x1 : cmp3 T 0 ≥ 0 := by unfold cmp3; rw [if_neg ht]; split <;> omega
          have x1' : ¬ (cmp3 T 0 < 0) := by omega
          have x2 : cmp3 (T) (b) = -1 := by unfold cmp3; rw [if_pos (by omega)]
          clear t1 t2 t3 x1 hl
          go_enter Try.func10, Try.ntmps10
          go_wp2_with fail; refine (nWDiv _ _ _ (by omega) (by omega) (by omega) (by omega)).mono ?_; rintro e w1 ⟨rfl, hB1⟩
          replace q0 := cell_later hB1 (by first | exact q0 | exact ck q0 | exact ck (ck q0) | exact ck (ck (ck q0))); replace q1 := cell_later hB1 (by first | exact q1 | exact ck q1 | exact ck (ck q1) | exact ck (ck (ck q1)))
          go_wp2_with fail; refine (cWMul _ _ _ (by omega) (by omega) (by omega) (by omega)).mono ?_; rintro e w2 ⟨rfl, hB2⟩
          replace q0 := cell_later hB2 (by first | exact q0 | exact ck q0 | exact ck (ck q0) | exact ck (ck (ck q0))); replace q1 := cell_later hB2 (by first | exact q1 | exact ck q1 | exact ck (ck q1) | exact ck (ck (ck q1)))
          go_wp2_with fail; refine (nWNeg _ _ (by omega) (by omega)).mono ?_; rintro e w3 ⟨rfl, hB3⟩
          replace q0 := cell_later hB3 (by first | exact q0 | exact ck q0 | exact ck (ck q0) | exact ck (ck (ck q0))); replace q1 := cell_later hB3 (by first | exact q1 | exact ck q1 | exact ck (ck q1) | exact ck (ck (ck q1)))
          go_wp2_with fail; refine (nWAdd _ _ _ (by omega) (by omega) (by omega) (by omega)).mono ?_; rintro e w4 ⟨rfl, hB4⟩
          clear q0 q1
          go_wp2_with fail; refine (nWAdd _ _ _ (by omega) (by omega) (by omega) (by omega)).mono ?_; rintro e w5 ⟨rfl, hB5⟩
          go_wp2_with fail; refine (cWOf _ _ (by omega) (by omega)).mono ?_; rintro e w6 ⟨rfl, hB6⟩
          have f2' := frozen_later (a := ⟨w5.heap.size, 0, none⟩) (v := .int .i64 (hw T)) hB6 (by simp [go_sem, *]) (by simp [go_sem, *]); have q2' := cell_later (a := ⟨w5.heap.size, 0, none⟩) (v := .int .i64 (hw T)) hB6 (by simp [go_sem, *]); try clear q2 f2; have q2 := q2'; have f2 := f2'; clear q2' f2'
          have f3' := frozen_later (a := ⟨w5.heap.size, 1, none⟩) (v := .int .u64 (lw T)) hB6 (by simp [go_sem, *]) (by simp [go_sem, *]); have q3' := cell_later (a := ⟨w5.heap.size, 1, none⟩) (v := .int .u64 (lw T)) hB6 (by simp [go_sem, *]); try clear q3 f3; have q3 := q3'; have f3 := f3'; clear q3' f3'
          have z6 : w5.heap.size < w6.heap.size := by have := hB6.size; simp at this; omega
          go_wp2_with fail; refine (nWSign _ _ (by omega) (by omega)).mono ?_; rintro e w8 ⟨rfl, hB8⟩
          have f2' := frozen_later (a := ⟨w5.heap.size, 0, none⟩) (v := .int .i64 (hw T)) hB8 (by simp [go_sem, *]) (by simp [go_sem, *]); have q2' := cell_later (a := ⟨w5.heap.size, 0, none⟩) (v := .int .i64 (hw T)) hB8 (by simp [go_sem, *]); try clear q2 f2; have q2 := q2'; have f2 := f2'; clear q2' f2'
          have f3' := frozen_later (a := ⟨w5.heap.size, 1, none⟩) (v := .int .u64 (lw T)) hB8 (by simp [go_sem, *]) (by simp [go_sem, *]); have q3' := cell_later (a := ⟨w5.heap.size, 1, none⟩) (v := .int .u64 (lw T)) hB8 (by simp [go_sem, *]); try clear q3 f3; have q3 := q3'; have f3 := f3'; clear q3' f3'
          have f4' := frozen_later (a := ⟨w6.heap.size, 0, none⟩) (v := .int .i64 (hw (b))) hB8 (by simp [go_sem, *]) (by simp [go_sem, *]); have q4' := cell_later (a := ⟨w6.heap.size, 0, none⟩) (v := .int .i64 (hw (b))) hB8 (by simp [go_sem, *]); try clear q4 f4; have q4 := q4'; have f4 := f4'; clear q4' f4'
          have f5' := frozen_later (a := ⟨w6.heap.size, 1, none⟩) (v := .int .u64 (lw (b))) hB8 (by simp [go_sem, *]) (by simp [go_sem, *]); have q5' := cell_later (a := ⟨w6.heap.size, 1, none⟩) (v := .int .u64 (lw (b))) hB8 (by simp [go_sem, *]); try clear q5 f5; have q5 := q5'; have f5 := f5'; clear q5' f5'
          go_wp2_with fail; refine (nWCmp _ _ _).mono ?_; rintro e w10 ⟨rfl, hB10⟩
          have f2' := frozen_later (a := ⟨w5.heap.size, 0, none⟩) (v := .int .i64 (hw (T))) hB10 (by simp [go_sem, *]) (by simp [go_sem, *]); have q2' := cell_later (a := ⟨w5.heap.size, 0, none⟩) (v := .int .i64 (hw (T))) hB10 (by simp [go_sem, *]); try clear q2 f2; have q2 := q2'; have f2 := f2'; clear q2' f2'
          have f3' := frozen_later (a := ⟨w5.heap.size, 1, none⟩) (v := .int .u64 (lw (T))) hB10 (by simp [go_sem, *]) (by simp [go_sem, *]); have q3' := cell_later (a := ⟨w5.heap.size, 1, none⟩) (v := .int .u64 (lw (T))) hB10 (by simp [go_sem, *]); try clear q3 f3; have q3 := q3'; have f3 := f3'; clear q3' f3'
          have f4' := frozen_later (a := ⟨w6.heap.size, 0, none⟩) (v := .int .i64 (hw (b))) hB10 (by simp [go_sem, *]) (by simp [go_sem, *]); have q4' := cell_later (a := ⟨w6.heap.size, 0, none⟩) (v := .int .i64 (hw (b))) hB10 (by simp [go_sem, *]); try clear q4 f4; have q4 := q4'; have f4 := f4'; clear q4' f4'
          have f5' := frozen_later (a := ⟨w6.heap.size, 1, none⟩) (v := .int .u64 (lw (b))) hB10 (by simp [go_sem, *]) (by simp [go_sem, *]); have q5' := cell_later (a := ⟨w6.heap.size, 1, none⟩) (v := .int .u64 (lw (b))) hB10 (by simp [go_sem, *]); try clear q5 f5; have q5 := q5'; have f5 := f5'; clear q5' f5'
          go_wp2_with fail; refine (nWCmp _ _ _).mono ?_; rintro e w11 ⟨rfl, hB11⟩
          go_wp2_with fail; refine (cAwake1 _).mono ?_; rintro e w12 ⟨rfl, hB12⟩
          go_wp2_with fail
          go_ret
          refine ⟨rfl, ?_⟩
          have y5 : w.heap.size ≤ w5.heap.size := by have a1 := hB1.size; have a2 := hB2.size; have a3 := hB3.size; have a4 := hB4.size; have a5 := hB5.size; simp at a1 a2 a3 a4 a5; omega
          have y6 : w.heap.size ≤ w6.heap.size := by omega
          (repeat (first | exact Below.refl _ _ | assumption | apply Below.drew | apply below_drewN | refine below_alloc ?_ _ | refine below_step ?_ (by assumption) | refine Below.alloc ?_ (by first | exact Nat.le_refl _ | omega | (simp; omega) | simp) _ | refine Below.setCell ?_ (by first | exact Nat.le_refl _ | omega | (simp; omega) | simp) _))
        · have x1 : cmp3 T 0 ≥ 0 := by unfold cmp3; rw [if_neg ht]; split <;> omega
          have x1' : ¬ (cmp3 T 0 < 0) := by omega
          have x2 : cmp3 (T) (b) = 0 := by unfold cmp3; rw [if_neg (by omega), if_neg (by omega)]
          have x3 : q.tmod 2 = 0 := t3 (by omega)
          clear t1 t2 t3 x1 hl
          go_enter Try.func10, Try.ntmps10
          go_wp2_with fail; refine (nWDiv _ _ _ (by omega) (by omega) (by omega) (by omega)).mono ?_; rintro e w1 ⟨rfl, hB1⟩
          replace q0 := cell_later hB1 (by first | exact q0 | exact ck q0 | exact ck (ck q0) | exact ck (ck (ck q0))); replace q1 := cell_later hB1 (by first | exact q1 | exact ck q1 | exact ck (ck q1) | exact ck (ck (ck q1)))
          go_wp2_with fail; refine (cWMul _ _ _ (by omega) (by omega) (by omega) (by omega)).mono ?_; rintro e w2 ⟨rfl, hB2⟩
          replace q0 := cell_later hB2 (by first | exact q0 | exact ck q0 | exact ck (ck q0) | exact ck (ck (ck q0))); replace q1 := cell_later hB2 (by first | exact q1 | exact ck q1 | exact ck (ck q1) | exact ck (ck (ck q1)))
          go_wp2_with fail; refine (nWNeg _ _ (by omega) (by omega)).mono ?_; rintro e w3 ⟨rfl, hB3⟩
          replace q0 := cell_later hB3 (by first | exact q0 | exact ck q0 | exact ck (ck q0) | exact ck (ck (ck q0))); replace q1 := cell_later hB3 (by first | exact q1 | exact ck q1 | exact ck (ck q1) | exact ck (ck (ck q1)))
          go_wp2_with fail; refine (nWAdd _ _ _ (by omega) (by omega) (by omega) (by omega)).mono ?_; rintro e w4 ⟨rfl, hB4⟩
          clear q0 q1
          go_wp2_with fail; refine (nWAdd _ _ _ (by omega) (by omega) (by omega) (by omega)).mono ?_; rintro e w5 ⟨rfl, hB5⟩
          go_wp2_with fail; refine (cWOf _ _ (by omega) (by omega)).mono ?_; rintro e w6 ⟨rfl, hB6⟩
          have f2' := frozen_later (a := ⟨w5.heap.size, 0, none⟩) (v := .int .i64 (hw T)) hB6 (by simp [go_sem, *]) (by simp [go_sem, *]); have q2' := cell_later (a := ⟨w5.heap.size, 0, none⟩) (v := .int .i64 (hw T)) hB6 (by simp [go_sem, *]); try clear q2 f2; have q2 := q2'; have f2 := f2'; clear q2' f2'
          have f3' := frozen_later (a := ⟨w5.heap.size, 1, none⟩) (v := .int .u64 (lw T)) hB6 (by simp [go_sem, *]) (by simp [go_sem, *]); have q3' := cell_later (a := ⟨w5.heap.size, 1, none⟩) (v := .int .u64 (lw T)) hB6 (by simp [go_sem, *]); try clear q3 f3; have q3 := q3'; have f3 := f3'; clear q3' f3'
          have z6 : w5.heap.size < w6.heap.size := by have := hB6.size; simp at this; omega
          go_wp2_with fail; refine (nWSign _ _ (by omega) (by omega)).mono ?_; rintro e w8 ⟨rfl, hB8⟩
          have f2' := frozen_later (a := ⟨w5.heap.size, 0, none⟩) (v := .int .i64 (hw T)) hB8 (by simp [go_sem, *]) (by simp [go_sem, *]); have q2' := cell_later (a := ⟨w5.heap.size, 0, none⟩) (v := .int .i64 (hw T)) hB8 (by simp [go_sem, *]); try clear q2 f2; have q2 := q2'; have f2 := f2'; clear q2' f2'
          have f3' := frozen_later (a := ⟨w5.heap.size, 1, none⟩) (v := .int .u64 (lw T)) hB8 (by simp [go_sem, *]) (by simp [go_sem, *]); have q3' := cell_later (a := ⟨w5.heap.size, 1, none⟩) (v := .int .u64 (lw T)) hB8 (by simp [go_sem, *]); try clear q3 f3; have q3 := q3'; have f3 := f3'; clear q3' f3'
          have f4' := frozen_later (a := ⟨w6.heap.size, 0, none⟩) (v := .int .i64 (hw (b))) hB8 (by simp [go_sem, *]) (by simp [go_sem, *]); have q4' := cell_later (a := ⟨w6.heap.size, 0, none⟩) (v := .int .i64 (hw (b))) hB8 (by simp [go_sem, *]); try clear q4 f4; have q4 := q4'; have f4 := f4'; clear q4' f4'
          have f5' := frozen_later (a := ⟨w6.heap.size, 1, none⟩) (v := .int .u64 (lw (b))) hB8 (by simp [go_sem, *]) (by simp [go_sem, *]); have q5' := cell_later (a := ⟨w6.heap.size, 1, none⟩) (v := .int .u64 (lw (b))) hB8 (by simp [go_sem, *]); try clear q5 f5; have q5 := q5'; have f5 := f5'; clear q5' f5'
          go_wp2_with fail; refine (nWCmp _ _ _).mono ?_; rintro e w10 ⟨rfl, hB10⟩
          have f2' := frozen_later (a := ⟨w5.heap.size, 0, none⟩) (v := .int .i64 (hw (T))) hB10 (by simp [go_sem, *]) (by simp [go_sem, *]); have q2' := cell_later (a := ⟨w5.heap.size, 0, none⟩) (v := .int .i64 (hw (T))) hB10 (by simp [go_sem, *]); try clear q2 f2; have q2 := q2'; have f2 := f2'; clear q2' f2'
          have f3' := frozen_later (a := ⟨w5.heap.size, 1, none⟩) (v := .int .u64 (lw (T))) hB10 (by simp [go_sem, *]) (by simp [go_sem, *]); have q3' := cell_later (a := ⟨w5.heap.size, 1, none⟩) (v := .int .u64 (lw (T))) hB10 (by simp [go_sem, *]); try clear q3 f3; have q3 := q3'; have f3 := f3'; clear q3' f3'
          have f4' := frozen_later (a := ⟨w6.heap.size, 0, none⟩) (v := .int .i64 (hw (b))) hB10 (by simp [go_sem, *]) (by simp [go_sem, *]); have q4' := cell_later (a := ⟨w6.heap.size, 0, none⟩) (v := .int .i64 (hw (b))) hB10 (by simp [go_sem, *]); try clear q4 f4; have q4 := q4'; have f4 := f4'; clear q4' f4'
          have f5' := frozen_later (a := ⟨w6.heap.size, 1, none⟩) (v := .int .u64 (lw (b))) hB10 (by simp [go_sem, *]) (by simp [go_sem, *]); have q5' := cell_later (a := ⟨w6.heap.size, 1, none⟩) (v := .int .u64 (lw (b))) hB10 (by simp [go_sem, *]); try clear q5 f5; have q5 := q5'; have f5 := f5'; clear q5' f5'
          go_wp2_with fail; refine (nWCmp _ _ _).mono ?_; rintro e w11 ⟨rfl, hB11⟩
          go_wp2_with fail; refine (cAwake1 _).mono ?_; rintro e w12 ⟨rfl, hB12⟩
          go_wp2_with fail
          go_ret
          refine ⟨rfl, ?_⟩
          have y5 : w.heap.size ≤ w5.heap.size := by have a1 := hB1.size; have a2 := hB2.size; have a3 := hB3.size; have a4 := hB4.size; have a5 := hB5.size; simp at a1 a2 a3 a4 a5; omega
          have y6 : w.heap.size ≤ w6.heap.size := by omega
          (repeat (first | exact Below.refl _ _ | assumption | apply Below.drew | apply below_drewN | refine below_alloc ?_ _ | refine below_step ?_ (by assumption) | refine Below.alloc ?_ (by first | exact Nat.le_refl _ | omega | (simp; omega) | simp) _ | refine Below.setCell ?_ (by first | exact Nat.le_refl _ | omega | (simp; omega) | simp) _))
theorem walk_WideNear (x0 x1 b : Int) (w : World) (h0 : -9223372036854775808 ≤ x0) (h1 : x0 ≤ 9223372036854775807) (h2 : 0 ≤ x1) (h3 : x1 ≤ 18446744073709551615) (h4 : -9223372036854775808 ≤ b) (h5 : b ≤ 9223372036854775807) :
    Calls Try.prog 10 #[.agg #[.int .i64 x0, .int .u64 x1], .int .i64 b] w fun e w' => e = .returned (.bool true) ∧ Below w.heap.size w w' := by
  have h := walkN_WideNear (wv x0 x1) b w (wv_lo x0 x1 h0 h2) (wv_hi x0 x1 h1 h3) h4 h5
  rw [hw_wv x0 x1 h2 h3, lw_wv x0 x1 h2 h3] at h
  exact h
end Go.Proofs.Ytmkpnejnjnkpiaa
