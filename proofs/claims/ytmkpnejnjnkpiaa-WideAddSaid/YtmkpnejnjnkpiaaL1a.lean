/- The walks of the laws of chapter 1 (wide) that ask no document's answer, and of its examples ('awake'). -/
import Derived.Test.YtmkpnejnjnkpiaaA6
namespace Go.Proofs.Ytmkpnejnjnkpiaa
open Go.RowKit
theorem cAwake1 (w : World) : Calls Try.prog 16 #[] w fun e w' => e = .returned (.bool true) ∧ Below w.heap.size w w' := by
  have e1 : dq 5 2 = 2 := by decide
  have e2 : dok 5 2 = true := by decide
  have e3 : dq 7 2 = 4 := by decide
  have e4 : dok 7 2 = true := by decide
  have e5 : pt 1 3 = 1431655765 := by decide
  have e6 : hw (-5) = -1 := by decide
  have e7 : lw (-5) = 18446744073709551611 := by decide
  go_enter Try.func16, Try.ntmps16
  go_wp2_with (first
    | (go_at_call 14; refine (cWOf _ _ (by decide) (by decide)).mono ?_; rintro e w1 ⟨rfl, hB⟩)
    | (go_at_call 12; refine (cWMul _ _ _ (by decide) (by decide) (by decide) (by decide)).mono ?_; rintro e w1 ⟨rfl, hB⟩)
    | (go_at_call 17; refine (cWDiv _ _ _ _ (by decide) (by decide) (by decide) (by decide) (by decide) (by decide)).mono ?_; rintro e w1 ⟨rfl, hB⟩)
    | (go_at_call 26; refine (cPart _ _ _ _ _ (by decide) (by decide) (by decide) (by decide) (by decide) (by decide) (by decide) (by decide)).mono ?_; rintro e w1 ⟨rfl, hB⟩))
  go_ret
  refine ⟨rfl, ?_⟩
  (repeat (first | exact Below.refl _ _ | assumption | apply Below.drew | apply below_drewN | refine below_alloc ?_ _ | refine below_step ?_ (by assumption) | refine Below.alloc ?_ (by first | exact Nat.le_refl _ | omega | (simp; omega) | simp) _ | refine Below.setCell ?_ (by first | exact Nat.le_refl _ | omega | (simp; omega) | simp) _))
theorem sign_mul (a b : Int) : cmp3 a 0 * cmp3 b 0 = cmp3 (a * b) 0 := by
  unfold cmp3
  rcases (show a < 0 ∨ a = 0 ∨ 0 < a from by omega) with ha | ha | ha <;> rcases (show b < 0 ∨ b = 0 ∨ 0 < b from by omega) with hb | hb | hb
  · have := Int.mul_pos_of_neg_of_neg ha hb; rw [if_pos ha, if_pos hb, if_neg (by omega), if_pos this]; decide
  · subst hb; simp
  · have := Int.mul_neg_of_neg_of_pos ha hb; rw [if_pos ha, if_neg (by omega), if_pos hb, if_pos this]; decide
  · subst ha; simp
  · subst ha; simp
  · subst ha; simp
  · have := Int.mul_neg_of_pos_of_neg ha hb; rw [if_neg (by omega), if_pos ha, if_pos hb, if_pos this]; decide
  · subst hb; simp
  · have := Int.mul_pos ha hb; rw [if_neg (by omega), if_pos ha, if_neg (by omega), if_pos hb, if_neg (by omega), if_pos this]; decide
set_option maxHeartbeats 1000000 in
set_option maxRecDepth 100000 in
theorem walk_WideSwap (a b : Int) (w : World) (a0 : -9223372036854775808 ≤ a) (a1 : a ≤ 9223372036854775807) (b0 : -9223372036854775808 ≤ b) (b1 : b ≤ 9223372036854775807) :
    Calls Try.prog 7 #[.int .i64 a, .int .i64 b] w fun e w' => e = .returned (.bool true) ∧ Below w.heap.size w w' := by
  obtain ⟨m0, m1⟩ := mul_bd a b a0 a1 b0 b1
  have e1 : b * a = a * b := Int.mul_comm b a
  have e2 : cw (a + b) = a + b := cw_yes _ (by omega) (by omega)
  have e3 : fw (a + b) = true := fw_yes _ (by omega) (by omega)
  have e4 : b + a = a + b := Int.add_comm b a
  have e5 := sign_mul a b
  have e6 := cmp3_lo (a * b) 0
  have e7 := cmp3_hi (a * b) 0
  have e8 : IntKind.i64.wrap (cmp3 (a * b) 0) = cmp3 (a * b) 0 := IntWalk.i64_in _ (by omega)
  go_enter Try.func7, Try.ntmps7
  go_wp2_with fail; refine (cWMul _ _ _ (by omega) (by omega) (by omega) (by omega)).mono ?_; rintro e w1 ⟨rfl, hB1⟩
  go_wp2_with fail; refine (cWOf _ _ (by omega) (by omega)).mono ?_; rintro e w2 ⟨rfl, hB2⟩
  have q0 := cell_later (a := ⟨w1.heap.size, 0, none⟩) (v := .int .i64 (hw (a * b))) hB2 (by simp [go_sem, *])
  have q1 := cell_later (a := ⟨w1.heap.size, 1, none⟩) (v := .int .u64 (lw (a * b))) hB2 (by simp [go_sem, *])
  go_wp2_with fail; refine (cWOf _ _ (by omega) (by omega)).mono ?_; rintro e w3 ⟨rfl, hB3⟩
  replace q0 := cell_later hB3 (by first | exact q0 | exact ck q0 | exact ck (ck q0) | exact ck (ck (ck q0))); replace q1 := cell_later hB3 (by first | exact q1 | exact ck q1 | exact ck (ck q1) | exact ck (ck (ck q1)))
  go_wp2_with fail; refine (nWAdd _ _ _ (by omega) (by omega) (by omega) (by omega)).mono ?_; rintro e w4 ⟨rfl, hB4⟩
  replace q0 := cell_later hB4 (by first | exact q0 | exact ck q0 | exact ck (ck q0) | exact ck (ck (ck q0))); replace q1 := cell_later hB4 (by first | exact q1 | exact ck q1 | exact ck (ck q1) | exact ck (ck (ck q1)))
  go_wp2_with fail; refine (cWOf _ _ (by omega) (by omega)).mono ?_; rintro e w5 ⟨rfl, hB5⟩
  replace q0 := cell_later hB5 (by first | exact q0 | exact ck q0 | exact ck (ck q0) | exact ck (ck (ck q0))); replace q1 := cell_later hB5 (by first | exact q1 | exact ck q1 | exact ck (ck q1) | exact ck (ck (ck q1)))
  have q2 := cell_later (a := ⟨w4.heap.size, 0, none⟩) (v := .int .i64 (hw (a + b))) hB5 (by simp [go_sem, *])
  have q3 := cell_later (a := ⟨w4.heap.size, 1, none⟩) (v := .int .u64 (lw (a + b))) hB5 (by simp [go_sem, *])
  go_wp2_with fail; refine (cWOf _ _ (by omega) (by omega)).mono ?_; rintro e w6 ⟨rfl, hB6⟩
  replace q0 := cell_later hB6 (by first | exact q0 | exact ck q0 | exact ck (ck q0) | exact ck (ck (ck q0))); replace q1 := cell_later hB6 (by first | exact q1 | exact ck q1 | exact ck (ck q1) | exact ck (ck (ck q1))); replace q2 := cell_later hB6 (by first | exact q2 | exact ck q2 | exact ck (ck q2) | exact ck (ck (ck q2))); replace q3 := cell_later hB6 (by first | exact q3 | exact ck q3 | exact ck (ck q3) | exact ck (ck (ck q3)))
  go_wp2_with fail; refine (nWAdd _ _ _ (by omega) (by omega) (by omega) (by omega)).mono ?_; rintro e w7 ⟨rfl, hB7⟩
  replace q0 := cell_later hB7 (by first | exact q0 | exact ck q0 | exact ck (ck q0) | exact ck (ck (ck q0))); replace q1 := cell_later hB7 (by first | exact q1 | exact ck q1 | exact ck (ck q1) | exact ck (ck (ck q1))); replace q2 := cell_later hB7 (by first | exact q2 | exact ck q2 | exact ck (ck q2) | exact ck (ck (ck q2))); replace q3 := cell_later hB7 (by first | exact q3 | exact ck q3 | exact ck (ck q3) | exact ck (ck (ck q3)))
  go_wp2_with fail
  go_region_held3 (fun w' => w'.cell? ⟨w1.heap.size, 0, none⟩ = some (.int .i64 (hw (a * b))) ∧ w'.cell? ⟨w1.heap.size, 1, none⟩ = some (.int .u64 (lw (a * b))) ∧ w'.cell? ⟨w4.heap.size, 0, none⟩ = some (.int .i64 (hw (a + b))) ∧ w'.cell? ⟨w4.heap.size, 1, none⟩ = some (.int .u64 (lw (a + b))) ∧ w'.cell? ⟨w7.heap.size, 0, none⟩ = some (.int .i64 (hw (a + b))) ∧ w'.cell? ⟨w7.heap.size, 1, none⟩ = some (.int .u64 (lw (a + b)))) (first | (refine ⟨cell_later hR ?_, cell_later hR ?_, cell_later hR ?_, cell_later hR ?_, cell_later hR ?_, cell_later hR ?_⟩ <;> (simp (maxDischargeDepth := 6) [go_sem, *]; done)) | (simp (maxDischargeDepth := 6) [go_sem, *]; done) | (exact ⟨alloc_swap (‹_ ∧ _›).1 (by first | exact hz | omega), alloc_swap (‹_ ∧ _›).2.1 (by first | exact hz | omega), alloc_swap (‹_ ∧ _›).2.2.1 (by first | exact hz | omega), alloc_swap (‹_ ∧ _›).2.2.2.1 (by first | exact hz | omega), alloc_swap (‹_ ∧ _›).2.2.2.2.1 (by first | exact hz | omega), alloc_swap (‹_ ∧ _›).2.2.2.2.2 (by first | exact hz | omega)⟩))
    (first
      | (go_at_call 14; refine (cWOf _ _ (by omega) (by omega)).mono ?_; rintro e w1 ⟨rfl, hR⟩; have hcR := bsome hR; have hfR := bfrozen hR)
      | (go_at_call 12; refine (cWMul _ _ _ (by omega) (by omega) (by omega) (by omega)).mono ?_; rintro e w1 ⟨rfl, hR⟩; have hcR := bsome hR; have hfR := bfrozen hR)
      | (go_at_call 22; refine (nWSign _ _ (by omega) (by omega)).mono ?_; rintro e w1 ⟨rfl, hR⟩; have hcR := bsome hR; have hfR := bfrozen hR)
      | (go_at_call 16; refine (cAwake1 _).mono ?_; rintro e w1 ⟨rfl, hR⟩; have hcR := bsome hR; have hfR := bfrozen hR))
  all_goals go_wp2
  all_goals go_ret
  all_goals refine ⟨rfl, ?_⟩
  all_goals (repeat (first | exact Below.refl _ _ | assumption | apply Below.drew | apply below_drewN | refine below_alloc ?_ _ | refine below_step ?_ (by assumption) | refine Below.alloc ?_ (by first | exact Nat.le_refl _ | omega | (simp; omega) | simp) _ | refine Below.setCell ?_ (by first | exact Nat.le_refl _ | omega | (simp; omega) | simp) _))
end Go.Proofs.Ytmkpnejnjnkpiaa
