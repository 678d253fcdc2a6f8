/- The contracts of the document's Div and Ratio (chapter 2). -/
import Derived.Test.YtjpkkpflamkjkaaR3
set_option linter.unusedSimpArgs false
set_option linter.unusedVariables false
namespace Go.Proofs.Ytjpkkpflamkjkaa
open Go.RowKit
theorem fq_sg (a b : Int) (hb : b ≠ 0) : rdiv (a * 4294967296) b = sg (decide (a < 0) != decide (b < 0)) (qn ((a.natAbs : Int) * 4294967296) (b.natAbs : Int)) := by
  have h1 : decide (a * 4294967296 < 0) = decide (a < 0) := by rw [decide_eq_decide]; omega
  have h2 : ((a * 4294967296).natAbs : Int) = (a.natAbs : Int) * 4294967296 := by omega
  unfold rdiv sg
  rw [h1, h2]
theorem rDiv (a b : Int) (bl : Nat) (o : Bool) (w : World) (a0 : -9223372036854775808 ≤ a) (a1 : a ≤ 9223372036854775807) (b0 : -9223372036854775808 ≤ b) (b1 : b ≤ 9223372036854775807)
    (hc : w.cell? ⟨bl, 0, none⟩ = some (.bool o)) (hf : w.frozen? ⟨bl, 0, none⟩ = false) :
    Calls Try.prog 50 #[.pointer (some ⟨bl, 0, none⟩), .int .i64 a, .int .i64 b] w fun e w' => e = .returned (.int .i64 (fq a b)) ∧ Mv bl (o || !fqok a b) w w' := by
  by_cases hb : b = 0
  · subst hb
    have ho : (o || !fqok a 0) = true := by simp [fqok]
    rw [ho]
    have HM := Mv.note (Mv.refl hc hf) true
    by_cases ha : a = 0
    · subst ha
      go_enter Try.func50, Try.ntmps50
      go_wp2_with (fail)
      go_ret
      exact ⟨rfl, by first | exact HM | (repeat (first | with_reducible assumption | with_reducible exact Mv.refl (by assumption) (by assumption) | with_reducible apply Mv.alloc | with_reducible apply Mv.drew | with_reducible apply Mv.drewN | ((with_reducible apply Mv.setCell); rotate_left; (first | (dsimp only; omega) | omega | (simp; omega)); (first | (dsimp only; omega) | omega | (simp; omega))) | ((with_reducible apply Mv.below); rotate_left; (with_reducible assumption)) | ((with_reducible apply Mv.trans); rotate_left; (with_reducible assumption))))⟩
    · have hv : fq a 0 = bnd (decide (a < 0)) := by unfold fq; rw [if_pos rfl, if_neg ha]
      rw [hv]
      go_enter Try.func50, Try.ntmps50
      go_wp2_with (go_at_call 68; refine (rBound bl true _ _ HM.cell HM.free).mono ?_; rintro e w1 ⟨rfl, hM⟩)
      go_ret
      exact ⟨rfl, by first | exact HM.trans hM | exact Mv.trans (o := true) (by (repeat (first | with_reducible assumption | with_reducible exact Mv.refl (by assumption) (by assumption) | with_reducible apply Mv.alloc | with_reducible apply Mv.drew | with_reducible apply Mv.drewN | ((with_reducible apply Mv.setCell); rotate_left; (first | (dsimp only; omega) | omega | (simp; omega)); (first | (dsimp only; omega) | omega | (simp; omega))) | ((with_reducible apply Mv.below); rotate_left; (with_reducible assumption)) | ((with_reducible apply Mv.trans); rotate_left; (with_reducible assumption))))) hM⟩
  · have hv : fq a b = sat (rdiv (a * 4294967296) b) := by unfold fq; rw [if_neg hb]
    have ho : fqok a b = fx (rdiv (a * 4294967296) b) := by unfold fqok; simp [hb]
    rw [hv, ho, fq_sg a b hb]
    obtain ⟨neg, hneg⟩ : ∃ neg, (decide (a < 0) != decide (b < 0)) = neg := ⟨_, rfl⟩
    rw [hneg]
    have hneg2 : (!(decide (a < 0) == decide (b < 0))) = neg := by rw [← hneg]; cases decide (a < 0) <;> cases decide (b < 0) <;> rfl
    clear hneg
    have ov := rOver (a.natAbs : Int) (b.natAbs : Int)
    have q0 : 0 ≤ qn ((a.natAbs : Int) * 4294967296) (b.natAbs : Int) := by
      have := Int.ediv_nonneg (a := (a.natAbs : Int) * 4294967296) (b := (b.natAbs : Int)) (by omega) (by omega)
      unfold qn; split <;> omega
    obtain ⟨Q, hQ⟩ : ∃ Q, Q = qn ((a.natAbs : Int) * 4294967296) (b.natAbs : Int) := ⟨_, rfl⟩
    rw [← hQ] at ov q0 ⊢
    clear hQ
    by_cases hM : Q ≤ 18446744073709551615
    · rw [if_pos hM, decide_eq_true hM] at ov
      go_enter Try.func50, Try.ntmps50
      go_wp2_with (first | (go_at_call 67; refine (cRSize _ _ (by omega) (by omega)).mono ?_; rintro e w1 ⟨rfl, rfl⟩) | (go_at_call 77; refine (ov _ (by omega) (by omega) (by omega) (by omega)).mono ?_; rintro e w1 ⟨rfl, rfl⟩) | (go_at_call 69; refine (rSigned _ _ bl o _ q0 hM hc hf).mono ?_; rintro e w1 ⟨rfl, hM⟩))
      go_ret
      exact ⟨rfl, by simpa using hM⟩
    · rw [if_neg hM, decide_eq_false hM] at ov
      obtain ⟨e1, e2⟩ := sat_big neg Q (by omega)
      rw [← e1, e2]
      clear e1 e2
      go_enter Try.func50, Try.ntmps50
      go_wp2_with (first | (go_at_call 67; refine (cRSize _ _ (by omega) (by omega)).mono ?_; rintro e w1 ⟨rfl, rfl⟩) | (go_at_call 77; refine (ov _ (by omega) (by omega) (by omega) (by omega)).mono ?_; rintro e w1 ⟨rfl, rfl⟩) | (go_at_call 68; refine (rBound bl o _ _ hc hf).mono ?_; rintro e w1 ⟨rfl, hM⟩))
      go_ret
      exact ⟨rfl, by simpa using hM⟩
end Go.Proofs.Ytjpkkpflamkjkaa
