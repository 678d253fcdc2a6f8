/- Contracts of vec's lengths and directions, and of the document's. -/
import Derived.Test.YtjpkkpflamkjkaaU0
import Derived.Test.YtjpkkpflamkjkaaV5
set_option linter.unusedSimpArgs false
set_option linter.unusedVariables false
namespace Go.Proofs.Ytjpkkpflamkjkaa
open Go.RowKit
/-- What lies across a direction. -/
def al (a n d : Int) : Int := sat (a - sat (rsh (n * d)))
def alok (a n d : Int) : Bool := fx (rsh (n * d)) && fx (a - sat (rsh (n * d)))
set_option maxHeartbeats 2000000 in
theorem cVLen (x0 x1 x2 : Int) (b : Nat) (o : Bool) (w : World) (x0_0 : -9223372036854775808 ≤ x0) (x0_1 : x0 ≤ 9223372036854775807) (x1_0 : -9223372036854775808 ≤ x1) (x1_1 : x1 ≤ 9223372036854775807) (x2_0 : -9223372036854775808 ≤ x2) (x2_1 : x2 ≤ 9223372036854775807) (hc : w.cell? ⟨b, 0, none⟩ = some (.bool o)) (hf : w.frozen? ⟨b, 0, none⟩ = false) :
    Calls Try.prog 23 #[.pointer (some ⟨b, 0, none⟩), .agg #[.int .i64 x0, .int .i64 x1, .int .i64 x2]] w fun e w' =>
      e = .returned (.int .i64 (ln (x0 * x0 + x1 * x1 + x2 * x2))) ∧ Mv b (o || !lnok (x0 * x0 + x1 * x1 + x2 * x2)) w w' := by
  have k1 := fun O W => cLen3 x0 x1 x2 b O W x0_0 x0_1 x1_0 x1_1 x2_0 x2_1
  generalize ln (x0 * x0 + x1 * x1 + x2 * x2) = n at *
  generalize lnok (x0 * x0 + x1 * x1 + x2 * x2) = p at *
  have hb := lt_of_cell hc
  have HM := Mv.refl hc hf
  clear hc hf
  go_enter Try.func23, Try.ntmps23
  go_wp2_with ((go_at_call 59; (with_reducible refine (mvCall (b := b) (w0 := w) (by (repeat (first | with_reducible assumption | with_reducible exact Mv.refl (by assumption) (by assumption) | with_reducible apply Mv.alloc | with_reducible apply Mv.drew | with_reducible apply Mv.drewN | ((with_reducible apply Mv.setCell); rotate_left; (first | (dsimp only; omega) | omega | (simp; omega)); (first | (dsimp only; omega) | omega | (simp; omega))) | ((with_reducible apply Mv.below); rotate_left; (with_reducible assumption)) | ((with_reducible apply Mv.trans); rotate_left; (with_reducible assumption))))) (k1 _ _)).mono ?_); rintro e w1 ⟨rfl, hM, HM⟩))
  go_ret
  exact ⟨rfl, by (repeat (first | with_reducible assumption | with_reducible exact Mv.refl (by assumption) (by assumption) | with_reducible apply Mv.alloc | with_reducible apply Mv.drew | with_reducible apply Mv.drewN | ((with_reducible apply Mv.setCell); rotate_left; (first | (dsimp only; omega) | omega | (simp; omega)); (first | (dsimp only; omega) | omega | (simp; omega))) | ((with_reducible apply Mv.below); rotate_left; (with_reducible assumption)) | ((with_reducible apply Mv.trans); rotate_left; (with_reducible assumption))))⟩
end Go.Proofs.Ytjpkkpflamkjkaa
