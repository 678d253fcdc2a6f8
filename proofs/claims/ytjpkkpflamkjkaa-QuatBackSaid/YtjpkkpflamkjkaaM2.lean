/- One block of the call's own, over a call that moves a reckoner. -/
import Derived.Test.YtjpkkpflamkjkaaM1
import Derived.Test.YtjpkkpflamkjkaaW2
set_option linter.unusedSimpArgs false
set_option linter.unusedVariables false
namespace Go.Proofs.Ytjpkkpflamkjkaa
open Go.RowKit
theorem Bk.mv {g : Nat} {vs : List Value} {W w1 : World} {b : Nat} {o : Bool} (hM : Mv b o W w1) (hne : g ≠ b) : ∀ {i : Nat}, Bk g i vs W → Bk g i vs w1 := by
  induction vs with
  | nil => intro i _; trivial
  | cons v l ih =>
    intro i h
    exact ⟨mv_cell hM hne h.1, mv_frozen hM hne h.1 h.2.1, ih h.2.2⟩
end Go.Proofs.Ytjpkkpflamkjkaa
