/- One block of the call's own: its cells from a place on, each of which may be written. -/
import Derived.Test.YtjpkkpflamkjkaaW0
import Derived.Test.YtjpkkpflamkjkaaF0
set_option linter.unusedSimpArgs false
set_option linter.unusedVariables false
namespace Go.Proofs.Ytjpkkpflamkjkaa
open Go.RowKit
def Bk (g : Nat) : Nat → List Value → World → Prop
  | _, [], _ => True
  | i, v :: l, W => W.cell? ⟨g, i, none⟩ = some v ∧ W.frozen? ⟨g, i, none⟩ = false ∧ Bk g (i + 1) l W
theorem Bk.later0 {g : Nat} {vs : List Value} {W w1 : World} (hB : Below W.heap.size W w1) : ∀ {i : Nat}, Bk g i vs W → Bk g i vs w1 := by
  induction vs with
  | nil => intro i _; trivial
  | cons v l ih =>
    intro i h
    exact ⟨cell_later hB h.1, by rw [bfrozen hB _ (by rw [h.1]; rfl)]; exact h.2.1, ih h.2.2⟩
theorem Bk.alloc {g i : Nat} {vs : List Value} {W : World} (h : Bk g i vs W) (o : Obj) : Bk g i vs (W.alloc o) := Bk.later0 ((Below.refl _ _).alloc (Nat.le_refl _) o) h
theorem Bk.drew {g i : Nat} {vs : List Value} {W : World} (h : Bk g i vs W) : Bk g i vs W.drew := Bk.later0 (Below.refl _ _).drew h
theorem Bk.put0 {g : Nat} {vs : List Value} {W : World} {a : Addr} (hne : g ≠ a.block) (u : Value) : ∀ {i : Nat}, Bk g i vs W → Bk g i vs (W.setCell a u) := by
  have e : (W.setCell a u).heap[g]? = W.heap[g]? := Below.heap_setCell _ _ _ _ hne
  induction vs with
  | nil => intro i _; trivial
  | cons v l ih =>
    intro i h
    exact ⟨by rw [World.cell?_of_block (w := W) e]; exact h.1, by rw [World.frozen?_of_block (w := W) e]; exact h.2.1, ih h.2.2⟩
theorem Bk.later {g i : Nat} {vs : List Value} {W w1 : World} (h : Bk g i vs W) (hB : Below W.heap.size W w1) : Bk g i vs w1 := Bk.later0 hB h
theorem Bk.put {g i : Nat} {vs : List Value} {W : World} {a : Addr} {u : Value} (h : Bk g i vs W) (hne : g ≠ a.block) : Bk g i vs (W.setCell a u) := Bk.put0 hne u h
end Go.Proofs.Ytjpkkpflamkjkaa
