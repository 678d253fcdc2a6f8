/- Two reckoners of a law's own: what each has noted, and that nothing that lay ahead of the call has turned. -/
import Derived.Test.YtjpkkpflamkjkaaM0
import Derived.Test.YtjpkkpflamkjkaaW0
set_option linter.unusedSimpArgs false
set_option linter.unusedVariables false
namespace Go.Proofs.Ytjpkkpflamkjkaa
open Go.RowKit
structure Tw (b c : Nat) (o p : Bool) (w W : World) : Prop where
  below : Below w.heap.size w W
  cb : W.cell? ⟨b, 0, none⟩ = some (.bool o)
  fb : W.frozen? ⟨b, 0, none⟩ = false
  cc : W.cell? ⟨c, 0, none⟩ = some (.bool p)
  fc : W.frozen? ⟨c, 0, none⟩ = false
  hb : w.heap.size ≤ b
  hc : w.heap.size ≤ c
  hne : b ≠ c
theorem Tw.after {b c : Nat} {o p : Bool} {w W w1 : World} (h : Tw b c o p w W) (k : Below W.heap.size W w1) : Tw b c o p w w1 :=
  ⟨below_step h.below k, cell_later k h.cb, frozen_later k h.cb h.fb, cell_later k h.cc, frozen_later k h.cc h.fc, h.hb, h.hc, h.hne⟩
theorem Tw.alloc {b c : Nat} {o p : Bool} {w W : World} (h : Tw b c o p w W) (x : Obj) : Tw b c o p w (W.alloc x) := h.after ((Below.refl _ _).alloc (Nat.le_refl _) x)
theorem Tw.drew {b c : Nat} {o p : Bool} {w W : World} (h : Tw b c o p w W) : Tw b c o p w W.drew := h.after (Below.refl _ _).drew
theorem Tw.mv1 {b c : Nat} {o p o' : Bool} {w W w1 : World} (h : Tw b c o p w W) (k : Mv b o' W w1) : Tw b c o' p w w1 :=
  ⟨below_mv h.below k h.hb, k.cell, k.free, mv_cell k (fun e => h.hne e.symm) h.cc, mv_frozen k (fun e => h.hne e.symm) h.cc h.fc, h.hb, h.hc, h.hne⟩
theorem Tw.mv2 {b c : Nat} {o p p' : Bool} {w W w1 : World} (h : Tw b c o p w W) (k : Mv c p' W w1) : Tw b c o p' w w1 :=
  ⟨below_mv h.below k h.hc, mv_cell k h.hne h.cb, mv_frozen k h.hne h.cb h.fb, k.cell, k.free, h.hb, h.hc, h.hne⟩
theorem Tw.setCell {b c : Nat} {o p : Bool} {w W : World} (h : Tw b c o p w W) {a : Addr} (ha : w.heap.size ≤ a.block) (h1 : a.block ≠ b) (h2 : a.block ≠ c) (u : Value) : Tw b c o p w (W.setCell a u) := by
  have e : ∀ k, k ≠ a.block → (W.setCell a u).heap[k]? = W.heap[k]? := fun k hk => Below.heap_setCell _ _ _ _ hk
  refine ⟨h.below.setCell ha u, ?_, ?_, ?_, ?_, h.hb, h.hc, h.hne⟩
  · rw [World.cell?_of_block (w := W) (e b (fun q => h1 q.symm))]; exact h.cb
  · rw [World.frozen?_of_block (w := W) (e b (fun q => h1 q.symm))]; exact h.fb
  · rw [World.cell?_of_block (w := W) (e c (fun q => h2 q.symm))]; exact h.cc
  · rw [World.frozen?_of_block (w := W) (e c (fun q => h2 q.symm))]; exact h.fc
theorem Tw.call1 {P : Program} {f : Nat} {args : Array Value} {b c : Nat} {o p o' : Bool} {w W : World} {v : Ending} (h : Tw b c o p w W)
    (k : W.cell? ⟨b, 0, none⟩ = some (.bool o) → W.frozen? ⟨b, 0, none⟩ = false → Calls P f args W fun e w' => e = v ∧ Mv b o' W w') :
    Calls P f args W fun e w' => e = v ∧ Mv b o' W w' ∧ Tw b c o' p w w' := (k h.cb h.fb).mono fun _ _ ⟨h1, h2⟩ => ⟨h1, h2, h.mv1 h2⟩
theorem Tw.call2 {P : Program} {f : Nat} {args : Array Value} {b c : Nat} {o p p' : Bool} {w W : World} {v : Ending} (h : Tw b c o p w W)
    (k : W.cell? ⟨c, 0, none⟩ = some (.bool p) → W.frozen? ⟨c, 0, none⟩ = false → Calls P f args W fun e w' => e = v ∧ Mv c p' W w') :
    Calls P f args W fun e w' => e = v ∧ Mv c p' W w' ∧ Tw b c o p' w w' := (k h.cc h.fc).mono fun _ _ ⟨h1, h2⟩ => ⟨h1, h2, h.mv2 h2⟩
theorem Tw.start {b c : Nat} {p o' : Bool} {w W w1 : World} (h : Below w.heap.size w W) (k : Mv b o' W w1) (hb : w.heap.size ≤ b) (hc : w.heap.size ≤ c) (hne : b ≠ c)
    (h1 : W.cell? ⟨c, 0, none⟩ = some (.bool p)) (h2 : W.frozen? ⟨c, 0, none⟩ = false) : Tw b c o' p w w1 :=
  ⟨below_mv h k hb, k.cell, k.free, mv_cell k (fun e => hne e.symm) h1, mv_frozen k (fun e => hne e.symm) h1 h2, hb, hc, hne⟩
theorem Tw.cast {b c : Nat} {o p o' p' : Bool} {w W : World} (h : Tw b c o p w W) (h1 : o = o') (h2 : p = p') : Tw b c o' p' w W := by subst h1; subst h2; exact h
/-- A reckoner of the call's own. -/
structure On (b : Nat) (o : Bool) (w W : World) : Prop where
  below : Below w.heap.size w W
  cb : W.cell? ⟨b, 0, none⟩ = some (.bool o)
  fb : W.frozen? ⟨b, 0, none⟩ = false
  hb : w.heap.size ≤ b
theorem On.after {b : Nat} {o : Bool} {w W w1 : World} (h : On b o w W) (k : Below W.heap.size W w1) : On b o w w1 :=
  ⟨below_step h.below k, cell_later k h.cb, frozen_later k h.cb h.fb, h.hb⟩
theorem On.alloc {b : Nat} {o : Bool} {w W : World} (h : On b o w W) (x : Obj) : On b o w (W.alloc x) := h.after ((Below.refl _ _).alloc (Nat.le_refl _) x)
theorem On.drew {b : Nat} {o : Bool} {w W : World} (h : On b o w W) : On b o w W.drew := h.after (Below.refl _ _).drew
theorem On.mv {b : Nat} {o o' : Bool} {w W w1 : World} (h : On b o w W) (k : Mv b o' W w1) : On b o' w w1 := ⟨below_mv h.below k h.hb, k.cell, k.free, h.hb⟩
theorem On.call {P : Program} {f : Nat} {args : Array Value} {b : Nat} {o o' : Bool} {w W : World} {v : Ending} (h : On b o w W)
    (k : W.cell? ⟨b, 0, none⟩ = some (.bool o) → W.frozen? ⟨b, 0, none⟩ = false → Calls P f args W fun e w' => e = v ∧ Mv b o' W w') :
    Calls P f args W fun e w' => e = v ∧ Mv b o' W w' ∧ On b o' w w' := (k h.cb h.fb).mono fun _ _ ⟨h1, h2⟩ => ⟨h1, h2, h.mv h2⟩
theorem On.start {b : Nat} {o' : Bool} {w W w1 : World} (h : Below w.heap.size w W) (k : Mv b o' W w1) (hb : w.heap.size ≤ b) : On b o' w w1 := ⟨below_mv h k hb, k.cell, k.free, hb⟩
end Go.Proofs.Ytjpkkpflamkjkaa
