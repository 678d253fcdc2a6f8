/- What a reckoner's method leaves of the memory: one cell (whether something did not fit), and new blocks; numbers kept within 64 bits. -/
import Derived.Test.YtjpkkpflamkjkaaA6
set_option linter.unusedSimpArgs false
set_option linter.unusedVariables false
namespace Go.Proofs.Ytjpkkpflamkjkaa
open Go.RowKit

/-- A number, or the nearer bound. -/
def sat (n : Int) : Int := if n < -9223372036854775808 then -9223372036854775808 else if 9223372036854775807 < n then 9223372036854775807 else n
theorem sat_lo (n : Int) : -9223372036854775808 ≤ sat n := by unfold sat; split <;> (try split) <;> omega
theorem sat_hi (n : Int) : sat n ≤ 9223372036854775807 := by unfold sat; split <;> (try split) <;> omega
theorem sat_id (n : Int) (h0 : -9223372036854775808 ≤ n) (h1 : n ≤ 9223372036854775807) : sat n = n := by unfold sat; rw [if_neg (by omega), if_neg (by omega)]
theorem fx_iff (n : Int) : fx n = true ↔ -9223372036854775808 ≤ n ∧ n ≤ 9223372036854775807 := by unfold fx; simp

/-- From w to w' only the cell of block b (it now holds o') and new blocks have turned. -/
structure Mv (b : Nat) (o' : Bool) (w w' : World) : Prop where
  os : w'.os = w.os
  tape : w'.tape = w.tape
  output : w'.output = w.output
  size : w.heap.size ≤ w'.heap.size
  cell : w'.cell? ⟨b, 0, none⟩ = some (.bool o')
  free : w'.frozen? ⟨b, 0, none⟩ = false
  other : ∀ k, k < w.heap.size → k ≠ b → w'.heap[k]? = w.heap[k]?

theorem lt_of_cell {w : World} {b : Nat} {v : Value} (h : w.cell? ⟨b, 0, none⟩ = some v) : b < w.heap.size := World.block_lt_of_cell? w ⟨b, 0, none⟩ h
theorem Mv.refl {b : Nat} {o : Bool} {w : World} (hc : w.cell? ⟨b, 0, none⟩ = some (.bool o)) (hf : w.frozen? ⟨b, 0, none⟩ = false) : Mv b o w w :=
  ⟨rfl, rfl, rfl, Nat.le_refl _, hc, hf, fun _ _ _ => rfl⟩
theorem Mv.trans {b : Nat} {o o' : Bool} {w w1 w2 : World} (h : Mv b o w w1) (k : Mv b o' w1 w2) : Mv b o' w w2 :=
  ⟨k.os.trans h.os, k.tape.trans h.tape, k.output.trans h.output, Nat.le_trans h.size k.size, k.cell, k.free, fun i hi hb => (k.other i (Nat.lt_of_lt_of_le hi h.size) hb).trans (h.other i hi hb)⟩
theorem Mv.below {b : Nat} {o : Bool} {w w1 w2 : World} (h : Mv b o w w1) (k : Below w1.heap.size w1 w2) : Mv b o w w2 :=
  ⟨k.os.trans h.os, k.tape.trans h.tape, k.output.trans h.output, Nat.le_trans h.size k.size, (k.cell (lt_of_cell h.cell)).trans h.cell, (k.frozen (lt_of_cell h.cell)).trans h.free,
    fun i hi hb => (k.block i (Nat.lt_of_lt_of_le hi h.size)).trans (h.other i hi hb)⟩
theorem Mv.alloc {b : Nat} {o : Bool} {w w1 : World} (h : Mv b o w w1) (x : Obj) : Mv b o w (w1.alloc x) := h.below ((Below.refl _ _).alloc (Nat.le_refl _) x)
theorem Mv.drew {b : Nat} {o : Bool} {w w1 : World} (h : Mv b o w w1) : Mv b o w w1.drew := h.below (Below.refl _ _).drew
theorem Mv.drewN {b : Nat} {o : Bool} {w w1 : World} (h : Mv b o w w1) (n : Nat) : Mv b o w (w1.drewN n) := h.below (below_drewN (Below.refl _ _) n)
/-- A store into another block, a new one. -/
theorem Mv.setCell {b : Nat} {o : Bool} {w w1 : World} (h : Mv b o w w1) {p : Addr} (hp : w.heap.size ≤ p.block) (hb : p.block ≠ b) (u : Value) : Mv b o w (w1.setCell p u) := by
  have e : ∀ k, k ≠ p.block → (w1.setCell p u).heap[k]? = w1.heap[k]? := fun k hk => Below.heap_setCell _ _ _ _ hk
  have eb := e b (fun q => hb q.symm)
  refine ⟨h.os, h.tape, h.output, by simpa [World.setCell] using h.size, ?_, ?_, fun k hk hkb => (e k (by omega)).trans (h.other k hk hkb)⟩
  · rw [World.cell?_of_block (w := w1) eb]; exact h.cell
  · rw [World.frozen?_of_block (w := w1) eb]; exact h.free
/-- The note is taken. -/
theorem Mv.note {b : Nat} {o : Bool} {w w1 : World} (h : Mv b o w w1) (o' : Bool) : Mv b o' w (w1.setCell ⟨b, 0, none⟩ (.bool o')) := by
  have e : ∀ k, k ≠ b → (w1.setCell ⟨b, 0, none⟩ (.bool o')).heap[k]? = w1.heap[k]? := fun k hk => Below.heap_setCell _ _ _ _ hk
  refine ⟨h.os, h.tape, h.output, by simpa [World.setCell] using h.size, ?_, ?_, fun k hk hkb => (e k hkb).trans (h.other k hk hkb)⟩
  · have hc := h.cell; simp [go_sem, hc]
  · have hc := h.free; simpa [go_sem] using hc
/-- Ahead of it only new blocks were made. -/
theorem Mv.after {b : Nat} {o : Bool} {w w1 w2 : World} (h : Below w.heap.size w w1) (k : Mv b o w1 w2) : Mv b o w w2 :=
  ⟨k.os.trans h.os, k.tape.trans h.tape, k.output.trans h.output, Nat.le_trans h.size k.size, k.cell, k.free, fun i hi hb => (k.other i (Nat.lt_of_lt_of_le hi h.size) hb).trans (h.block i hi)⟩
theorem mv_cell {b : Nat} {o : Bool} {W w1 : World} {a : Addr} {v : Value} (h : Mv b o W w1) (hne : a.block ≠ b) (q : W.cell? a = some v) : w1.cell? a = some v := by
  rw [World.cell?_of_block (w := W) (h.other a.block (World.block_lt_of_cell? W a q) hne)]; exact q
theorem mv_frozen {b : Nat} {o : Bool} {W w1 : World} {a : Addr} {v : Value} (h : Mv b o W w1) (hne : a.block ≠ b) (q : W.cell? a = some v) (f : W.frozen? a = false) : w1.frozen? a = false := by
  rw [World.frozen?_of_block (w := W) (h.other a.block (World.block_lt_of_cell? W a q) hne)]; exact f
/-- A reckoner of the call's own. -/
theorem below_mv {b : Nat} {o : Bool} {w W w1 : World} (h : Below w.heap.size w W) (k : Mv b o W w1) (hb : w.heap.size ≤ b) : Below w.heap.size w w1 :=
  ⟨k.os.trans h.os, k.tape.trans h.tape, k.output.trans h.output, Nat.le_trans h.size k.size, fun i hi => (k.other i (Nat.lt_of_lt_of_le hi h.size) (by omega)).trans (h.block i hi)⟩
theorem alloc_swap {w : World} {a : Addr} {v : Value} {o o' : Obj} (h : (w.alloc o).cell? a = some v) (hz : a.block < w.heap.size) : (w.alloc o').cell? a = some v := by
  rw [World.cell?_alloc_lt _ _ _ hz] at h ⊢; exact h
theorem frozen_later {a : Addr} {v : Value} {W w1 : World} (hb : Below W.heap.size W w1) (q : W.cell? a = some v) (f : W.frozen? a = false) : w1.frozen? a = false := by
  rw [bfrozen hb a (by rw [q]; rfl)]; exact f
theorem fk {w : World} {a : Addr} {v : Value} {o : Obj} (q : w.cell? a = some v) (f : w.frozen? a = false) : (w.alloc o).frozen? a = false :=
  frozen_later ((Below.refl _ _).alloc (Nat.le_refl _) o) q f
end Go.Proofs.Ytjpkkpflamkjkaa
