/- The row of chicane/chicanelaw54.FlagsLeader: for every input that can be read the law returns true, and each argument reads behind the call as it did before it. -/
import Derived.Test.YtbicnpiifpcnjaaRows
import Derived.Test.YtbicnpiifpcnjaaL54b
import Derived.WalkKit
import Derived.ProofKit
import Derived.OpenShut
import Derived.Lib.SmallJoins
namespace Go.Proofs.Ytbicnpiifpcnjaa.flagsLeader
open Go.ChangeShapes Go.WideShapes Go.ChangeAt Go.RowKit Go.Joins
set_option linter.unusedVariables false
set_option linter.constructorNameAsVariable false

theorem own : ownKnob Try.prog.godebug = none := by kernel_rfl
theorem laidOut : laidOutB Try.prog = true := by kernel_rfl
theorem wf_i64 {n : Int} (h : (Lit.int .i64 n).wf = true) : -9223372036854775808 ≤ n ∧ n ≤ 9223372036854775807 := by
  simp [Lit.wf, IntKind.min, IntKind.max, IntKind.signed, IntKind.bits] at h
  omega
theorem wf_u64 {n : Int} (h : (Lit.int .u64 n).wf = true) : 0 ≤ n ∧ n ≤ 18446744073709551615 := by
  simp [Lit.wf, IntKind.min, IntKind.max, IntKind.signed, IntKind.bits] at h
  omega
theorem wf_u32 {n : Int} (h : (Lit.int .u32 n).wf = true) : 0 ≤ n ∧ n ≤ 4294967295 := by
  simp [Lit.wf, IntKind.min, IntKind.max, IntKind.signed, IntKind.bits] at h
  omega
theorem leaf31 {H : Type} {enc : TypeId × Value → H} {w : World} {base : Nat} {spare : Nat → Bool} {held : Bool} {fuel : Nat} {cs : List Value} {y : DataW H × List MemPlace} (h : DataW.trod enc Try.prog w base spare held fuel 31 cs = some y) : ∃ (x0 : Int), cs = [.int .i64 x0] ∧ (Lit.int .i64 x0).wf = true := by
  obtain ⟨n, h1, _, h2⟩ := DataW.trod_int Try.underlying31 h
  exact ⟨n, h1, h2⟩
theorem len3 {cs : List Value} (h : cs.length = 3) : ∃ c0 c1 c2 : Value, cs = [c0, c1, c2] := by
  match cs, h with
  | c0 :: c1 :: c2 :: [], _ => exact ⟨c0, c1, c2, rfl⟩
theorem leaf33 {H : Type} {enc : TypeId × Value → H} {w : World} {base : Nat} {spare : Nat → Bool} {held : Bool} {fuel : Nat} {cs : List Value} {y : DataW H × List MemPlace} (h : DataW.trod enc Try.prog w base spare held fuel 33 cs = some y) : ∃ (x0 : Int) (x1 : Int) (x2 : Int), cs = [.int .i64 x0, .int .i64 x1, .int .i64 x2] ∧ (Lit.int .i64 x0).wf = true ∧ (Lit.int .i64 x1).wf = true ∧ (Lit.int .i64 x2).wf = true := by
  obtain ⟨ys, n, -, -, hl, hxl, hg⟩ := DataW.trod_struct Try.underlying33 h
  rw [show Try.prog.cellsOf 33 = 3 by kernel_rfl] at hl
  obtain ⟨c0, c1, c2, rfl⟩ := len3 hl
  have g0 : DataW.trod enc Try.prog w base spare held n 31 ((List.drop 0 [c0, c1, c2]).take (Try.prog.cellsOf 31)) = ys[0]? := hg 0 _ rfl
  rw [List.getElem?_eq_getElem (show 0 < ys.length by rw [hxl]; decide)] at g0
  have g1 : DataW.trod enc Try.prog w base spare held n 31 ((List.drop 1 [c0, c1, c2]).take (Try.prog.cellsOf 31)) = ys[1]? := hg 1 _ rfl
  rw [List.getElem?_eq_getElem (show 1 < ys.length by rw [hxl]; decide)] at g1
  have g2 : DataW.trod enc Try.prog w base spare held n 31 ((List.drop 2 [c0, c1, c2]).take (Try.prog.cellsOf 31)) = ys[2]? := hg 2 _ rfl
  rw [List.getElem?_eq_getElem (show 2 < ys.length by rw [hxl]; decide)] at g2
  clear hg h
  obtain ⟨a0, e0, w0⟩ := leaf31 g0
  clear g0
  (try dsimp only at e0)
  rw [show Try.prog.cellsOf 31 = 1 by kernel_rfl] at e0
  simp at e0
  obtain ⟨a1, e1, w1⟩ := leaf31 g1
  clear g1
  (try dsimp only at e1)
  rw [show Try.prog.cellsOf 31 = 1 by kernel_rfl] at e1
  simp at e1
  obtain ⟨a2, e2, w2⟩ := leaf31 g2
  clear g2
  (try dsimp only at e2)
  rw [show Try.prog.cellsOf 31 = 1 by kernel_rfl] at e2
  simp at e2
  subst e0
  subst e1
  subst e2
  exact ⟨a0, a1, a2, rfl, w0, w1, w2⟩
theorem len4 {cs : List Value} (h : cs.length = 4) : ∃ c0 c1 c2 c3 : Value, cs = [c0, c1, c2, c3] := by
  match cs, h with
  | c0 :: c1 :: c2 :: c3 :: [], _ => exact ⟨c0, c1, c2, c3, rfl⟩
theorem leaf35 {H : Type} {enc : TypeId × Value → H} {w : World} {base : Nat} {spare : Nat → Bool} {held : Bool} {fuel : Nat} {cs : List Value} {y : DataW H × List MemPlace} (h : DataW.trod enc Try.prog w base spare held fuel 35 cs = some y) : ∃ (x0 : Int) (x1 : Int) (x2 : Int) (x3 : Int), cs = [.int .i64 x0, .int .i64 x1, .int .i64 x2, .int .i64 x3] ∧ (Lit.int .i64 x0).wf = true ∧ (Lit.int .i64 x1).wf = true ∧ (Lit.int .i64 x2).wf = true ∧ (Lit.int .i64 x3).wf = true := by
  obtain ⟨ys, n, -, -, hl, hxl, hg⟩ := DataW.trod_struct Try.underlying35 h
  rw [show Try.prog.cellsOf 35 = 4 by kernel_rfl] at hl
  obtain ⟨c0, c1, c2, c3, rfl⟩ := len4 hl
  have g0 : DataW.trod enc Try.prog w base spare held n 31 ((List.drop 0 [c0, c1, c2, c3]).take (Try.prog.cellsOf 31)) = ys[0]? := hg 0 _ rfl
  rw [List.getElem?_eq_getElem (show 0 < ys.length by rw [hxl]; decide)] at g0
  have g1 : DataW.trod enc Try.prog w base spare held n 31 ((List.drop 1 [c0, c1, c2, c3]).take (Try.prog.cellsOf 31)) = ys[1]? := hg 1 _ rfl
  rw [List.getElem?_eq_getElem (show 1 < ys.length by rw [hxl]; decide)] at g1
  have g2 : DataW.trod enc Try.prog w base spare held n 31 ((List.drop 2 [c0, c1, c2, c3]).take (Try.prog.cellsOf 31)) = ys[2]? := hg 2 _ rfl
  rw [List.getElem?_eq_getElem (show 2 < ys.length by rw [hxl]; decide)] at g2
  have g3 : DataW.trod enc Try.prog w base spare held n 31 ((List.drop 3 [c0, c1, c2, c3]).take (Try.prog.cellsOf 31)) = ys[3]? := hg 3 _ rfl
  rw [List.getElem?_eq_getElem (show 3 < ys.length by rw [hxl]; decide)] at g3
  clear hg h
  obtain ⟨a0, e0, w0⟩ := leaf31 g0
  clear g0
  (try dsimp only at e0)
  rw [show Try.prog.cellsOf 31 = 1 by kernel_rfl] at e0
  simp at e0
  obtain ⟨a1, e1, w1⟩ := leaf31 g1
  clear g1
  (try dsimp only at e1)
  rw [show Try.prog.cellsOf 31 = 1 by kernel_rfl] at e1
  simp at e1
  obtain ⟨a2, e2, w2⟩ := leaf31 g2
  clear g2
  (try dsimp only at e2)
  rw [show Try.prog.cellsOf 31 = 1 by kernel_rfl] at e2
  simp at e2
  obtain ⟨a3, e3, w3⟩ := leaf31 g3
  clear g3
  (try dsimp only at e3)
  rw [show Try.prog.cellsOf 31 = 1 by kernel_rfl] at e3
  simp at e3
  subst e0
  subst e1
  subst e2
  subst e3
  exact ⟨a0, a1, a2, a3, rfl, w0, w1, w2, w3⟩
theorem len13 {cs : List Value} (h : cs.length = 13) : ∃ c0 c1 c2 c3 c4 c5 c6 c7 c8 c9 c10 c11 c12 : Value, cs = [c0, c1, c2, c3, c4, c5, c6, c7, c8, c9, c10, c11, c12] := by
  match cs, h with
  | c0 :: c1 :: c2 :: c3 :: c4 :: c5 :: c6 :: c7 :: c8 :: c9 :: c10 :: c11 :: c12 :: [], _ => exact ⟨c0, c1, c2, c3, c4, c5, c6, c7, c8, c9, c10, c11, c12, rfl⟩
theorem leaf37 {H : Type} {enc : TypeId × Value → H} {w : World} {base : Nat} {spare : Nat → Bool} {held : Bool} {fuel : Nat} {cs : List Value} {y : DataW H × List MemPlace} (h : DataW.trod enc Try.prog w base spare held fuel 37 cs = some y) : ∃ (x0 : Int) (x1 : Int) (x2 : Int) (x3 : Int) (x4 : Int) (x5 : Int) (x6 : Int) (x7 : Int) (x8 : Int) (x9 : Int) (x10 : Int) (x11 : Int) (x12 : Int), cs = [.int .i64 x0, .int .i64 x1, .int .i64 x2, .int .i64 x3, .int .i64 x4, .int .i64 x5, .int .i64 x6, .int .i64 x7, .int .i64 x8, .int .i64 x9, .int .i64 x10, .int .i64 x11, .int .i64 x12] ∧ (Lit.int .i64 x0).wf = true ∧ (Lit.int .i64 x1).wf = true ∧ (Lit.int .i64 x2).wf = true ∧ (Lit.int .i64 x3).wf = true ∧ (Lit.int .i64 x4).wf = true ∧ (Lit.int .i64 x5).wf = true ∧ (Lit.int .i64 x6).wf = true ∧ (Lit.int .i64 x7).wf = true ∧ (Lit.int .i64 x8).wf = true ∧ (Lit.int .i64 x9).wf = true ∧ (Lit.int .i64 x10).wf = true ∧ (Lit.int .i64 x11).wf = true ∧ (Lit.int .i64 x12).wf = true := by
  obtain ⟨ys, n, -, -, hl, hxl, hg⟩ := DataW.trod_struct Try.underlying37 h
  rw [show Try.prog.cellsOf 37 = 13 by kernel_rfl] at hl
  obtain ⟨c0, c1, c2, c3, c4, c5, c6, c7, c8, c9, c10, c11, c12, rfl⟩ := len13 hl
  have g0 : DataW.trod enc Try.prog w base spare held n 33 ((List.drop 0 [c0, c1, c2, c3, c4, c5, c6, c7, c8, c9, c10, c11, c12]).take (Try.prog.cellsOf 33)) = ys[0]? := hg 0 _ rfl
  rw [List.getElem?_eq_getElem (show 0 < ys.length by rw [hxl]; decide)] at g0
  have g1 : DataW.trod enc Try.prog w base spare held n 33 ((List.drop 3 [c0, c1, c2, c3, c4, c5, c6, c7, c8, c9, c10, c11, c12]).take (Try.prog.cellsOf 33)) = ys[1]? := hg 1 _ rfl
  rw [List.getElem?_eq_getElem (show 1 < ys.length by rw [hxl]; decide)] at g1
  have g2 : DataW.trod enc Try.prog w base spare held n 35 ((List.drop 6 [c0, c1, c2, c3, c4, c5, c6, c7, c8, c9, c10, c11, c12]).take (Try.prog.cellsOf 35)) = ys[2]? := hg 2 _ rfl
  rw [List.getElem?_eq_getElem (show 2 < ys.length by rw [hxl]; decide)] at g2
  have g3 : DataW.trod enc Try.prog w base spare held n 33 ((List.drop 10 [c0, c1, c2, c3, c4, c5, c6, c7, c8, c9, c10, c11, c12]).take (Try.prog.cellsOf 33)) = ys[3]? := hg 3 _ rfl
  rw [List.getElem?_eq_getElem (show 3 < ys.length by rw [hxl]; decide)] at g3
  clear hg h
  obtain ⟨a0, a1, a2, e0, w0, w1, w2⟩ := leaf33 g0
  clear g0
  (try dsimp only at e0)
  rw [show Try.prog.cellsOf 33 = 3 by kernel_rfl] at e0
  simp at e0
  obtain ⟨a3, a4, a5, e1, w3, w4, w5⟩ := leaf33 g1
  clear g1
  (try dsimp only at e1)
  rw [show Try.prog.cellsOf 33 = 3 by kernel_rfl] at e1
  simp at e1
  obtain ⟨a6, a7, a8, a9, e2, w6, w7, w8, w9⟩ := leaf35 g2
  clear g2
  (try dsimp only at e2)
  rw [show Try.prog.cellsOf 35 = 4 by kernel_rfl] at e2
  simp at e2
  obtain ⟨a10, a11, a12, e3, w10, w11, w12⟩ := leaf33 g3
  clear g3
  (try dsimp only at e3)
  rw [show Try.prog.cellsOf 33 = 3 by kernel_rfl] at e3
  simp at e3
  obtain ⟨rfl, rfl, rfl⟩ := e0
  obtain ⟨rfl, rfl, rfl⟩ := e1
  obtain ⟨rfl, rfl, rfl, rfl⟩ := e2
  obtain ⟨rfl, rfl, rfl⟩ := e3
  exact ⟨a0, a1, a2, a3, a4, a5, a6, a7, a8, a9, a10, a11, a12, rfl, w0, w1, w2, w3, w4, w5, w6, w7, w8, w9, w10, w11, w12⟩
theorem leaf4 {H : Type} {enc : TypeId × Value → H} {w : World} {base : Nat} {spare : Nat → Bool} {held : Bool} {fuel : Nat} {cs : List Value} {y : DataW H × List MemPlace} (h : DataW.trod enc Try.prog w base spare held fuel 4 cs = some y) : ∃ (x0 : Bool), cs = [.bool x0] ∧ True := by
  obtain ⟨b, h1, _⟩ := DataW.trod_bool Try.underlying4 h
  exact ⟨b, h1, trivial⟩
theorem leaf39 {H : Type} {enc : TypeId × Value → H} {w : World} {base : Nat} {spare : Nat → Bool} {held : Bool} {fuel : Nat} {cs : List Value} {y : DataW H × List MemPlace} (h : DataW.trod enc Try.prog w base spare held fuel 39 cs = some y) : ∃ (x0 : Int) (x1 : Int) (x2 : Bool), cs = [.int .i64 x0, .int .i64 x1, .bool x2] ∧ (Lit.int .i64 x0).wf = true ∧ (Lit.int .i64 x1).wf = true ∧ True := by
  obtain ⟨ys, n, -, -, hl, hxl, hg⟩ := DataW.trod_struct Try.underlying39 h
  rw [show Try.prog.cellsOf 39 = 3 by kernel_rfl] at hl
  obtain ⟨c0, c1, c2, rfl⟩ := len3 hl
  have g0 : DataW.trod enc Try.prog w base spare held n 31 ((List.drop 0 [c0, c1, c2]).take (Try.prog.cellsOf 31)) = ys[0]? := hg 0 _ rfl
  rw [List.getElem?_eq_getElem (show 0 < ys.length by rw [hxl]; decide)] at g0
  have g1 : DataW.trod enc Try.prog w base spare held n 31 ((List.drop 1 [c0, c1, c2]).take (Try.prog.cellsOf 31)) = ys[1]? := hg 1 _ rfl
  rw [List.getElem?_eq_getElem (show 1 < ys.length by rw [hxl]; decide)] at g1
  have g2 : DataW.trod enc Try.prog w base spare held n 4 ((List.drop 2 [c0, c1, c2]).take (Try.prog.cellsOf 4)) = ys[2]? := hg 2 _ rfl
  rw [List.getElem?_eq_getElem (show 2 < ys.length by rw [hxl]; decide)] at g2
  clear hg h
  obtain ⟨a0, e0, w0⟩ := leaf31 g0
  clear g0
  (try dsimp only at e0)
  rw [show Try.prog.cellsOf 31 = 1 by kernel_rfl] at e0
  simp at e0
  obtain ⟨a1, e1, w1⟩ := leaf31 g1
  clear g1
  (try dsimp only at e1)
  rw [show Try.prog.cellsOf 31 = 1 by kernel_rfl] at e1
  simp at e1
  obtain ⟨a2, e2, w2⟩ := leaf4 g2
  clear g2
  (try dsimp only at e2)
  rw [show Try.prog.cellsOf 4 = 1 by kernel_rfl] at e2
  simp at e2
  subst e0
  subst e1
  subst e2
  exact ⟨a0, a1, a2, rfl, w0, w1, w2⟩
theorem len12 {cs : List Value} (h : cs.length = 12) : ∃ c0 c1 c2 c3 c4 c5 c6 c7 c8 c9 c10 c11 : Value, cs = [c0, c1, c2, c3, c4, c5, c6, c7, c8, c9, c10, c11] := by
  match cs, h with
  | c0 :: c1 :: c2 :: c3 :: c4 :: c5 :: c6 :: c7 :: c8 :: c9 :: c10 :: c11 :: [], _ => exact ⟨c0, c1, c2, c3, c4, c5, c6, c7, c8, c9, c10, c11, rfl⟩
theorem leaf40 {H : Type} {enc : TypeId × Value → H} {w : World} {base : Nat} {spare : Nat → Bool} {held : Bool} {fuel : Nat} {cs : List Value} {y : DataW H × List MemPlace} (h : DataW.trod enc Try.prog w base spare held fuel 40 cs = some y) : ∃ (x0 : Int) (x1 : Int) (x2 : Bool) (x3 : Int) (x4 : Int) (x5 : Bool) (x6 : Int) (x7 : Int) (x8 : Bool) (x9 : Int) (x10 : Int) (x11 : Bool), cs = [.int .i64 x0, .int .i64 x1, .bool x2, .int .i64 x3, .int .i64 x4, .bool x5, .int .i64 x6, .int .i64 x7, .bool x8, .int .i64 x9, .int .i64 x10, .bool x11] ∧ (Lit.int .i64 x0).wf = true ∧ (Lit.int .i64 x1).wf = true ∧ True ∧ (Lit.int .i64 x3).wf = true ∧ (Lit.int .i64 x4).wf = true ∧ True ∧ (Lit.int .i64 x6).wf = true ∧ (Lit.int .i64 x7).wf = true ∧ True ∧ (Lit.int .i64 x9).wf = true ∧ (Lit.int .i64 x10).wf = true ∧ True := by
  obtain ⟨ys, n, -, -, hl, hxl, hg⟩ := DataW.trod_array Try.underlying40 h
  rw [show Try.prog.cellsOf 40 = 12 by kernel_rfl] at hl
  rw [show Try.prog.cellsOf 39 = 3 by kernel_rfl] at hg
  obtain ⟨c0, c1, c2, c3, c4, c5, c6, c7, c8, c9, c10, c11, rfl⟩ := len12 hl
  have g0 := hg 0 (by decide)
  rw [List.getElem?_eq_getElem (show 0 < ys.length by rw [hxl]; decide)] at g0
  have g1 := hg 1 (by decide)
  rw [List.getElem?_eq_getElem (show 1 < ys.length by rw [hxl]; decide)] at g1
  have g2 := hg 2 (by decide)
  rw [List.getElem?_eq_getElem (show 2 < ys.length by rw [hxl]; decide)] at g2
  have g3 := hg 3 (by decide)
  rw [List.getElem?_eq_getElem (show 3 < ys.length by rw [hxl]; decide)] at g3
  clear hg h
  obtain ⟨a0, a1, a2, e0, w0, w1, w2⟩ := leaf39 g0
  clear g0
  (try dsimp only at e0)
  simp at e0
  obtain ⟨a3, a4, a5, e1, w3, w4, w5⟩ := leaf39 g1
  clear g1
  (try dsimp only at e1)
  simp at e1
  obtain ⟨a6, a7, a8, e2, w6, w7, w8⟩ := leaf39 g2
  clear g2
  (try dsimp only at e2)
  simp at e2
  obtain ⟨a9, a10, a11, e3, w9, w10, w11⟩ := leaf39 g3
  clear g3
  (try dsimp only at e3)
  simp at e3
  obtain ⟨rfl, rfl, rfl⟩ := e0
  obtain ⟨rfl, rfl, rfl⟩ := e1
  obtain ⟨rfl, rfl, rfl⟩ := e2
  obtain ⟨rfl, rfl, rfl⟩ := e3
  exact ⟨a0, a1, a2, a3, a4, a5, a6, a7, a8, a9, a10, a11, rfl, w0, w1, w2, w3, w4, w5, w6, w7, w8, w9, w10, w11⟩
theorem leaf3 {H : Type} {enc : TypeId × Value → H} {w : World} {base : Nat} {spare : Nat → Bool} {held : Bool} {fuel : Nat} {cs : List Value} {y : DataW H × List MemPlace} (h : DataW.trod enc Try.prog w base spare held fuel 3 cs = some y) : ∃ (x0 : Int), cs = [.int .i64 x0] ∧ (Lit.int .i64 x0).wf = true := by
  obtain ⟨n, h1, _, h2⟩ := DataW.trod_int Try.underlying3 h
  exact ⟨n, h1, h2⟩
theorem leaf42 {H : Type} {enc : TypeId × Value → H} {w : World} {base : Nat} {spare : Nat → Bool} {held : Bool} {fuel : Nat} {cs : List Value} {y : DataW H × List MemPlace} (h : DataW.trod enc Try.prog w base spare held fuel 42 cs = some y) : ∃ (x0 : Int), cs = [.int .u32 x0] ∧ (Lit.int .u32 x0).wf = true := by
  obtain ⟨n, h1, _, h2⟩ := DataW.trod_int Try.underlying42 h
  exact ⟨n, h1, h2⟩
theorem len5 {cs : List Value} (h : cs.length = 5) : ∃ c0 c1 c2 c3 c4 : Value, cs = [c0, c1, c2, c3, c4] := by
  match cs, h with
  | c0 :: c1 :: c2 :: c3 :: c4 :: [], _ => exact ⟨c0, c1, c2, c3, c4, rfl⟩
theorem leaf44 {H : Type} {enc : TypeId × Value → H} {w : World} {base : Nat} {spare : Nat → Bool} {held : Bool} {fuel : Nat} {cs : List Value} {y : DataW H × List MemPlace} (h : DataW.trod enc Try.prog w base spare held fuel 44 cs = some y) : ∃ (x0 : Int) (x1 : Bool) (x2 : Int) (x3 : Int) (x4 : Int), cs = [.int .i64 x0, .bool x1, .int .i64 x2, .int .i64 x3, .int .u32 x4] ∧ (Lit.int .i64 x0).wf = true ∧ True ∧ (Lit.int .i64 x2).wf = true ∧ (Lit.int .i64 x3).wf = true ∧ (Lit.int .u32 x4).wf = true := by
  obtain ⟨ys, n, -, -, hl, hxl, hg⟩ := DataW.trod_struct Try.underlying44 h
  rw [show Try.prog.cellsOf 44 = 5 by kernel_rfl] at hl
  obtain ⟨c0, c1, c2, c3, c4, rfl⟩ := len5 hl
  have g0 : DataW.trod enc Try.prog w base spare held n 31 ((List.drop 0 [c0, c1, c2, c3, c4]).take (Try.prog.cellsOf 31)) = ys[0]? := hg 0 _ rfl
  rw [List.getElem?_eq_getElem (show 0 < ys.length by rw [hxl]; decide)] at g0
  have g1 : DataW.trod enc Try.prog w base spare held n 4 ((List.drop 1 [c0, c1, c2, c3, c4]).take (Try.prog.cellsOf 4)) = ys[1]? := hg 1 _ rfl
  rw [List.getElem?_eq_getElem (show 1 < ys.length by rw [hxl]; decide)] at g1
  have g2 : DataW.trod enc Try.prog w base spare held n 3 ((List.drop 2 [c0, c1, c2, c3, c4]).take (Try.prog.cellsOf 3)) = ys[2]? := hg 2 _ rfl
  rw [List.getElem?_eq_getElem (show 2 < ys.length by rw [hxl]; decide)] at g2
  have g3 : DataW.trod enc Try.prog w base spare held n 3 ((List.drop 3 [c0, c1, c2, c3, c4]).take (Try.prog.cellsOf 3)) = ys[3]? := hg 3 _ rfl
  rw [List.getElem?_eq_getElem (show 3 < ys.length by rw [hxl]; decide)] at g3
  have g4 : DataW.trod enc Try.prog w base spare held n 42 ((List.drop 4 [c0, c1, c2, c3, c4]).take (Try.prog.cellsOf 42)) = ys[4]? := hg 4 _ rfl
  rw [List.getElem?_eq_getElem (show 4 < ys.length by rw [hxl]; decide)] at g4
  clear hg h
  obtain ⟨a0, e0, w0⟩ := leaf31 g0
  clear g0
  (try dsimp only at e0)
  rw [show Try.prog.cellsOf 31 = 1 by kernel_rfl] at e0
  simp at e0
  obtain ⟨a1, e1, w1⟩ := leaf4 g1
  clear g1
  (try dsimp only at e1)
  rw [show Try.prog.cellsOf 4 = 1 by kernel_rfl] at e1
  simp at e1
  obtain ⟨a2, e2, w2⟩ := leaf3 g2
  clear g2
  (try dsimp only at e2)
  rw [show Try.prog.cellsOf 3 = 1 by kernel_rfl] at e2
  simp at e2
  obtain ⟨a3, e3, w3⟩ := leaf3 g3
  clear g3
  (try dsimp only at e3)
  rw [show Try.prog.cellsOf 3 = 1 by kernel_rfl] at e3
  simp at e3
  obtain ⟨a4, e4, w4⟩ := leaf42 g4
  clear g4
  (try dsimp only at e4)
  rw [show Try.prog.cellsOf 42 = 1 by kernel_rfl] at e4
  simp at e4
  subst e0
  subst e1
  subst e2
  subst e3
  subst e4
  exact ⟨a0, a1, a2, a3, a4, rfl, w0, w1, w2, w3, w4⟩
theorem leaf28 {H : Type} {enc : TypeId × Value → H} {w : World} {base : Nat} {spare : Nat → Bool} {held : Bool} {fuel : Nat} {cs : List Value} {y : DataW H × List MemPlace} (h : DataW.trod enc Try.prog w base spare held fuel 28 cs = some y) : ∃ (x0 : Int), cs = [.int .i64 x0] ∧ (Lit.int .i64 x0).wf = true := by
  obtain ⟨n, h1, _, h2⟩ := DataW.trod_int Try.underlying28 h
  exact ⟨n, h1, h2⟩
theorem len10 {cs : List Value} (h : cs.length = 10) : ∃ c0 c1 c2 c3 c4 c5 c6 c7 c8 c9 : Value, cs = [c0, c1, c2, c3, c4, c5, c6, c7, c8, c9] := by
  match cs, h with
  | c0 :: c1 :: c2 :: c3 :: c4 :: c5 :: c6 :: c7 :: c8 :: c9 :: [], _ => exact ⟨c0, c1, c2, c3, c4, c5, c6, c7, c8, c9, rfl⟩
theorem leaf30 {H : Type} {enc : TypeId × Value → H} {w : World} {base : Nat} {spare : Nat → Bool} {held : Bool} {fuel : Nat} {cs : List Value} {y : DataW H × List MemPlace} (h : DataW.trod enc Try.prog w base spare held fuel 30 cs = some y) : ∃ (x0 : Int) (x1 : Int) (x2 : Bool) (x3 : Bool) (x4 : Int) (x5 : Int) (x6 : Int) (x7 : Int) (x8 : Int) (x9 : Bool), cs = [.int .i64 x0, .int .i64 x1, .bool x2, .bool x3, .int .i64 x4, .int .i64 x5, .int .i64 x6, .int .i64 x7, .int .i64 x8, .bool x9] ∧ (Lit.int .i64 x0).wf = true ∧ (Lit.int .i64 x1).wf = true ∧ True ∧ True ∧ (Lit.int .i64 x4).wf = true ∧ (Lit.int .i64 x5).wf = true ∧ (Lit.int .i64 x6).wf = true ∧ (Lit.int .i64 x7).wf = true ∧ (Lit.int .i64 x8).wf = true ∧ True := by
  obtain ⟨ys, n, -, -, hl, hxl, hg⟩ := DataW.trod_struct Try.underlying30 h
  rw [show Try.prog.cellsOf 30 = 10 by kernel_rfl] at hl
  obtain ⟨c0, c1, c2, c3, c4, c5, c6, c7, c8, c9, rfl⟩ := len10 hl
  have g0 : DataW.trod enc Try.prog w base spare held n 3 ((List.drop 0 [c0, c1, c2, c3, c4, c5, c6, c7, c8, c9]).take (Try.prog.cellsOf 3)) = ys[0]? := hg 0 _ rfl
  rw [List.getElem?_eq_getElem (show 0 < ys.length by rw [hxl]; decide)] at g0
  have g1 : DataW.trod enc Try.prog w base spare held n 3 ((List.drop 1 [c0, c1, c2, c3, c4, c5, c6, c7, c8, c9]).take (Try.prog.cellsOf 3)) = ys[1]? := hg 1 _ rfl
  rw [List.getElem?_eq_getElem (show 1 < ys.length by rw [hxl]; decide)] at g1
  have g2 : DataW.trod enc Try.prog w base spare held n 4 ((List.drop 2 [c0, c1, c2, c3, c4, c5, c6, c7, c8, c9]).take (Try.prog.cellsOf 4)) = ys[2]? := hg 2 _ rfl
  rw [List.getElem?_eq_getElem (show 2 < ys.length by rw [hxl]; decide)] at g2
  have g3 : DataW.trod enc Try.prog w base spare held n 4 ((List.drop 3 [c0, c1, c2, c3, c4, c5, c6, c7, c8, c9]).take (Try.prog.cellsOf 4)) = ys[3]? := hg 3 _ rfl
  rw [List.getElem?_eq_getElem (show 3 < ys.length by rw [hxl]; decide)] at g3
  have g4 : DataW.trod enc Try.prog w base spare held n 28 ((List.drop 4 [c0, c1, c2, c3, c4, c5, c6, c7, c8, c9]).take (Try.prog.cellsOf 28)) = ys[4]? := hg 4 _ rfl
  rw [List.getElem?_eq_getElem (show 4 < ys.length by rw [hxl]; decide)] at g4
  have g5 : DataW.trod enc Try.prog w base spare held n 28 ((List.drop 5 [c0, c1, c2, c3, c4, c5, c6, c7, c8, c9]).take (Try.prog.cellsOf 28)) = ys[5]? := hg 5 _ rfl
  rw [List.getElem?_eq_getElem (show 5 < ys.length by rw [hxl]; decide)] at g5
  have g6 : DataW.trod enc Try.prog w base spare held n 28 ((List.drop 6 [c0, c1, c2, c3, c4, c5, c6, c7, c8, c9]).take (Try.prog.cellsOf 28)) = ys[6]? := hg 6 _ rfl
  rw [List.getElem?_eq_getElem (show 6 < ys.length by rw [hxl]; decide)] at g6
  have g7 : DataW.trod enc Try.prog w base spare held n 3 ((List.drop 7 [c0, c1, c2, c3, c4, c5, c6, c7, c8, c9]).take (Try.prog.cellsOf 3)) = ys[7]? := hg 7 _ rfl
  rw [List.getElem?_eq_getElem (show 7 < ys.length by rw [hxl]; decide)] at g7
  have g8 : DataW.trod enc Try.prog w base spare held n 3 ((List.drop 8 [c0, c1, c2, c3, c4, c5, c6, c7, c8, c9]).take (Try.prog.cellsOf 3)) = ys[8]? := hg 8 _ rfl
  rw [List.getElem?_eq_getElem (show 8 < ys.length by rw [hxl]; decide)] at g8
  have g9 : DataW.trod enc Try.prog w base spare held n 4 ((List.drop 9 [c0, c1, c2, c3, c4, c5, c6, c7, c8, c9]).take (Try.prog.cellsOf 4)) = ys[9]? := hg 9 _ rfl
  rw [List.getElem?_eq_getElem (show 9 < ys.length by rw [hxl]; decide)] at g9
  clear hg h
  obtain ⟨a0, e0, w0⟩ := leaf3 g0
  clear g0
  (try dsimp only at e0)
  rw [show Try.prog.cellsOf 3 = 1 by kernel_rfl] at e0
  simp at e0
  obtain ⟨a1, e1, w1⟩ := leaf3 g1
  clear g1
  (try dsimp only at e1)
  rw [show Try.prog.cellsOf 3 = 1 by kernel_rfl] at e1
  simp at e1
  obtain ⟨a2, e2, w2⟩ := leaf4 g2
  clear g2
  (try dsimp only at e2)
  rw [show Try.prog.cellsOf 4 = 1 by kernel_rfl] at e2
  simp at e2
  obtain ⟨a3, e3, w3⟩ := leaf4 g3
  clear g3
  (try dsimp only at e3)
  rw [show Try.prog.cellsOf 4 = 1 by kernel_rfl] at e3
  simp at e3
  obtain ⟨a4, e4, w4⟩ := leaf28 g4
  clear g4
  (try dsimp only at e4)
  rw [show Try.prog.cellsOf 28 = 1 by kernel_rfl] at e4
  simp at e4
  obtain ⟨a5, e5, w5⟩ := leaf28 g5
  clear g5
  (try dsimp only at e5)
  rw [show Try.prog.cellsOf 28 = 1 by kernel_rfl] at e5
  simp at e5
  obtain ⟨a6, e6, w6⟩ := leaf28 g6
  clear g6
  (try dsimp only at e6)
  rw [show Try.prog.cellsOf 28 = 1 by kernel_rfl] at e6
  simp at e6
  obtain ⟨a7, e7, w7⟩ := leaf3 g7
  clear g7
  (try dsimp only at e7)
  rw [show Try.prog.cellsOf 3 = 1 by kernel_rfl] at e7
  simp at e7
  obtain ⟨a8, e8, w8⟩ := leaf3 g8
  clear g8
  (try dsimp only at e8)
  rw [show Try.prog.cellsOf 3 = 1 by kernel_rfl] at e8
  simp at e8
  obtain ⟨a9, e9, w9⟩ := leaf4 g9
  clear g9
  (try dsimp only at e9)
  rw [show Try.prog.cellsOf 4 = 1 by kernel_rfl] at e9
  simp at e9
  subst e0
  subst e1
  subst e2
  subst e3
  subst e4
  subst e5
  subst e6
  subst e7
  subst e8
  subst e9
  exact ⟨a0, a1, a2, a3, a4, a5, a6, a7, a8, a9, rfl, w0, w1, w2, w3, w4, w5, w6, w7, w8, w9⟩
theorem len41 {cs : List Value} (h : cs.length = 41) : ∃ c0 c1 c2 c3 c4 c5 c6 c7 c8 c9 c10 c11 c12 c13 c14 c15 c16 c17 c18 c19 c20 c21 c22 c23 c24 c25 c26 c27 c28 c29 c30 c31 c32 c33 c34 c35 c36 c37 c38 c39 c40 : Value, cs = [c0, c1, c2, c3, c4, c5, c6, c7, c8, c9, c10, c11, c12, c13, c14, c15, c16, c17, c18, c19, c20, c21, c22, c23, c24, c25, c26, c27, c28, c29, c30, c31, c32, c33, c34, c35, c36, c37, c38, c39, c40] := by
  match cs, h with
  | c0 :: c1 :: c2 :: c3 :: c4 :: c5 :: c6 :: c7 :: c8 :: c9 :: c10 :: c11 :: c12 :: c13 :: c14 :: c15 :: c16 :: c17 :: c18 :: c19 :: c20 :: c21 :: c22 :: c23 :: c24 :: c25 :: c26 :: c27 :: c28 :: c29 :: c30 :: c31 :: c32 :: c33 :: c34 :: c35 :: c36 :: c37 :: c38 :: c39 :: c40 :: [], _ => exact ⟨c0, c1, c2, c3, c4, c5, c6, c7, c8, c9, c10, c11, c12, c13, c14, c15, c16, c17, c18, c19, c20, c21, c22, c23, c24, c25, c26, c27, c28, c29, c30, c31, c32, c33, c34, c35, c36, c37, c38, c39, c40, rfl⟩
theorem leaf46 {H : Type} {enc : TypeId × Value → H} {w : World} {base : Nat} {spare : Nat → Bool} {held : Bool} {fuel : Nat} {cs : List Value} {y : DataW H × List MemPlace} (h : DataW.trod enc Try.prog w base spare held fuel 46 cs = some y) : ∃ (x0 : Int) (x1 : Int) (x2 : Int) (x3 : Int) (x4 : Int) (x5 : Int) (x6 : Int) (x7 : Int) (x8 : Int) (x9 : Int) (x10 : Int) (x11 : Int) (x12 : Int) (x13 : Int) (x14 : Int) (x15 : Bool) (x16 : Int) (x17 : Int) (x18 : Bool) (x19 : Int) (x20 : Int) (x21 : Bool) (x22 : Int) (x23 : Int) (x24 : Bool) (x25 : Int) (x26 : Bool) (x27 : Int) (x28 : Int) (x29 : Int) (x30 : Int) (x31 : Int) (x32 : Bool) (x33 : Bool) (x34 : Int) (x35 : Int) (x36 : Int) (x37 : Int) (x38 : Int) (x39 : Bool) (x40 : Bool), cs = [.int .i64 x0, .int .i64 x1, .int .i64 x2, .int .i64 x3, .int .i64 x4, .int .i64 x5, .int .i64 x6, .int .i64 x7, .int .i64 x8, .int .i64 x9, .int .i64 x10, .int .i64 x11, .int .i64 x12, .int .i64 x13, .int .i64 x14, .bool x15, .int .i64 x16, .int .i64 x17, .bool x18, .int .i64 x19, .int .i64 x20, .bool x21, .int .i64 x22, .int .i64 x23, .bool x24, .int .i64 x25, .bool x26, .int .i64 x27, .int .i64 x28, .int .u32 x29, .int .i64 x30, .int .i64 x31, .bool x32, .bool x33, .int .i64 x34, .int .i64 x35, .int .i64 x36, .int .i64 x37, .int .i64 x38, .bool x39, .bool x40] ∧ (Lit.int .i64 x0).wf = true ∧ (Lit.int .i64 x1).wf = true ∧ (Lit.int .i64 x2).wf = true ∧ (Lit.int .i64 x3).wf = true ∧ (Lit.int .i64 x4).wf = true ∧ (Lit.int .i64 x5).wf = true ∧ (Lit.int .i64 x6).wf = true ∧ (Lit.int .i64 x7).wf = true ∧ (Lit.int .i64 x8).wf = true ∧ (Lit.int .i64 x9).wf = true ∧ (Lit.int .i64 x10).wf = true ∧ (Lit.int .i64 x11).wf = true ∧ (Lit.int .i64 x12).wf = true ∧ (Lit.int .i64 x13).wf = true ∧ (Lit.int .i64 x14).wf = true ∧ True ∧ (Lit.int .i64 x16).wf = true ∧ (Lit.int .i64 x17).wf = true ∧ True ∧ (Lit.int .i64 x19).wf = true ∧ (Lit.int .i64 x20).wf = true ∧ True ∧ (Lit.int .i64 x22).wf = true ∧ (Lit.int .i64 x23).wf = true ∧ True ∧ (Lit.int .i64 x25).wf = true ∧ True ∧ (Lit.int .i64 x27).wf = true ∧ (Lit.int .i64 x28).wf = true ∧ (Lit.int .u32 x29).wf = true ∧ (Lit.int .i64 x30).wf = true ∧ (Lit.int .i64 x31).wf = true ∧ True ∧ True ∧ (Lit.int .i64 x34).wf = true ∧ (Lit.int .i64 x35).wf = true ∧ (Lit.int .i64 x36).wf = true ∧ (Lit.int .i64 x37).wf = true ∧ (Lit.int .i64 x38).wf = true ∧ True ∧ True := by
  obtain ⟨ys, n, -, -, hl, hxl, hg⟩ := DataW.trod_struct Try.underlying46 h
  rw [show Try.prog.cellsOf 46 = 41 by kernel_rfl] at hl
  obtain ⟨c0, c1, c2, c3, c4, c5, c6, c7, c8, c9, c10, c11, c12, c13, c14, c15, c16, c17, c18, c19, c20, c21, c22, c23, c24, c25, c26, c27, c28, c29, c30, c31, c32, c33, c34, c35, c36, c37, c38, c39, c40, rfl⟩ := len41 hl
  have g0 : DataW.trod enc Try.prog w base spare held n 37 ((List.drop 0 [c0, c1, c2, c3, c4, c5, c6, c7, c8, c9, c10, c11, c12, c13, c14, c15, c16, c17, c18, c19, c20, c21, c22, c23, c24, c25, c26, c27, c28, c29, c30, c31, c32, c33, c34, c35, c36, c37, c38, c39, c40]).take (Try.prog.cellsOf 37)) = ys[0]? := hg 0 _ rfl
  rw [List.getElem?_eq_getElem (show 0 < ys.length by rw [hxl]; decide)] at g0
  have g1 : DataW.trod enc Try.prog w base spare held n 40 ((List.drop 13 [c0, c1, c2, c3, c4, c5, c6, c7, c8, c9, c10, c11, c12, c13, c14, c15, c16, c17, c18, c19, c20, c21, c22, c23, c24, c25, c26, c27, c28, c29, c30, c31, c32, c33, c34, c35, c36, c37, c38, c39, c40]).take (Try.prog.cellsOf 40)) = ys[1]? := hg 1 _ rfl
  rw [List.getElem?_eq_getElem (show 1 < ys.length by rw [hxl]; decide)] at g1
  have g2 : DataW.trod enc Try.prog w base spare held n 44 ((List.drop 25 [c0, c1, c2, c3, c4, c5, c6, c7, c8, c9, c10, c11, c12, c13, c14, c15, c16, c17, c18, c19, c20, c21, c22, c23, c24, c25, c26, c27, c28, c29, c30, c31, c32, c33, c34, c35, c36, c37, c38, c39, c40]).take (Try.prog.cellsOf 44)) = ys[2]? := hg 2 _ rfl
  rw [List.getElem?_eq_getElem (show 2 < ys.length by rw [hxl]; decide)] at g2
  have g3 : DataW.trod enc Try.prog w base spare held n 30 ((List.drop 30 [c0, c1, c2, c3, c4, c5, c6, c7, c8, c9, c10, c11, c12, c13, c14, c15, c16, c17, c18, c19, c20, c21, c22, c23, c24, c25, c26, c27, c28, c29, c30, c31, c32, c33, c34, c35, c36, c37, c38, c39, c40]).take (Try.prog.cellsOf 30)) = ys[3]? := hg 3 _ rfl
  rw [List.getElem?_eq_getElem (show 3 < ys.length by rw [hxl]; decide)] at g3
  have g4 : DataW.trod enc Try.prog w base spare held n 4 ((List.drop 40 [c0, c1, c2, c3, c4, c5, c6, c7, c8, c9, c10, c11, c12, c13, c14, c15, c16, c17, c18, c19, c20, c21, c22, c23, c24, c25, c26, c27, c28, c29, c30, c31, c32, c33, c34, c35, c36, c37, c38, c39, c40]).take (Try.prog.cellsOf 4)) = ys[4]? := hg 4 _ rfl
  rw [List.getElem?_eq_getElem (show 4 < ys.length by rw [hxl]; decide)] at g4
  clear hg h
  obtain ⟨a0, a1, a2, a3, a4, a5, a6, a7, a8, a9, a10, a11, a12, e0, w0, w1, w2, w3, w4, w5, w6, w7, w8, w9, w10, w11, w12⟩ := leaf37 g0
  clear g0
  (try dsimp only at e0)
  rw [show Try.prog.cellsOf 37 = 13 by kernel_rfl] at e0
  simp at e0
  obtain ⟨a13, a14, a15, a16, a17, a18, a19, a20, a21, a22, a23, a24, e1, w13, w14, w15, w16, w17, w18, w19, w20, w21, w22, w23, w24⟩ := leaf40 g1
  clear g1
  (try dsimp only at e1)
  rw [show Try.prog.cellsOf 40 = 12 by kernel_rfl] at e1
  simp at e1
  obtain ⟨a25, a26, a27, a28, a29, e2, w25, w26, w27, w28, w29⟩ := leaf44 g2
  clear g2
  (try dsimp only at e2)
  rw [show Try.prog.cellsOf 44 = 5 by kernel_rfl] at e2
  simp at e2
  obtain ⟨a30, a31, a32, a33, a34, a35, a36, a37, a38, a39, e3, w30, w31, w32, w33, w34, w35, w36, w37, w38, w39⟩ := leaf30 g3
  clear g3
  (try dsimp only at e3)
  rw [show Try.prog.cellsOf 30 = 10 by kernel_rfl] at e3
  simp at e3
  obtain ⟨a40, e4, w40⟩ := leaf4 g4
  clear g4
  (try dsimp only at e4)
  rw [show Try.prog.cellsOf 4 = 1 by kernel_rfl] at e4
  simp at e4
  obtain ⟨rfl, rfl, rfl, rfl, rfl, rfl, rfl, rfl, rfl, rfl, rfl, rfl, rfl⟩ := e0
  obtain ⟨rfl, rfl, rfl, rfl, rfl, rfl, rfl, rfl, rfl, rfl, rfl, rfl⟩ := e1
  obtain ⟨rfl, rfl, rfl, rfl, rfl⟩ := e2
  obtain ⟨rfl, rfl, rfl, rfl, rfl, rfl, rfl, rfl, rfl, rfl⟩ := e3
  subst e4
  exact ⟨a0, a1, a2, a3, a4, a5, a6, a7, a8, a9, a10, a11, a12, a13, a14, a15, a16, a17, a18, a19, a20, a21, a22, a23, a24, a25, a26, a27, a28, a29, a30, a31, a32, a33, a34, a35, a36, a37, a38, a39, a40, rfl, w0, w1, w2, w3, w4, w5, w6, w7, w8, w9, w10, w11, w12, w13, w14, w15, w16, w17, w18, w19, w20, w21, w22, w23, w24, w25, w26, w27, w28, w29, w30, w31, w32, w33, w34, w35, w36, w37, w38, w39, w40⟩
instance : Inhabited Car := ⟨⟨fun _ => 0, fun _ => false, fun _ => by omega⟩⟩
theorem getD_bd (l : List Int) (h : ∀ x ∈ l, -9223372036854775808 ≤ x ∧ x ≤ 9223372036854775807) (j : Nat) : -9223372036854775808 ≤ l.getD j 0 ∧ l.getD j 0 ≤ 9223372036854775807 := by
  rw [List.getD_eq_getElem?_getD]
  by_cases hj : j < l.length
  · rw [List.getElem?_eq_getElem hj]; exact h _ (List.getElem_mem hj)
  · rw [List.getElem?_eq_none (by omega)]; exact ⟨by decide, by decide⟩
theorem cells30 : Try.prog.cellsOf 30 = 10 := by kernel_rfl
theorem cells33 : Try.prog.cellsOf 33 = 3 := by kernel_rfl
theorem cells35 : Try.prog.cellsOf 35 = 4 := by kernel_rfl
theorem cells37 : Try.prog.cellsOf 37 = 13 := by kernel_rfl
theorem cells39 : Try.prog.cellsOf 39 = 3 := by kernel_rfl
theorem cells44 : Try.prog.cellsOf 44 = 5 := by kernel_rfl
theorem cells46 : Try.prog.cellsOf 46 = 41 := by kernel_rfl
set_option maxRecDepth 100000 in
theorem lifted (os : Os) (started : os.Started) (H : Type) (enc : TypeId × Value → H) :
    ReturnsInHanded {} Try.checked os 3 .any (Rows.flagsLeaderSpec.pre6 enc Try.prog Try.f3 Rows.flagsLeaderRow.domain false) (Rows.flagsLeaderSpec.post enc Try.prog Try.f3 false true false false) := by
  refine returnsInHanded_of_change (C := Try.checked) own started (by kernel_rfl) Try.func3
    (ChangeSpec.witness6 (enc := enc) (C := Try.checked) false ⟨#[], #[.int .i64 0, .slice none 0 0], []⟩ 8 (by kernel_rfl) (by kernel_rfl) (by kernel_rfl) (by kernel_rfl)) ?_
  intro W base args ds gs before hval0 hW hcnd _
  have hval : ∀ (j : Nat) t v, Try.f3.params[j]? = some t → args[j]? = some v → Value.okWide Try.prog W .any base t v := hval0
  have hW' := hW
  obtain ⟨p, q, hA0, hV, rfl, hfz, hnd⟩ := hW
  have hA : DataW.TrodAll enc Try.prog W 0 (fun _ => true) true Try.f3.params.toList args.toList ds p := hA0
  rw [Try.params3] at hA hval
  obtain ⟨v0, vs0, d0, ds0, p0, q0, hargs, rfl, rfl, h0, r0⟩ := trodAll_cons hA
  obtain ⟨v1, vs1, d1, ds1, p1, q1, rfl, rfl, rfl, h1, r1⟩ := trodAll_cons r0
  obtain ⟨rfl, rfl, rfl⟩ := trodAll_nil r1
  obtain rfl : args = #[v0, v1] := by cases args; simp_all
  obtain ⟨rfl, rfl⟩ := trodVars_none hV
  have k0 := h0
  have lt0 : ∀ x ∈ p0, x.block < W.heap.size := by obtain ⟨m, hm⟩ := k0; exact DataW.trod_lt m _ _ _ hm
  obtain ⟨x0, rfl, rfl, rfl, wx0⟩ := open_int Try.underlying3 (hval 0 3 v0 rfl rfl) h0
  obtain ⟨x0a, x0b⟩ := wf_i64 wx0
  have k1 := h1
  have lt1 : ∀ x ∈ p1, x.block < W.heap.size := by obtain ⟨m, hm⟩ := k1; exact DataW.trod_lt m _ _ _ hm
  obtain ⟨a1, len1, cap1, rfl⟩ := okWide_slice Try.underlying22 (hval 1 22 v1 rfl rfl)
  obtain ⟨fu1, hf1⟩ := h1
  obtain ⟨S1, SL1⟩ : ∃ S, Lw a1 len1 cap1 S W := by
    rcases Go.Deep.open_slice Try.underlying22 hf1 with ⟨hcs, _⟩ | ⟨a, len', cap', m, n, D, Pl, hcs, _, hl, hm, hmm, hx, hcell⟩
    · simp [Value.cells] at hcs
      exact ⟨fun _ => ⟨fun _ => 0, fun _ => false, fun _ => by omega⟩, Or.inl hcs⟩
    · simp [Value.cells] at hcs
      obtain ⟨h1, h2, h3⟩ := hcs
      subst h2 h3
      simp only [if_true] at hmm
      have hml : maxLen ≤ 9223372036854775807 := by decide
      have key : ∀ i, i < m → ∃ C : Car, Qs (a.add (i * 41)) C.f C.g W := by
        intro i hi
        obtain ⟨cs', c0, t0⟩ := hcell i hi
        rw [cells46] at c0
        obtain ⟨_, _, hc⟩ := World.cells?_some c0
        obtain ⟨x0, x1, x2, x3, x4, x5, x6, x7, x8, x9, x10, x11, x12, x13, x14, x15, x16, x17, x18, x19, x20, x21, x22, x23, x24, x25, x26, x27, x28, x29, x30, x31, x32, x33, x34, x35, x36, x37, x38, x39, x40, rfl, w0, w1, w2, w3, w4, w5, w6, w7, w8, w9, w10, w11, w12, w13, w14, w15, w16, w17, w18, w19, w20, w21, w22, w23, w24, w25, w26, w27, w28, w29, w30, w31, w32, w33, w34, w35, w36, w37, w38, w39, w40⟩ := leaf46 t0
        refine ⟨⟨fun j => ([x0, x1, x2, x3, x4, x5, x6, x7, x8, x9, x10, x11, x12, x13, x14, 0, x16, x17, 0, x19, x20, 0, x22, x23, 0, x25, 0, x27, x28, x29, x30, x31, 0, 0, x34, x35, x36, x37, x38, 0, 0] : List Int).getD j 0, fun j => ([false, false, false, false, false, false, false, false, false, false, false, false, false, false, false, x15, false, false, x18, false, false, x21, false, false, x24, false, x26, false, false, false, false, false, x32, x33, false, false, false, false, false, x39, x40] : List Bool).getD j false, getD_bd _ (List.forall_mem_cons.2 ⟨wf_i64 w0, List.forall_mem_cons.2 ⟨wf_i64 w1, List.forall_mem_cons.2 ⟨wf_i64 w2, List.forall_mem_cons.2 ⟨wf_i64 w3, List.forall_mem_cons.2 ⟨wf_i64 w4, List.forall_mem_cons.2 ⟨wf_i64 w5, List.forall_mem_cons.2 ⟨wf_i64 w6, List.forall_mem_cons.2 ⟨wf_i64 w7, List.forall_mem_cons.2 ⟨wf_i64 w8, List.forall_mem_cons.2 ⟨wf_i64 w9, List.forall_mem_cons.2 ⟨wf_i64 w10, List.forall_mem_cons.2 ⟨wf_i64 w11, List.forall_mem_cons.2 ⟨wf_i64 w12, List.forall_mem_cons.2 ⟨wf_i64 w13, List.forall_mem_cons.2 ⟨wf_i64 w14, List.forall_mem_cons.2 ⟨⟨by decide, by decide⟩, List.forall_mem_cons.2 ⟨wf_i64 w16, List.forall_mem_cons.2 ⟨wf_i64 w17, List.forall_mem_cons.2 ⟨⟨by decide, by decide⟩, List.forall_mem_cons.2 ⟨wf_i64 w19, List.forall_mem_cons.2 ⟨wf_i64 w20, List.forall_mem_cons.2 ⟨⟨by decide, by decide⟩, List.forall_mem_cons.2 ⟨wf_i64 w22, List.forall_mem_cons.2 ⟨wf_i64 w23, List.forall_mem_cons.2 ⟨⟨by decide, by decide⟩, List.forall_mem_cons.2 ⟨wf_i64 w25, List.forall_mem_cons.2 ⟨⟨by decide, by decide⟩, List.forall_mem_cons.2 ⟨wf_i64 w27, List.forall_mem_cons.2 ⟨wf_i64 w28, List.forall_mem_cons.2 ⟨⟨by have := wf_u32 w29; omega, by have := wf_u32 w29; omega⟩, List.forall_mem_cons.2 ⟨wf_i64 w30, List.forall_mem_cons.2 ⟨wf_i64 w31, List.forall_mem_cons.2 ⟨⟨by decide, by decide⟩, List.forall_mem_cons.2 ⟨⟨by decide, by decide⟩, List.forall_mem_cons.2 ⟨wf_i64 w34, List.forall_mem_cons.2 ⟨wf_i64 w35, List.forall_mem_cons.2 ⟨wf_i64 w36, List.forall_mem_cons.2 ⟨wf_i64 w37, List.forall_mem_cons.2 ⟨wf_i64 w38, List.forall_mem_cons.2 ⟨⟨by decide, by decide⟩, List.forall_mem_cons.2 ⟨⟨by decide, by decide⟩, List.forall_mem_nil _⟩⟩⟩⟩⟩⟩⟩⟩⟩⟩⟩⟩⟩⟩⟩⟩⟩⟩⟩⟩⟩⟩⟩⟩⟩⟩⟩⟩⟩⟩⟩⟩⟩⟩⟩⟩⟩⟩⟩⟩⟩)⟩, ?_⟩
        intro j v hv
        have hj : j < 41 := by have := (Array.getElem?_eq_some_iff.1 hv).1; simpa using this
        have e : (sc (fun j => ([x0, x1, x2, x3, x4, x5, x6, x7, x8, x9, x10, x11, x12, x13, x14, 0, x16, x17, 0, x19, x20, 0, x22, x23, 0, x25, 0, x27, x28, x29, x30, x31, 0, 0, x34, x35, x36, x37, x38, 0, 0] : List Int).getD j 0) (fun j => ([false, false, false, false, false, false, false, false, false, false, false, false, false, false, false, x15, false, false, x18, false, false, x21, false, false, x24, false, x26, false, false, false, false, false, x32, x33, false, false, false, false, false, x39, x40] : List Bool).getD j false)).toList = [.int .i64 x0, .int .i64 x1, .int .i64 x2, .int .i64 x3, .int .i64 x4, .int .i64 x5, .int .i64 x6, .int .i64 x7, .int .i64 x8, .int .i64 x9, .int .i64 x10, .int .i64 x11, .int .i64 x12, .int .i64 x13, .int .i64 x14, .bool x15, .int .i64 x16, .int .i64 x17, .bool x18, .int .i64 x19, .int .i64 x20, .bool x21, .int .i64 x22, .int .i64 x23, .bool x24, .int .i64 x25, .bool x26, .int .i64 x27, .int .i64 x28, .int .u32 x29, .int .i64 x30, .int .i64 x31, .bool x32, .bool x33, .int .i64 x34, .int .i64 x35, .int .i64 x36, .int .i64 x37, .int .i64 x38, .bool x39, .bool x40] := rfl
        rw [hc j hj, ← e]
        simpa using hv
      obtain ⟨C, hC⟩ := Go.Deep.choose_lt (fun i hi => key i hi)
      exact ⟨C, Or.inr ⟨a, h1, by omega, fun k hk => hC k (by omega)⟩⟩
  clear hA0 hval0
  refine (walk_FlagsLeader x0 a1 len1 cap1 S1 W x0a x0b SL1).mono fun e W' ⟨he, bel⟩ => ?_
  subst he
  exact ⟨_, rfl, _, _, _, [], _, [], hW', trodAll_mk1 (shut_bool Try.underlying4 _), (trodAll_cons_mk (Below.trod laidOut (by kernel_rfl) (of_decide_eq_true (by kernel_rfl)) k0 bel lt0) (trodAll_cons_mk (Below.trod laidOut (by kernel_rfl) (of_decide_eq_true (by kernel_rfl)) k1 bel lt1) trodAll_mk0)), rfl, bel.frame _, fun h => by cases h⟩

theorem over : Rows.flagsLeaderRow.holds Try.pinned (OpenSpec.ofChange Rows.flagsLeaderSpec) :=
  OpenClaim.holds_of_wide 3 Try.f3 rfl rfl rfl rfl rfl rfl rfl ⟨rfl, rfl, rfl, rfl, rfl⟩ rfl rfl rfl rfl rfl (by kernel_rfl) Try.func3 (by kernel_rfl)
    (of_decide_eq_true (by kernel_rfl)) (by unfold Func.isWrapper; first | (rw [if_pos (by decide +kernel)]; kernel_rfl) | (rw [if_neg (by decide +kernel)]; exact ⟨rfl, rfl⟩))
    (fun os started H enc _ => lifted os started H enc)

theorem proved : Rows.FlagsLeaderSaid := over
#print axioms proved
end Go.Proofs.Ytbicnpiifpcnjaa.flagsLeader
