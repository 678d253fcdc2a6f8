/-
  No cell of these rows narrows 'for every input' (looked for: loops, veiled, ifaces, maps, wideKeys, modest, calm, conditions, laid).
  DERIVED. THE GIVEN ROWS OF THIS SEAT. 8 by the template 'for every input the law returns true; each argument reads behind the call as it read before'; 0 by the template 'total and deterministic' (their statements: YtggpeefijdiiiaaTotals.lean).
  GIVEN WITH THE SEED: the statements are not yours to turn. If you find one false, say at which input.
  Laid BY PROGRAM, IN A SANDBOX (cutbox-rows.mjs): the forced cells as the released guide's own fill.sh prints them over the translation e45198e2d540c823… (all of the seat's roots in one cut). By AI agents, Wed Nov 11 2026. No macro, syntax, notation, axiom, sorry.
-/
import Derived.Test.YtggpeefijdiiiaaChecked
import GoSem.Claim
import GoSem.ClaimJoined
import GoSem.ClaimMapViews
import Derived.JoinedTies
import Derived.KernelRfl
namespace Go.Proofs.Ytggpeefijdiiiaa
/- THE CELL 'sum', in the pinned program and in every row, IS THE sha256 OF THE DUMP (.gsa) THAT YtggpeefijdiiiaaProg.lean LOADS. Nothing in Lean hashes anything: it is a label: what it is worth is what the hold of that sum in a sandbox is worth. -/
noncomputable def Try.pinned : Pinned := { name := "ytggpeefijdiiiaa", sum := "e45198e2d540c823c7227fb037515d3f5ad3e07202fd2227641a5509d359fef4", checked := Try.checked }
namespace Rows
def none {H : Type} : Left H := { results := [], args := [] }

/-- 'chicanelaw02.FxMul': WHATEVER THE INPUT: true; the input reads as it did. -/
def fxMulSpec : ChangeSpec := { name := "fxMul", fn := fun _ => fun
  | [d1, d2] => { results := [.lit (.bool true)], args := [d1, d2] }
  | _ => none }
def fxMulRow : OpenClaim := { program := "ytggpeefijdiiiaa", sum := "e45198e2d540c823c7227fb037515d3f5ad3e07202fd2227641a5509d359fef4", func := "chicane/chicanelaw02.FxMul", spec := "fxMul", inPlace := ["math/bits.Add64", "math/bits.Sub64"], unfollowed := true, recurses := true, named := ["math/bits.divideError", "math/bits.overflowError"], apart := false }
def FxMulSaid : Prop := fxMulRow.holds Try.pinned (OpenSpec.ofChange fxMulSpec)

/-- ITS FALSE NEIGHBOUR: 'it returns false'. Refute it at one input. -/
def fxMulWrong : ChangeSpec := { name := "fxMul", fn := fun _ => fun
  | [d1, d2] => { results := [.lit (.bool false)], args := [d1, d2] }
  | _ => none }
def FxMulWrongFalsely : Prop := fxMulRow.holds Try.pinned (OpenSpec.ofChange fxMulWrong)

/-- 'chicanelaw02.FxStays': WHATEVER THE INPUT: true; the input reads as it did. -/
def fxStaysSpec : ChangeSpec := { name := "fxStays", fn := fun _ => fun
  | [d] => { results := [.lit (.bool true)], args := [d] }
  | _ => none }
def fxStaysRow : OpenClaim := { program := "ytggpeefijdiiiaa", sum := "e45198e2d540c823c7227fb037515d3f5ad3e07202fd2227641a5509d359fef4", func := "chicane/chicanelaw02.FxStays", spec := "fxStays", inPlace := ["math/bits.Add64", "math/bits.Sub64"], unfollowed := true, recurses := true, named := ["math/bits.divideError", "math/bits.overflowError"], apart := false }
def FxStaysSaid : Prop := fxStaysRow.holds Try.pinned (OpenSpec.ofChange fxStaysSpec)

/-- ITS FALSE NEIGHBOUR: 'it returns false'. Refute it at one input. -/
def fxStaysWrong : ChangeSpec := { name := "fxStays", fn := fun _ => fun
  | [d] => { results := [.lit (.bool false)], args := [d] }
  | _ => none }
def FxStaysWrongFalsely : Prop := fxStaysRow.holds Try.pinned (OpenSpec.ofChange fxStaysWrong)

/-- 'chicanelaw02.FxRises': WHATEVER THE INPUT: true; the input reads as it did. -/
def fxRisesSpec : ChangeSpec := { name := "fxRises", fn := fun _ => fun
  | [d1, d2, d3] => { results := [.lit (.bool true)], args := [d1, d2, d3] }
  | _ => none }
def fxRisesRow : OpenClaim := { program := "ytggpeefijdiiiaa", sum := "e45198e2d540c823c7227fb037515d3f5ad3e07202fd2227641a5509d359fef4", func := "chicane/chicanelaw02.FxRises", spec := "fxRises", inPlace := ["math/bits.Add64", "math/bits.Sub64"], unfollowed := true, recurses := true, named := ["math/bits.divideError", "math/bits.overflowError"], apart := false }
def FxRisesSaid : Prop := fxRisesRow.holds Try.pinned (OpenSpec.ofChange fxRisesSpec)

/-- ITS FALSE NEIGHBOUR: 'it returns false'. Refute it at one input. -/
def fxRisesWrong : ChangeSpec := { name := "fxRises", fn := fun _ => fun
  | [d1, d2, d3] => { results := [.lit (.bool false)], args := [d1, d2, d3] }
  | _ => none }
def FxRisesWrongFalsely : Prop := fxRisesRow.holds Try.pinned (OpenSpec.ofChange fxRisesWrong)

/-- 'chicanelaw02.FxDiv': WHATEVER THE INPUT: true; the input reads as it did. -/
def fxDivSpec : ChangeSpec := { name := "fxDiv", fn := fun _ => fun
  | [d1, d2] => { results := [.lit (.bool true)], args := [d1, d2] }
  | _ => none }
def fxDivRow : OpenClaim := { program := "ytggpeefijdiiiaa", sum := "e45198e2d540c823c7227fb037515d3f5ad3e07202fd2227641a5509d359fef4", func := "chicane/chicanelaw02.FxDiv", spec := "fxDiv", inPlace := ["math/bits.Sub64", "math/bits.Add64"], unfollowed := true, recurses := true, named := ["math/bits.divideError", "math/bits.overflowError"], apart := false }
def FxDivSaid : Prop := fxDivRow.holds Try.pinned (OpenSpec.ofChange fxDivSpec)

/-- ITS FALSE NEIGHBOUR: 'it returns false'. Refute it at one input. -/
def fxDivWrong : ChangeSpec := { name := "fxDiv", fn := fun _ => fun
  | [d1, d2] => { results := [.lit (.bool false)], args := [d1, d2] }
  | _ => none }
def FxDivWrongFalsely : Prop := fxDivRow.holds Try.pinned (OpenSpec.ofChange fxDivWrong)

/-- 'chicanelaw02.FxWhole': WHATEVER THE INPUT: true; the input reads as it did. -/
def fxWholeSpec : ChangeSpec := { name := "fxWhole", fn := fun _ => fun
  | [d1, d2, d3] => { results := [.lit (.bool true)], args := [d1, d2, d3] }
  | _ => none }
def fxWholeRow : OpenClaim := { program := "ytggpeefijdiiiaa", sum := "e45198e2d540c823c7227fb037515d3f5ad3e07202fd2227641a5509d359fef4", func := "chicane/chicanelaw02.FxWhole", spec := "fxWhole", inPlace := ["math/bits.Add64", "math/bits.Sub64"], unfollowed := true, recurses := true, named := ["math/bits.divideError", "math/bits.overflowError"], apart := false }
def FxWholeSaid : Prop := fxWholeRow.holds Try.pinned (OpenSpec.ofChange fxWholeSpec)

/-- ITS FALSE NEIGHBOUR: 'it returns false'. Refute it at one input. -/
def fxWholeWrong : ChangeSpec := { name := "fxWhole", fn := fun _ => fun
  | [d1, d2, d3] => { results := [.lit (.bool false)], args := [d1, d2, d3] }
  | _ => none }
def FxWholeWrongFalsely : Prop := fxWholeRow.holds Try.pinned (OpenSpec.ofChange fxWholeWrong)

/-- 'chicanelaw02.FxMix': WHATEVER THE INPUT: true; the input reads as it did. -/
def fxMixSpec : ChangeSpec := { name := "fxMix", fn := fun _ => fun
  | [d1, d2, d3] => { results := [.lit (.bool true)], args := [d1, d2, d3] }
  | _ => none }
def fxMixRow : OpenClaim := { program := "ytggpeefijdiiiaa", sum := "e45198e2d540c823c7227fb037515d3f5ad3e07202fd2227641a5509d359fef4", func := "chicane/chicanelaw02.FxMix", spec := "fxMix", inPlace := ["math/bits.Sub64", "math/bits.Add64"], unfollowed := true, recurses := true, named := ["math/bits.divideError", "math/bits.overflowError"], apart := false }
def FxMixSaid : Prop := fxMixRow.holds Try.pinned (OpenSpec.ofChange fxMixSpec)

/-- ITS FALSE NEIGHBOUR: 'it returns false'. Refute it at one input. -/
def fxMixWrong : ChangeSpec := { name := "fxMix", fn := fun _ => fun
  | [d1, d2, d3] => { results := [.lit (.bool false)], args := [d1, d2, d3] }
  | _ => none }
def FxMixWrongFalsely : Prop := fxMixRow.holds Try.pinned (OpenSpec.ofChange fxMixWrong)

/-- 'chicanelaw02.FxAdd': WHATEVER THE INPUT: true; the input reads as it did. -/
def fxAddSpec : ChangeSpec := { name := "fxAdd", fn := fun _ => fun
  | [d1, d2] => { results := [.lit (.bool true)], args := [d1, d2] }
  | _ => none }
def fxAddRow : OpenClaim := { program := "ytggpeefijdiiiaa", sum := "e45198e2d540c823c7227fb037515d3f5ad3e07202fd2227641a5509d359fef4", func := "chicane/chicanelaw02.FxAdd", spec := "fxAdd", inPlace := ["math/bits.Add64", "math/bits.Sub64"], unfollowed := true, recurses := true, named := ["math/bits.divideError", "math/bits.overflowError"], apart := false }
def FxAddSaid : Prop := fxAddRow.holds Try.pinned (OpenSpec.ofChange fxAddSpec)

/-- ITS FALSE NEIGHBOUR: 'it returns false'. Refute it at one input. -/
def fxAddWrong : ChangeSpec := { name := "fxAdd", fn := fun _ => fun
  | [d1, d2] => { results := [.lit (.bool false)], args := [d1, d2] }
  | _ => none }
def FxAddWrongFalsely : Prop := fxAddRow.holds Try.pinned (OpenSpec.ofChange fxAddWrong)

/-- 'chicanelaw02.FxNear': WHATEVER THE INPUT: true; the input reads as it did. -/
def fxNearSpec : ChangeSpec := { name := "fxNear", fn := fun _ => fun
  | [d1, d2] => { results := [.lit (.bool true)], args := [d1, d2] }
  | _ => none }
def fxNearRow : OpenClaim := { program := "ytggpeefijdiiiaa", sum := "e45198e2d540c823c7227fb037515d3f5ad3e07202fd2227641a5509d359fef4", func := "chicane/chicanelaw02.FxNear", spec := "fxNear", inPlace := ["math/bits.Add64", "math/bits.Sub64"], unfollowed := true, recurses := true, named := ["math/bits.divideError", "math/bits.overflowError"], apart := false }
def FxNearSaid : Prop := fxNearRow.holds Try.pinned (OpenSpec.ofChange fxNearSpec)

/-- ITS FALSE NEIGHBOUR: 'it returns false'. Refute it at one input. -/
def fxNearWrong : ChangeSpec := { name := "fxNear", fn := fun _ => fun
  | [d1, d2] => { results := [.lit (.bool false)], args := [d1, d2] }
  | _ => none }
def FxNearWrongFalsely : Prop := fxNearRow.holds Try.pinned (OpenSpec.ofChange fxNearWrong)

/- THE SECOND FORM. 'bulk': how many values and letters a reading holds, each counted each time it is reached (what is shared counts as often as it is met; a slice's spare places count too). A statement '..UptoSaid' is the law's where the arguments, and the package variables that the reading takes, are together of bulk at most 1048576: NARROWER than '..Said'. Prove '..Said' where nothing that the law and all that it calls make is longer than what came in: it says more and counts as full. Else prove '..UptoSaid'. A law counts once. -/
mutual
def uptoBulk {H : Type} : DataW H → Nat
  | .lit (.string bytes) => bytes.length + 1
  | .lit _ => 1
  | .nil => 1
  | .ptr d => uptoBulk d + 1
  | .slice elems spare => uptoBulkAll elems + uptoBulkAll spare + 1
  | .agg parts => uptoBulkAll parts + 1
  | .iface _ d => uptoBulk d + 1
  | .map entries => uptoBulkEntries entries + 1
  | .held _ => 1
def uptoBulkAll {H : Type} : List (DataW H) → Nat
  | [] => 0
  | d :: r => uptoBulk d + uptoBulkAll r
def uptoBulkEntries {H : Type} : List (Lit × DataW H) → Nat
  | [] => 0
  | x :: r => uptoBulkEntry x + uptoBulkEntries r
def uptoBulkEntry {H : Type} : Lit × DataW H → Nat
  | (.string bytes, d) => bytes.length + uptoBulk d + 1
  | (_, d) => uptoBulk d + 1
 end
def uptoSmall : (H : Type) → List (DataW H) → Bool := fun _ ds => decide (uptoBulkAll ds ≤ 1048576)
def OpenSpec.upto (s : _root_.Go.ChangeSpec) : _root_.Go.OpenSpec := { _root_.Go.OpenSpec.ofChange s with cond := some uptoSmall }

/-- 'chicanelaw02.FxMul', WHERE WHAT IT READS IS OF BULK AT MOST 1048576: true; the input reads as it did. -/
def fxMulUptoRow : OpenClaim := { program := "ytggpeefijdiiiaa", sum := "e45198e2d540c823c7227fb037515d3f5ad3e07202fd2227641a5509d359fef4", func := "chicane/chicanelaw02.FxMul", spec := "fxMul", inPlace := ["math/bits.Add64", "math/bits.Sub64"], unfollowed := true, recurses := true, named := ["math/bits.divideError", "math/bits.overflowError"], apart := false, narrowed := true }
def FxMulUptoSaid : Prop := fxMulUptoRow.holds Try.pinned (OpenSpec.upto fxMulSpec)

/-- 'chicanelaw02.FxStays', WHERE WHAT IT READS IS OF BULK AT MOST 1048576: true; the input reads as it did. -/
def fxStaysUptoRow : OpenClaim := { program := "ytggpeefijdiiiaa", sum := "e45198e2d540c823c7227fb037515d3f5ad3e07202fd2227641a5509d359fef4", func := "chicane/chicanelaw02.FxStays", spec := "fxStays", inPlace := ["math/bits.Add64", "math/bits.Sub64"], unfollowed := true, recurses := true, named := ["math/bits.divideError", "math/bits.overflowError"], apart := false, narrowed := true }
def FxStaysUptoSaid : Prop := fxStaysUptoRow.holds Try.pinned (OpenSpec.upto fxStaysSpec)

/-- 'chicanelaw02.FxRises', WHERE WHAT IT READS IS OF BULK AT MOST 1048576: true; the input reads as it did. -/
def fxRisesUptoRow : OpenClaim := { program := "ytggpeefijdiiiaa", sum := "e45198e2d540c823c7227fb037515d3f5ad3e07202fd2227641a5509d359fef4", func := "chicane/chicanelaw02.FxRises", spec := "fxRises", inPlace := ["math/bits.Add64", "math/bits.Sub64"], unfollowed := true, recurses := true, named := ["math/bits.divideError", "math/bits.overflowError"], apart := false, narrowed := true }
def FxRisesUptoSaid : Prop := fxRisesUptoRow.holds Try.pinned (OpenSpec.upto fxRisesSpec)

/-- 'chicanelaw02.FxDiv', WHERE WHAT IT READS IS OF BULK AT MOST 1048576: true; the input reads as it did. -/
def fxDivUptoRow : OpenClaim := { program := "ytggpeefijdiiiaa", sum := "e45198e2d540c823c7227fb037515d3f5ad3e07202fd2227641a5509d359fef4", func := "chicane/chicanelaw02.FxDiv", spec := "fxDiv", inPlace := ["math/bits.Sub64", "math/bits.Add64"], unfollowed := true, recurses := true, named := ["math/bits.divideError", "math/bits.overflowError"], apart := false, narrowed := true }
def FxDivUptoSaid : Prop := fxDivUptoRow.holds Try.pinned (OpenSpec.upto fxDivSpec)

/-- 'chicanelaw02.FxWhole', WHERE WHAT IT READS IS OF BULK AT MOST 1048576: true; the input reads as it did. -/
def fxWholeUptoRow : OpenClaim := { program := "ytggpeefijdiiiaa", sum := "e45198e2d540c823c7227fb037515d3f5ad3e07202fd2227641a5509d359fef4", func := "chicane/chicanelaw02.FxWhole", spec := "fxWhole", inPlace := ["math/bits.Add64", "math/bits.Sub64"], unfollowed := true, recurses := true, named := ["math/bits.divideError", "math/bits.overflowError"], apart := false, narrowed := true }
def FxWholeUptoSaid : Prop := fxWholeUptoRow.holds Try.pinned (OpenSpec.upto fxWholeSpec)

/-- 'chicanelaw02.FxMix', WHERE WHAT IT READS IS OF BULK AT MOST 1048576: true; the input reads as it did. -/
def fxMixUptoRow : OpenClaim := { program := "ytggpeefijdiiiaa", sum := "e45198e2d540c823c7227fb037515d3f5ad3e07202fd2227641a5509d359fef4", func := "chicane/chicanelaw02.FxMix", spec := "fxMix", inPlace := ["math/bits.Sub64", "math/bits.Add64"], unfollowed := true, recurses := true, named := ["math/bits.divideError", "math/bits.overflowError"], apart := false, narrowed := true }
def FxMixUptoSaid : Prop := fxMixUptoRow.holds Try.pinned (OpenSpec.upto fxMixSpec)

/-- 'chicanelaw02.FxAdd', WHERE WHAT IT READS IS OF BULK AT MOST 1048576: true; the input reads as it did. -/
def fxAddUptoRow : OpenClaim := { program := "ytggpeefijdiiiaa", sum := "e45198e2d540c823c7227fb037515d3f5ad3e07202fd2227641a5509d359fef4", func := "chicane/chicanelaw02.FxAdd", spec := "fxAdd", inPlace := ["math/bits.Add64", "math/bits.Sub64"], unfollowed := true, recurses := true, named := ["math/bits.divideError", "math/bits.overflowError"], apart := false, narrowed := true }
def FxAddUptoSaid : Prop := fxAddUptoRow.holds Try.pinned (OpenSpec.upto fxAddSpec)

/-- 'chicanelaw02.FxNear', WHERE WHAT IT READS IS OF BULK AT MOST 1048576: true; the input reads as it did. -/
def fxNearUptoRow : OpenClaim := { program := "ytggpeefijdiiiaa", sum := "e45198e2d540c823c7227fb037515d3f5ad3e07202fd2227641a5509d359fef4", func := "chicane/chicanelaw02.FxNear", spec := "fxNear", inPlace := ["math/bits.Add64", "math/bits.Sub64"], unfollowed := true, recurses := true, named := ["math/bits.divideError", "math/bits.overflowError"], apart := false, narrowed := true }
def FxNearUptoSaid : Prop := fxNearUptoRow.holds Try.pinned (OpenSpec.upto fxNearSpec)

end Rows
end Go.Proofs.Ytggpeefijdiiiaa
