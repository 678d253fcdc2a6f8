/-
  No cell of these rows narrows 'for every input' (looked for: loops, veiled, ifaces, maps, wideKeys, modest, calm, conditions, laid).
  DERIVED. THE GIVEN ROWS OF THIS SEAT. 8 by the template 'for every input the law returns true; each argument reads behind the call as it read before'; 0 by the template 'total and deterministic' (their statements: YtmkpnejnjnkpiaaTotals.lean).
  GIVEN WITH THE SEED: the statements are not yours to turn. If you find one false, say at which input.
  Laid BY PROGRAM, IN A SANDBOX (cutbox-rows.mjs): the forced cells as the released guide's own fill.sh prints them over the translation 05c551bcbd5b3a5f… (all of the seat's roots in one cut). By AI agents, Wed Nov 11 2026. No macro, syntax, notation, axiom, sorry.
-/
import Derived.Test.YtmkpnejnjnkpiaaChecked
import GoSem.Claim
import GoSem.ClaimJoined
import GoSem.ClaimMapViews
import Derived.JoinedTies
import Derived.KernelRfl
namespace Go.Proofs.Ytmkpnejnjnkpiaa
/- THE CELL 'sum', in the pinned program and in every row, IS THE sha256 OF THE DUMP (.gsa) THAT YtmkpnejnjnkpiaaProg.lean LOADS. Nothing in Lean hashes anything: it is a label: what it is worth is what the hold of that sum in a sandbox is worth. -/
noncomputable def Try.pinned : Pinned := { name := "ytmkpnejnjnkpiaa", sum := "05c551bcbd5b3a5f209ab4e54fe8af621e37b81cc5f6d3d4ef67e41c1d6bf3b4", checked := Try.checked }
namespace Rows
def none {H : Type} : Left H := { results := [], args := [] }

/-- 'chicanelaw01.WideMul': WHATEVER THE INPUT: true; the input reads as it did. -/
def wideMulSpec : ChangeSpec := { name := "wideMul", fn := fun _ => fun
  | [d1, d2] => { results := [.lit (.bool true)], args := [d1, d2] }
  | _ => none }
def wideMulRow : OpenClaim := { program := "ytmkpnejnjnkpiaa", sum := "05c551bcbd5b3a5f209ab4e54fe8af621e37b81cc5f6d3d4ef67e41c1d6bf3b4", func := "chicane/chicanelaw01.WideMul", spec := "wideMul", inPlace := ["math/bits.Sub64"], named := ["math/bits.divideError", "math/bits.overflowError"], apart := false }
def WideMulSaid : Prop := wideMulRow.holds Try.pinned (OpenSpec.ofChange wideMulSpec)

/-- ITS FALSE NEIGHBOUR: 'it returns false'. Refute it at one input. -/
def wideMulWrong : ChangeSpec := { name := "wideMul", fn := fun _ => fun
  | [d1, d2] => { results := [.lit (.bool false)], args := [d1, d2] }
  | _ => none }
def WideMulWrongFalsely : Prop := wideMulRow.holds Try.pinned (OpenSpec.ofChange wideMulWrong)

/-- 'chicanelaw01.WideDiv': WHATEVER THE INPUT: true; the input reads as it did. -/
def wideDivSpec : ChangeSpec := { name := "wideDiv", fn := fun _ => fun
  | [d1, d2] => { results := [.lit (.bool true)], args := [d1, d2] }
  | _ => none }
def wideDivRow : OpenClaim := { program := "ytmkpnejnjnkpiaa", sum := "05c551bcbd5b3a5f209ab4e54fe8af621e37b81cc5f6d3d4ef67e41c1d6bf3b4", func := "chicane/chicanelaw01.WideDiv", spec := "wideDiv", inPlace := ["math/bits.Sub64"], named := ["math/bits.divideError", "math/bits.overflowError"], apart := false }
def WideDivSaid : Prop := wideDivRow.holds Try.pinned (OpenSpec.ofChange wideDivSpec)

/-- ITS FALSE NEIGHBOUR: 'it returns false'. Refute it at one input. -/
def wideDivWrong : ChangeSpec := { name := "wideDiv", fn := fun _ => fun
  | [d1, d2] => { results := [.lit (.bool false)], args := [d1, d2] }
  | _ => none }
def WideDivWrongFalsely : Prop := wideDivRow.holds Try.pinned (OpenSpec.ofChange wideDivWrong)

/-- 'chicanelaw01.WideCmp': WHATEVER THE INPUT: true; the input reads as it did. -/
def wideCmpSpec : ChangeSpec := { name := "wideCmp", fn := fun _ => fun
  | [d1, d2] => { results := [.lit (.bool true)], args := [d1, d2] }
  | _ => none }
def wideCmpRow : OpenClaim := { program := "ytmkpnejnjnkpiaa", sum := "05c551bcbd5b3a5f209ab4e54fe8af621e37b81cc5f6d3d4ef67e41c1d6bf3b4", func := "chicane/chicanelaw01.WideCmp", spec := "wideCmp", inPlace := ["math/bits.Sub64"], named := ["math/bits.divideError", "math/bits.overflowError"], apart := false }
def WideCmpSaid : Prop := wideCmpRow.holds Try.pinned (OpenSpec.ofChange wideCmpSpec)

/-- ITS FALSE NEIGHBOUR: 'it returns false'. Refute it at one input. -/
def wideCmpWrong : ChangeSpec := { name := "wideCmp", fn := fun _ => fun
  | [d1, d2] => { results := [.lit (.bool false)], args := [d1, d2] }
  | _ => none }
def WideCmpWrongFalsely : Prop := wideCmpRow.holds Try.pinned (OpenSpec.ofChange wideCmpWrong)

/-- 'chicanelaw01.WideRoot': WHATEVER THE INPUT: true; the input reads as it did. -/
def wideRootSpec : ChangeSpec := { name := "wideRoot", fn := fun _ => fun
  | [d1, d2] => { results := [.lit (.bool true)], args := [d1, d2] }
  | _ => none }
def wideRootRow : OpenClaim := { program := "ytmkpnejnjnkpiaa", sum := "05c551bcbd5b3a5f209ab4e54fe8af621e37b81cc5f6d3d4ef67e41c1d6bf3b4", func := "chicane/chicanelaw01.WideRoot", spec := "wideRoot", inPlace := ["math/bits.Sub64"], named := ["math/bits.divideError", "math/bits.overflowError"], apart := false }
def WideRootSaid : Prop := wideRootRow.holds Try.pinned (OpenSpec.ofChange wideRootSpec)

/-- ITS FALSE NEIGHBOUR: 'it returns false'. Refute it at one input. -/
def wideRootWrong : ChangeSpec := { name := "wideRoot", fn := fun _ => fun
  | [d1, d2] => { results := [.lit (.bool false)], args := [d1, d2] }
  | _ => none }
def WideRootWrongFalsely : Prop := wideRootRow.holds Try.pinned (OpenSpec.ofChange wideRootWrong)

/-- 'chicanelaw01.WideSwap': WHATEVER THE INPUT: true; the input reads as it did. -/
def wideSwapSpec : ChangeSpec := { name := "wideSwap", fn := fun _ => fun
  | [d1, d2] => { results := [.lit (.bool true)], args := [d1, d2] }
  | _ => none }
def wideSwapRow : OpenClaim := { program := "ytmkpnejnjnkpiaa", sum := "05c551bcbd5b3a5f209ab4e54fe8af621e37b81cc5f6d3d4ef67e41c1d6bf3b4", func := "chicane/chicanelaw01.WideSwap", spec := "wideSwap", inPlace := ["math/bits.Add64", "math/bits.Sub64"], named := ["math/bits.divideError", "math/bits.overflowError"], apart := false }
def WideSwapSaid : Prop := wideSwapRow.holds Try.pinned (OpenSpec.ofChange wideSwapSpec)

/-- ITS FALSE NEIGHBOUR: 'it returns false'. Refute it at one input. -/
def wideSwapWrong : ChangeSpec := { name := "wideSwap", fn := fun _ => fun
  | [d1, d2] => { results := [.lit (.bool false)], args := [d1, d2] }
  | _ => none }
def WideSwapWrongFalsely : Prop := wideSwapRow.holds Try.pinned (OpenSpec.ofChange wideSwapWrong)

/-- 'chicanelaw01.WideEnclosed': WHATEVER THE INPUT: true; the input reads as it did. -/
def wideEnclosedSpec : ChangeSpec := { name := "wideEnclosed", fn := fun _ => fun
  | [d] => { results := [.lit (.bool true)], args := [d] }
  | _ => none }
def wideEnclosedRow : OpenClaim := { program := "ytmkpnejnjnkpiaa", sum := "05c551bcbd5b3a5f209ab4e54fe8af621e37b81cc5f6d3d4ef67e41c1d6bf3b4", func := "chicane/chicanelaw01.WideEnclosed", spec := "wideEnclosed", inPlace := ["math/bits.Sub64"], named := ["math/bits.divideError", "math/bits.overflowError"], apart := false }
def WideEnclosedSaid : Prop := wideEnclosedRow.holds Try.pinned (OpenSpec.ofChange wideEnclosedSpec)

/-- ITS FALSE NEIGHBOUR: 'it returns false'. Refute it at one input. -/
def wideEnclosedWrong : ChangeSpec := { name := "wideEnclosed", fn := fun _ => fun
  | [d] => { results := [.lit (.bool false)], args := [d] }
  | _ => none }
def WideEnclosedWrongFalsely : Prop := wideEnclosedRow.holds Try.pinned (OpenSpec.ofChange wideEnclosedWrong)

/-- 'chicanelaw01.WideAdd': WHATEVER THE INPUT: true; the input reads as it did. -/
def wideAddSpec : ChangeSpec := { name := "wideAdd", fn := fun _ => fun
  | [d1, d2] => { results := [.lit (.bool true)], args := [d1, d2] }
  | _ => none }
def wideAddRow : OpenClaim := { program := "ytmkpnejnjnkpiaa", sum := "05c551bcbd5b3a5f209ab4e54fe8af621e37b81cc5f6d3d4ef67e41c1d6bf3b4", func := "chicane/chicanelaw01.WideAdd", spec := "wideAdd", inPlace := ["math/bits.Add64", "math/bits.Sub64"], named := ["math/bits.divideError", "math/bits.overflowError"], apart := false }
def WideAddSaid : Prop := wideAddRow.holds Try.pinned (OpenSpec.ofChange wideAddSpec)

/-- ITS FALSE NEIGHBOUR: 'it returns false'. Refute it at one input. -/
def wideAddWrong : ChangeSpec := { name := "wideAdd", fn := fun _ => fun
  | [d1, d2] => { results := [.lit (.bool false)], args := [d1, d2] }
  | _ => none }
def WideAddWrongFalsely : Prop := wideAddRow.holds Try.pinned (OpenSpec.ofChange wideAddWrong)

/-- 'chicanelaw01.WideNear': WHATEVER THE INPUT: true; the input reads as it did. -/
def wideNearSpec : ChangeSpec := { name := "wideNear", fn := fun _ => fun
  | [d1, d2] => { results := [.lit (.bool true)], args := [d1, d2] }
  | _ => none }
def wideNearRow : OpenClaim := { program := "ytmkpnejnjnkpiaa", sum := "05c551bcbd5b3a5f209ab4e54fe8af621e37b81cc5f6d3d4ef67e41c1d6bf3b4", func := "chicane/chicanelaw01.WideNear", spec := "wideNear", inPlace := ["math/bits.Sub64", "math/bits.Add64"], named := ["math/bits.divideError", "math/bits.overflowError"], apart := false }
def WideNearSaid : Prop := wideNearRow.holds Try.pinned (OpenSpec.ofChange wideNearSpec)

/-- ITS FALSE NEIGHBOUR: 'it returns false'. Refute it at one input. -/
def wideNearWrong : ChangeSpec := { name := "wideNear", fn := fun _ => fun
  | [d1, d2] => { results := [.lit (.bool false)], args := [d1, d2] }
  | _ => none }
def WideNearWrongFalsely : Prop := wideNearRow.holds Try.pinned (OpenSpec.ofChange wideNearWrong)

/- THE SECOND FORM. 'bulk': how many values and letters a reading holds, each counted each time it is reached (what is shared counts as often as it is met; a slice's spare places count too). A statement '..UptoSaid' is the law's where the arguments, and the package variables that the reading takes, are together of bulk at most 1048576: NARROWER than '..Said'. Prove '..Said' where nothing that the law and all that it calls make is longer than what came in: it says more and counts as full. Else prove '..UptoSaid'. A law counts once. -/
mutual
def uptoBulk {H : Type} : DataW H → Nat
  | .lit (.string bytes) => bytes.length + 1
  | .lit _ => 1
  | .nil => 1
  | .ptr d => uptoBulk d + 1
  | .slice elems spare => uptoBulkAll elems + uptoBulkAll spare + 1
  | .agg parts => uptoBulkAll parts + 1
  | .iface _ d => uptoBulk d + 1
  | .map entries => uptoBulkEntries entries + 1
  | .held _ => 1
def uptoBulkAll {H : Type} : List (DataW H) → Nat
  | [] => 0
  | d :: r => uptoBulk d + uptoBulkAll r
def uptoBulkEntries {H : Type} : List (Lit × DataW H) → Nat
  | [] => 0
  | x :: r => uptoBulkEntry x + uptoBulkEntries r
def uptoBulkEntry {H : Type} : Lit × DataW H → Nat
  | (.string bytes, d) => bytes.length + uptoBulk d + 1
  | (_, d) => uptoBulk d + 1
 end
def uptoSmall : (H : Type) → List (DataW H) → Bool := fun _ ds => decide (uptoBulkAll ds ≤ 1048576)
def OpenSpec.upto (s : _root_.Go.ChangeSpec) : _root_.Go.OpenSpec := { _root_.Go.OpenSpec.ofChange s with cond := some uptoSmall }

/-- 'chicanelaw01.WideMul', WHERE WHAT IT READS IS OF BULK AT MOST 1048576: true; the input reads as it did. -/
def wideMulUptoRow : OpenClaim := { program := "ytmkpnejnjnkpiaa", sum := "05c551bcbd5b3a5f209ab4e54fe8af621e37b81cc5f6d3d4ef67e41c1d6bf3b4", func := "chicane/chicanelaw01.WideMul", spec := "wideMul", inPlace := ["math/bits.Sub64"], named := ["math/bits.divideError", "math/bits.overflowError"], apart := false, narrowed := true }
def WideMulUptoSaid : Prop := wideMulUptoRow.holds Try.pinned (OpenSpec.upto wideMulSpec)

/-- 'chicanelaw01.WideDiv', WHERE WHAT IT READS IS OF BULK AT MOST 1048576: true; the input reads as it did. -/
def wideDivUptoRow : OpenClaim := { program := "ytmkpnejnjnkpiaa", sum := "05c551bcbd5b3a5f209ab4e54fe8af621e37b81cc5f6d3d4ef67e41c1d6bf3b4", func := "chicane/chicanelaw01.WideDiv", spec := "wideDiv", inPlace := ["math/bits.Sub64"], named := ["math/bits.divideError", "math/bits.overflowError"], apart := false, narrowed := true }
def WideDivUptoSaid : Prop := wideDivUptoRow.holds Try.pinned (OpenSpec.upto wideDivSpec)

/-- 'chicanelaw01.WideCmp', WHERE WHAT IT READS IS OF BULK AT MOST 1048576: true; the input reads as it did. -/
def wideCmpUptoRow : OpenClaim := { program := "ytmkpnejnjnkpiaa", sum := "05c551bcbd5b3a5f209ab4e54fe8af621e37b81cc5f6d3d4ef67e41c1d6bf3b4", func := "chicane/chicanelaw01.WideCmp", spec := "wideCmp", inPlace := ["math/bits.Sub64"], named := ["math/bits.divideError", "math/bits.overflowError"], apart := false, narrowed := true }
def WideCmpUptoSaid : Prop := wideCmpUptoRow.holds Try.pinned (OpenSpec.upto wideCmpSpec)

/-- 'chicanelaw01.WideRoot', WHERE WHAT IT READS IS OF BULK AT MOST 1048576: true; the input reads as it did. -/
def wideRootUptoRow : OpenClaim := { program := "ytmkpnejnjnkpiaa", sum := "05c551bcbd5b3a5f209ab4e54fe8af621e37b81cc5f6d3d4ef67e41c1d6bf3b4", func := "chicane/chicanelaw01.WideRoot", spec := "wideRoot", inPlace := ["math/bits.Sub64"], named := ["math/bits.divideError", "math/bits.overflowError"], apart := false, narrowed := true }
def WideRootUptoSaid : Prop := wideRootUptoRow.holds Try.pinned (OpenSpec.upto wideRootSpec)

/-- 'chicanelaw01.WideSwap', WHERE WHAT IT READS IS OF BULK AT MOST 1048576: true; the input reads as it did. -/
def wideSwapUptoRow : OpenClaim := { program := "ytmkpnejnjnkpiaa", sum := "05c551bcbd5b3a5f209ab4e54fe8af621e37b81cc5f6d3d4ef67e41c1d6bf3b4", func := "chicane/chicanelaw01.WideSwap", spec := "wideSwap", inPlace := ["math/bits.Add64", "math/bits.Sub64"], named := ["math/bits.divideError", "math/bits.overflowError"], apart := false, narrowed := true }
def WideSwapUptoSaid : Prop := wideSwapUptoRow.holds Try.pinned (OpenSpec.upto wideSwapSpec)

/-- 'chicanelaw01.WideEnclosed', WHERE WHAT IT READS IS OF BULK AT MOST 1048576: true; the input reads as it did. -/
def wideEnclosedUptoRow : OpenClaim := { program := "ytmkpnejnjnkpiaa", sum := "05c551bcbd5b3a5f209ab4e54fe8af621e37b81cc5f6d3d4ef67e41c1d6bf3b4", func := "chicane/chicanelaw01.WideEnclosed", spec := "wideEnclosed", inPlace := ["math/bits.Sub64"], named := ["math/bits.divideError", "math/bits.overflowError"], apart := false, narrowed := true }
def WideEnclosedUptoSaid : Prop := wideEnclosedUptoRow.holds Try.pinned (OpenSpec.upto wideEnclosedSpec)

/-- 'chicanelaw01.WideAdd', WHERE WHAT IT READS IS OF BULK AT MOST 1048576: true; the input reads as it did. -/
def wideAddUptoRow : OpenClaim := { program := "ytmkpnejnjnkpiaa", sum := "05c551bcbd5b3a5f209ab4e54fe8af621e37b81cc5f6d3d4ef67e41c1d6bf3b4", func := "chicane/chicanelaw01.WideAdd", spec := "wideAdd", inPlace := ["math/bits.Add64", "math/bits.Sub64"], named := ["math/bits.divideError", "math/bits.overflowError"], apart := false, narrowed := true }
def WideAddUptoSaid : Prop := wideAddUptoRow.holds Try.pinned (OpenSpec.upto wideAddSpec)

/-- 'chicanelaw01.WideNear', WHERE WHAT IT READS IS OF BULK AT MOST 1048576: true; the input reads as it did. -/
def wideNearUptoRow : OpenClaim := { program := "ytmkpnejnjnkpiaa", sum := "05c551bcbd5b3a5f209ab4e54fe8af621e37b81cc5f6d3d4ef67e41c1d6bf3b4", func := "chicane/chicanelaw01.WideNear", spec := "wideNear", inPlace := ["math/bits.Sub64", "math/bits.Add64"], named := ["math/bits.divideError", "math/bits.overflowError"], apart := false, narrowed := true }
def WideNearUptoSaid : Prop := wideNearUptoRow.holds Try.pinned (OpenSpec.upto wideNearSpec)

end Rows
end Go.Proofs.Ytmkpnejnjnkpiaa
