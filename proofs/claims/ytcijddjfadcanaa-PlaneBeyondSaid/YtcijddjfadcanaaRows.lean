/-
  No cell of these rows narrows 'for every input' (looked for: loops, veiled, ifaces, maps, wideKeys, modest, calm, conditions, laid).
  DERIVED. THE GIVEN ROWS OF THIS SEAT. 7 by the template 'for every input the law returns true; each argument reads behind the call as it read before'; 0 by the template 'total and deterministic' (their statements: YtcijddjfadcanaaTotals.lean).
  GIVEN WITH THE SEED: the statements are not yours to turn. If you find one false, say at which input.
  Laid BY PROGRAM, IN A SANDBOX (cutbox-rows.mjs): the forced cells as the released guide's own fill.sh prints them over the translation 35944da4e2c6e26e… (all of the seat's roots in one cut). By AI agents, Wed Nov 11 2026. No macro, syntax, notation, axiom, sorry.
-/
import Derived.Test.YtcijddjfadcanaaChecked
import GoSem.Claim
import GoSem.ClaimJoined
import GoSem.ClaimMapViews
import Derived.JoinedTies
import Derived.KernelRfl
namespace Go.Proofs.Ytcijddjfadcanaa
/- THE CELL 'sum', in the pinned program and in every row, IS THE sha256 OF THE DUMP (.gsa) THAT YtcijddjfadcanaaProg.lean LOADS. Nothing in Lean hashes anything: it is a label: what it is worth is what the hold of that sum in a sandbox is worth. -/
noncomputable def Try.pinned : Pinned := { name := "ytcijddjfadcanaa", sum := "35944da4e2c6e26ee62fa903282aa960c07552b18f035bd274c802927043c6ec", checked := Try.checked }
namespace Rows
def none {H : Type} : Left H := { results := [], args := [] }

/-- 'chicanelaw07.PlaneSide': WHATEVER THE INPUT: true; the input reads as it did. -/
def planeSideSpec : ChangeSpec := { name := "planeSide", fn := fun _ => fun
  | [d] => { results := [.lit (.bool true)], args := [d] }
  | _ => none }
def planeSideRow : OpenClaim := { program := "ytcijddjfadcanaa", sum := "35944da4e2c6e26ee62fa903282aa960c07552b18f035bd274c802927043c6ec", func := "chicane/chicanelaw07.PlaneSide", spec := "planeSide", inPlace := ["math/bits.Sub64", "math/bits.Add64"], named := ["math/bits.divideError", "math/bits.overflowError"], apart := false }
def PlaneSideSaid : Prop := planeSideRow.holds Try.pinned (OpenSpec.ofChange planeSideSpec)

/-- ITS FALSE NEIGHBOUR: 'it returns false'. Refute it at one input. -/
def planeSideWrong : ChangeSpec := { name := "planeSide", fn := fun _ => fun
  | [d] => { results := [.lit (.bool false)], args := [d] }
  | _ => none }
def PlaneSideWrongFalsely : Prop := planeSideRow.holds Try.pinned (OpenSpec.ofChange planeSideWrong)

/-- 'chicanelaw07.PlaneCrosses': WHATEVER THE INPUT: true; the input reads as it did. -/
def planeCrossesSpec : ChangeSpec := { name := "planeCrosses", fn := fun _ => fun
  | [d] => { results := [.lit (.bool true)], args := [d] }
  | _ => none }
def planeCrossesRow : OpenClaim := { program := "ytcijddjfadcanaa", sum := "35944da4e2c6e26ee62fa903282aa960c07552b18f035bd274c802927043c6ec", func := "chicane/chicanelaw07.PlaneCrosses", spec := "planeCrosses", inPlace := ["math/bits.Sub64", "math/bits.Add64"], named := ["math/bits.divideError", "math/bits.overflowError"], apart := false }
def PlaneCrossesSaid : Prop := planeCrossesRow.holds Try.pinned (OpenSpec.ofChange planeCrossesSpec)

/-- ITS FALSE NEIGHBOUR: 'it returns false'. Refute it at one input. -/
def planeCrossesWrong : ChangeSpec := { name := "planeCrosses", fn := fun _ => fun
  | [d] => { results := [.lit (.bool false)], args := [d] }
  | _ => none }
def PlaneCrossesWrongFalsely : Prop := planeCrossesRow.holds Try.pinned (OpenSpec.ofChange planeCrossesWrong)

/-- 'chicanelaw07.PlaneBeyond': WHATEVER THE INPUT: true; the input reads as it did. -/
def planeBeyondSpec : ChangeSpec := { name := "planeBeyond", fn := fun _ => fun
  | [d] => { results := [.lit (.bool true)], args := [d] }
  | _ => none }
def planeBeyondRow : OpenClaim := { program := "ytcijddjfadcanaa", sum := "35944da4e2c6e26ee62fa903282aa960c07552b18f035bd274c802927043c6ec", func := "chicane/chicanelaw07.PlaneBeyond", spec := "planeBeyond", inPlace := ["math/bits.Sub64", "math/bits.Add64"], named := ["math/bits.divideError", "math/bits.overflowError"], apart := false }
def PlaneBeyondSaid : Prop := planeBeyondRow.holds Try.pinned (OpenSpec.ofChange planeBeyondSpec)

/-- ITS FALSE NEIGHBOUR: 'it returns false'. Refute it at one input. -/
def planeBeyondWrong : ChangeSpec := { name := "planeBeyond", fn := fun _ => fun
  | [d] => { results := [.lit (.bool false)], args := [d] }
  | _ => none }
def PlaneBeyondWrongFalsely : Prop := planeBeyondRow.holds Try.pinned (OpenSpec.ofChange planeBeyondWrong)

/-- 'chicanelaw07.PlaneTurns': WHATEVER THE INPUT: true; the input reads as it did. -/
def planeTurnsSpec : ChangeSpec := { name := "planeTurns", fn := fun _ => fun
  | [d] => { results := [.lit (.bool true)], args := [d] }
  | _ => none }
def planeTurnsRow : OpenClaim := { program := "ytcijddjfadcanaa", sum := "35944da4e2c6e26ee62fa903282aa960c07552b18f035bd274c802927043c6ec", func := "chicane/chicanelaw07.PlaneTurns", spec := "planeTurns", inPlace := ["math/bits.Sub64", "math/bits.Add64"], named := ["math/bits.divideError", "math/bits.overflowError"], apart := false }
def PlaneTurnsSaid : Prop := planeTurnsRow.holds Try.pinned (OpenSpec.ofChange planeTurnsSpec)

/-- ITS FALSE NEIGHBOUR: 'it returns false'. Refute it at one input. -/
def planeTurnsWrong : ChangeSpec := { name := "planeTurns", fn := fun _ => fun
  | [d] => { results := [.lit (.bool false)], args := [d] }
  | _ => none }
def PlaneTurnsWrongFalsely : Prop := planeTurnsRow.holds Try.pinned (OpenSpec.ofChange planeTurnsWrong)

/-- 'chicanelaw07.PlaneOnce': WHATEVER THE INPUT: true; the input reads as it did. -/
def planeOnceSpec : ChangeSpec := { name := "planeOnce", fn := fun _ => fun
  | [d1, d2] => { results := [.lit (.bool true)], args := [d1, d2] }
  | _ => none }
def planeOnceRow : OpenClaim := { program := "ytcijddjfadcanaa", sum := "35944da4e2c6e26ee62fa903282aa960c07552b18f035bd274c802927043c6ec", func := "chicane/chicanelaw07.PlaneOnce", spec := "planeOnce", inPlace := ["math/bits.Sub64", "math/bits.Add64"], named := ["math/bits.divideError", "math/bits.overflowError"], apart := false }
def PlaneOnceSaid : Prop := planeOnceRow.holds Try.pinned (OpenSpec.ofChange planeOnceSpec)

/-- ITS FALSE NEIGHBOUR: 'it returns false'. Refute it at one input. -/
def planeOnceWrong : ChangeSpec := { name := "planeOnce", fn := fun _ => fun
  | [d1, d2] => { results := [.lit (.bool false)], args := [d1, d2] }
  | _ => none }
def PlaneOnceWrongFalsely : Prop := planeOnceRow.holds Try.pinned (OpenSpec.ofChange planeOnceWrong)

/-- 'chicanelaw07.PlaneMeets': WHATEVER THE INPUT: true; the input reads as it did. -/
def planeMeetsSpec : ChangeSpec := { name := "planeMeets", fn := fun _ => fun
  | [d] => { results := [.lit (.bool true)], args := [d] }
  | _ => none }
def planeMeetsRow : OpenClaim := { program := "ytcijddjfadcanaa", sum := "35944da4e2c6e26ee62fa903282aa960c07552b18f035bd274c802927043c6ec", func := "chicane/chicanelaw07.PlaneMeets", spec := "planeMeets", inPlace := ["math/bits.Sub64", "math/bits.Add64"], named := ["math/bits.divideError", "math/bits.overflowError"], apart := false }
def PlaneMeetsSaid : Prop := planeMeetsRow.holds Try.pinned (OpenSpec.ofChange planeMeetsSpec)

/-- ITS FALSE NEIGHBOUR: 'it returns false'. Refute it at one input. -/
def planeMeetsWrong : ChangeSpec := { name := "planeMeets", fn := fun _ => fun
  | [d] => { results := [.lit (.bool false)], args := [d] }
  | _ => none }
def PlaneMeetsWrongFalsely : Prop := planeMeetsRow.holds Try.pinned (OpenSpec.ofChange planeMeetsWrong)

/-- 'chicanelaw07.PlaneMeeting': WHATEVER THE INPUT: true; the input reads as it did. -/
def planeMeetingSpec : ChangeSpec := { name := "planeMeeting", fn := fun _ => fun
  | [d] => { results := [.lit (.bool true)], args := [d] }
  | _ => none }
def planeMeetingRow : OpenClaim := { program := "ytcijddjfadcanaa", sum := "35944da4e2c6e26ee62fa903282aa960c07552b18f035bd274c802927043c6ec", func := "chicane/chicanelaw07.PlaneMeeting", spec := "planeMeeting", inPlace := ["math/bits.Sub64", "math/bits.Add64"], named := ["math/bits.divideError", "math/bits.overflowError"], apart := false }
def PlaneMeetingSaid : Prop := planeMeetingRow.holds Try.pinned (OpenSpec.ofChange planeMeetingSpec)

/-- ITS FALSE NEIGHBOUR: 'it returns false'. Refute it at one input. -/
def planeMeetingWrong : ChangeSpec := { name := "planeMeeting", fn := fun _ => fun
  | [d] => { results := [.lit (.bool false)], args := [d] }
  | _ => none }
def PlaneMeetingWrongFalsely : Prop := planeMeetingRow.holds Try.pinned (OpenSpec.ofChange planeMeetingWrong)

/- THE SECOND FORM. 'bulk': how many values and letters a reading holds, each counted each time it is reached (what is shared counts as often as it is met; a slice's spare places count too). A statement '..UptoSaid' is the law's where the arguments, and the package variables that the reading takes, are together of bulk at most 1048576: NARROWER than '..Said'. Prove '..Said' where nothing that the law and all that it calls make is longer than what came in: it says more and counts as full. Else prove '..UptoSaid'. A law counts once. -/
mutual
def uptoBulk {H : Type} : DataW H → Nat
  | .lit (.string bytes) => bytes.length + 1
  | .lit _ => 1
  | .nil => 1
  | .ptr d => uptoBulk d + 1
  | .slice elems spare => uptoBulkAll elems + uptoBulkAll spare + 1
  | .agg parts => uptoBulkAll parts + 1
  | .iface _ d => uptoBulk d + 1
  | .map entries => uptoBulkEntries entries + 1
  | .held _ => 1
def uptoBulkAll {H : Type} : List (DataW H) → Nat
  | [] => 0
  | d :: r => uptoBulk d + uptoBulkAll r
def uptoBulkEntries {H : Type} : List (Lit × DataW H) → Nat
  | [] => 0
  | x :: r => uptoBulkEntry x + uptoBulkEntries r
def uptoBulkEntry {H : Type} : Lit × DataW H → Nat
  | (.string bytes, d) => bytes.length + uptoBulk d + 1
  | (_, d) => uptoBulk d + 1
 end
def uptoSmall : (H : Type) → List (DataW H) → Bool := fun _ ds => decide (uptoBulkAll ds ≤ 1048576)
def OpenSpec.upto (s : _root_.Go.ChangeSpec) : _root_.Go.OpenSpec := { _root_.Go.OpenSpec.ofChange s with cond := some uptoSmall }

/-- 'chicanelaw07.PlaneSide', WHERE WHAT IT READS IS OF BULK AT MOST 1048576: true; the input reads as it did. -/
def planeSideUptoRow : OpenClaim := { program := "ytcijddjfadcanaa", sum := "35944da4e2c6e26ee62fa903282aa960c07552b18f035bd274c802927043c6ec", func := "chicane/chicanelaw07.PlaneSide", spec := "planeSide", inPlace := ["math/bits.Sub64", "math/bits.Add64"], named := ["math/bits.divideError", "math/bits.overflowError"], apart := false, narrowed := true }
def PlaneSideUptoSaid : Prop := planeSideUptoRow.holds Try.pinned (OpenSpec.upto planeSideSpec)

/-- 'chicanelaw07.PlaneCrosses', WHERE WHAT IT READS IS OF BULK AT MOST 1048576: true; the input reads as it did. -/
def planeCrossesUptoRow : OpenClaim := { program := "ytcijddjfadcanaa", sum := "35944da4e2c6e26ee62fa903282aa960c07552b18f035bd274c802927043c6ec", func := "chicane/chicanelaw07.PlaneCrosses", spec := "planeCrosses", inPlace := ["math/bits.Sub64", "math/bits.Add64"], named := ["math/bits.divideError", "math/bits.overflowError"], apart := false, narrowed := true }
def PlaneCrossesUptoSaid : Prop := planeCrossesUptoRow.holds Try.pinned (OpenSpec.upto planeCrossesSpec)

/-- 'chicanelaw07.PlaneBeyond', WHERE WHAT IT READS IS OF BULK AT MOST 1048576: true; the input reads as it did. -/
def planeBeyondUptoRow : OpenClaim := { program := "ytcijddjfadcanaa", sum := "35944da4e2c6e26ee62fa903282aa960c07552b18f035bd274c802927043c6ec", func := "chicane/chicanelaw07.PlaneBeyond", spec := "planeBeyond", inPlace := ["math/bits.Sub64", "math/bits.Add64"], named := ["math/bits.divideError", "math/bits.overflowError"], apart := false, narrowed := true }
def PlaneBeyondUptoSaid : Prop := planeBeyondUptoRow.holds Try.pinned (OpenSpec.upto planeBeyondSpec)

/-- 'chicanelaw07.PlaneTurns', WHERE WHAT IT READS IS OF BULK AT MOST 1048576: true; the input reads as it did. -/
def planeTurnsUptoRow : OpenClaim := { program := "ytcijddjfadcanaa", sum := "35944da4e2c6e26ee62fa903282aa960c07552b18f035bd274c802927043c6ec", func := "chicane/chicanelaw07.PlaneTurns", spec := "planeTurns", inPlace := ["math/bits.Sub64", "math/bits.Add64"], named := ["math/bits.divideError", "math/bits.overflowError"], apart := false, narrowed := true }
def PlaneTurnsUptoSaid : Prop := planeTurnsUptoRow.holds Try.pinned (OpenSpec.upto planeTurnsSpec)

/-- 'chicanelaw07.PlaneOnce', WHERE WHAT IT READS IS OF BULK AT MOST 1048576: true; the input reads as it did. -/
def planeOnceUptoRow : OpenClaim := { program := "ytcijddjfadcanaa", sum := "35944da4e2c6e26ee62fa903282aa960c07552b18f035bd274c802927043c6ec", func := "chicane/chicanelaw07.PlaneOnce", spec := "planeOnce", inPlace := ["math/bits.Sub64", "math/bits.Add64"], named := ["math/bits.divideError", "math/bits.overflowError"], apart := false, narrowed := true }
def PlaneOnceUptoSaid : Prop := planeOnceUptoRow.holds Try.pinned (OpenSpec.upto planeOnceSpec)

/-- 'chicanelaw07.PlaneMeets', WHERE WHAT IT READS IS OF BULK AT MOST 1048576: true; the input reads as it did. -/
def planeMeetsUptoRow : OpenClaim := { program := "ytcijddjfadcanaa", sum := "35944da4e2c6e26ee62fa903282aa960c07552b18f035bd274c802927043c6ec", func := "chicane/chicanelaw07.PlaneMeets", spec := "planeMeets", inPlace := ["math/bits.Sub64", "math/bits.Add64"], named := ["math/bits.divideError", "math/bits.overflowError"], apart := false, narrowed := true }
def PlaneMeetsUptoSaid : Prop := planeMeetsUptoRow.holds Try.pinned (OpenSpec.upto planeMeetsSpec)

/-- 'chicanelaw07.PlaneMeeting', WHERE WHAT IT READS IS OF BULK AT MOST 1048576: true; the input reads as it did. -/
def planeMeetingUptoRow : OpenClaim := { program := "ytcijddjfadcanaa", sum := "35944da4e2c6e26ee62fa903282aa960c07552b18f035bd274c802927043c6ec", func := "chicane/chicanelaw07.PlaneMeeting", spec := "planeMeeting", inPlace := ["math/bits.Sub64", "math/bits.Add64"], named := ["math/bits.divideError", "math/bits.overflowError"], apart := false, narrowed := true }
def PlaneMeetingUptoSaid : Prop := planeMeetingUptoRow.holds Try.pinned (OpenSpec.upto planeMeetingSpec)

end Rows
end Go.Proofs.Ytcijddjfadcanaa
