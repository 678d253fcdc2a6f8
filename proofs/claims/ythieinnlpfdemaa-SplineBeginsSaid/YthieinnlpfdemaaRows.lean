/-
  No cell of these rows narrows 'for every input' (looked for: loops, veiled, ifaces, maps, wideKeys, modest, calm, conditions, laid).
  DERIVED. THE GIVEN ROWS OF THIS SEAT. 6 by the template 'for every input the law returns true; each argument reads behind the call as it read before'; 0 by the template 'total and deterministic' (their statements: YthieinnlpfdemaaTotals.lean).
  GIVEN WITH THE SEED: the statements are not yours to turn. If you find one false, say at which input.
  Laid BY PROGRAM, IN A SANDBOX (cutbox-rows.mjs): the forced cells as the released guide's own fill.sh prints them over the translation e09e8cf2e93c3ccf… (all of the seat's roots in one cut). By AI agents, Wed Nov 11 2026. No macro, syntax, notation, axiom, sorry.
-/
import Derived.Test.YthieinnlpfdemaaChecked
import GoSem.Claim
import GoSem.ClaimJoined
import GoSem.ClaimMapViews
import Derived.JoinedTies
import Derived.KernelRfl
namespace Go.Proofs.Ythieinnlpfdemaa
/- THE CELL 'sum', in the pinned program and in every row, IS THE sha256 OF THE DUMP (.gsa) THAT YthieinnlpfdemaaProg.lean LOADS. Nothing in Lean hashes anything: it is a label: what it is worth is what the hold of that sum in a sandbox is worth. -/
noncomputable def Try.pinned : Pinned := { name := "ythieinnlpfdemaa", sum := "e09e8cf2e93c3ccf40bee6235de4a8c51e2a66ac069e4fa721f5ef00a7b0ec68", checked := Try.checked }
namespace Rows
def none {H : Type} : Left H := { results := [], args := [] }

/-- 'chicanelaw11.SplineAt': WHATEVER THE INPUT: true; the input reads as it did. -/
def splineAtSpec : ChangeSpec := { name := "splineAt", fn := fun _ => fun
  | [d1, d2, d3] => { results := [.lit (.bool true)], args := [d1, d2, d3] }
  | _ => none }
def splineAtRow : OpenClaim := { program := "ythieinnlpfdemaa", sum := "e09e8cf2e93c3ccf40bee6235de4a8c51e2a66ac069e4fa721f5ef00a7b0ec68", func := "chicane/chicanelaw11.SplineAt", spec := "splineAt", inPlace := ["math/bits.Add64", "math/bits.Sub64"], unfollowed := true, recurses := true, apart := false }
def SplineAtSaid : Prop := splineAtRow.holds Try.pinned (OpenSpec.ofChange splineAtSpec)

/-- ITS FALSE NEIGHBOUR: 'it returns false'. Refute it at one input. -/
def splineAtWrong : ChangeSpec := { name := "splineAt", fn := fun _ => fun
  | [d1, d2, d3] => { results := [.lit (.bool false)], args := [d1, d2, d3] }
  | _ => none }
def SplineAtWrongFalsely : Prop := splineAtRow.holds Try.pinned (OpenSpec.ofChange splineAtWrong)

/-- 'chicanelaw11.SplineSamples': WHATEVER THE INPUT: true; the input reads as it did. -/
def splineSamplesSpec : ChangeSpec := { name := "splineSamples", fn := fun _ => fun
  | [d] => { results := [.lit (.bool true)], args := [d] }
  | _ => none }
def splineSamplesRow : OpenClaim := { program := "ythieinnlpfdemaa", sum := "e09e8cf2e93c3ccf40bee6235de4a8c51e2a66ac069e4fa721f5ef00a7b0ec68", func := "chicane/chicanelaw11.SplineSamples", spec := "splineSamples", inPlace := ["math/bits.Add64", "math/bits.Sub64"], unfollowed := true, recurses := true, apart := false }
def SplineSamplesSaid : Prop := splineSamplesRow.holds Try.pinned (OpenSpec.ofChange splineSamplesSpec)

/-- ITS FALSE NEIGHBOUR: 'it returns false'. Refute it at one input. -/
def splineSamplesWrong : ChangeSpec := { name := "splineSamples", fn := fun _ => fun
  | [d] => { results := [.lit (.bool false)], args := [d] }
  | _ => none }
def SplineSamplesWrongFalsely : Prop := splineSamplesRow.holds Try.pinned (OpenSpec.ofChange splineSamplesWrong)

/-- 'chicanelaw11.SplineLengths': WHATEVER THE INPUT: true; the input reads as it did. -/
def splineLengthsSpec : ChangeSpec := { name := "splineLengths", fn := fun _ => fun
  | [d] => { results := [.lit (.bool true)], args := [d] }
  | _ => none }
def splineLengthsRow : OpenClaim := { program := "ythieinnlpfdemaa", sum := "e09e8cf2e93c3ccf40bee6235de4a8c51e2a66ac069e4fa721f5ef00a7b0ec68", func := "chicane/chicanelaw11.SplineLengths", spec := "splineLengths", inPlace := ["math/bits.Sub64", "math/bits.Add64"], unfollowed := true, recurses := true, apart := false }
def SplineLengthsSaid : Prop := splineLengthsRow.holds Try.pinned (OpenSpec.ofChange splineLengthsSpec)

/-- ITS FALSE NEIGHBOUR: 'it returns false'. Refute it at one input. -/
def splineLengthsWrong : ChangeSpec := { name := "splineLengths", fn := fun _ => fun
  | [d] => { results := [.lit (.bool false)], args := [d] }
  | _ => none }
def SplineLengthsWrongFalsely : Prop := splineLengthsRow.holds Try.pinned (OpenSpec.ofChange splineLengthsWrong)

/-- 'chicanelaw11.SplineNearest': WHATEVER THE INPUT: true; the input reads as it did. -/
def splineNearestSpec : ChangeSpec := { name := "splineNearest", fn := fun _ => fun
  | [d1, d2] => { results := [.lit (.bool true)], args := [d1, d2] }
  | _ => none }
def splineNearestRow : OpenClaim := { program := "ythieinnlpfdemaa", sum := "e09e8cf2e93c3ccf40bee6235de4a8c51e2a66ac069e4fa721f5ef00a7b0ec68", func := "chicane/chicanelaw11.SplineNearest", spec := "splineNearest", inPlace := ["math/bits.Add64", "math/bits.Sub64"], unfollowed := true, recurses := true, apart := false }
def SplineNearestSaid : Prop := splineNearestRow.holds Try.pinned (OpenSpec.ofChange splineNearestSpec)

/-- ITS FALSE NEIGHBOUR: 'it returns false'. Refute it at one input. -/
def splineNearestWrong : ChangeSpec := { name := "splineNearest", fn := fun _ => fun
  | [d1, d2] => { results := [.lit (.bool false)], args := [d1, d2] }
  | _ => none }
def SplineNearestWrongFalsely : Prop := splineNearestRow.holds Try.pinned (OpenSpec.ofChange splineNearestWrong)

/-- 'chicanelaw11.SplineClose': WHATEVER THE INPUT: true; the input reads as it did. -/
def splineCloseSpec : ChangeSpec := { name := "splineClose", fn := fun _ => fun
  | [d1, d2] => { results := [.lit (.bool true)], args := [d1, d2] }
  | _ => none }
def splineCloseRow : OpenClaim := { program := "ythieinnlpfdemaa", sum := "e09e8cf2e93c3ccf40bee6235de4a8c51e2a66ac069e4fa721f5ef00a7b0ec68", func := "chicane/chicanelaw11.SplineClose", spec := "splineClose", inPlace := ["math/bits.Add64", "math/bits.Sub64"], unfollowed := true, recurses := true, apart := false }
def SplineCloseSaid : Prop := splineCloseRow.holds Try.pinned (OpenSpec.ofChange splineCloseSpec)

/-- ITS FALSE NEIGHBOUR: 'it returns false'. Refute it at one input. -/
def splineCloseWrong : ChangeSpec := { name := "splineClose", fn := fun _ => fun
  | [d1, d2] => { results := [.lit (.bool false)], args := [d1, d2] }
  | _ => none }
def SplineCloseWrongFalsely : Prop := splineCloseRow.holds Try.pinned (OpenSpec.ofChange splineCloseWrong)

/-- 'chicanelaw11.SplineBegins': WHATEVER THE INPUT: true; the input reads as it did. -/
def splineBeginsSpec : ChangeSpec := { name := "splineBegins", fn := fun _ => fun
  | [d1, d2] => { results := [.lit (.bool true)], args := [d1, d2] }
  | _ => none }
def splineBeginsRow : OpenClaim := { program := "ythieinnlpfdemaa", sum := "e09e8cf2e93c3ccf40bee6235de4a8c51e2a66ac069e4fa721f5ef00a7b0ec68", func := "chicane/chicanelaw11.SplineBegins", spec := "splineBegins", inPlace := ["math/bits.Add64", "math/bits.Sub64"], unfollowed := true, recurses := true, apart := false }
def SplineBeginsSaid : Prop := splineBeginsRow.holds Try.pinned (OpenSpec.ofChange splineBeginsSpec)

/-- ITS FALSE NEIGHBOUR: 'it returns false'. Refute it at one input. -/
def splineBeginsWrong : ChangeSpec := { name := "splineBegins", fn := fun _ => fun
  | [d1, d2] => { results := [.lit (.bool false)], args := [d1, d2] }
  | _ => none }
def SplineBeginsWrongFalsely : Prop := splineBeginsRow.holds Try.pinned (OpenSpec.ofChange splineBeginsWrong)

/- THE SECOND FORM. 'bulk': how many values and letters a reading holds, each counted each time it is reached (what is shared counts as often as it is met; a slice's spare places count too). A statement '..UptoSaid' is the law's where the arguments, and the package variables that the reading takes, are together of bulk at most 1048576: NARROWER than '..Said'. Prove '..Said' where nothing that the law and all that it calls make is longer than what came in: it says more and counts as full. Else prove '..UptoSaid'. A law counts once. -/
mutual
def uptoBulk {H : Type} : DataW H → Nat
  | .lit (.string bytes) => bytes.length + 1
  | .lit _ => 1
  | .nil => 1
  | .ptr d => uptoBulk d + 1
  | .slice elems spare => uptoBulkAll elems + uptoBulkAll spare + 1
  | .agg parts => uptoBulkAll parts + 1
  | .iface _ d => uptoBulk d + 1
  | .map entries => uptoBulkEntries entries + 1
  | .held _ => 1
def uptoBulkAll {H : Type} : List (DataW H) → Nat
  | [] => 0
  | d :: r => uptoBulk d + uptoBulkAll r
def uptoBulkEntries {H : Type} : List (Lit × DataW H) → Nat
  | [] => 0
  | x :: r => uptoBulkEntry x + uptoBulkEntries r
def uptoBulkEntry {H : Type} : Lit × DataW H → Nat
  | (.string bytes, d) => bytes.length + uptoBulk d + 1
  | (_, d) => uptoBulk d + 1
 end
def uptoSmall : (H : Type) → List (DataW H) → Bool := fun _ ds => decide (uptoBulkAll ds ≤ 1048576)
def OpenSpec.upto (s : _root_.Go.ChangeSpec) : _root_.Go.OpenSpec := { _root_.Go.OpenSpec.ofChange s with cond := some uptoSmall }

/-- 'chicanelaw11.SplineAt', WHERE WHAT IT READS IS OF BULK AT MOST 1048576: true; the input reads as it did. -/
def splineAtUptoRow : OpenClaim := { program := "ythieinnlpfdemaa", sum := "e09e8cf2e93c3ccf40bee6235de4a8c51e2a66ac069e4fa721f5ef00a7b0ec68", func := "chicane/chicanelaw11.SplineAt", spec := "splineAt", inPlace := ["math/bits.Add64", "math/bits.Sub64"], unfollowed := true, recurses := true, apart := false, narrowed := true }
def SplineAtUptoSaid : Prop := splineAtUptoRow.holds Try.pinned (OpenSpec.upto splineAtSpec)

/-- 'chicanelaw11.SplineSamples', WHERE WHAT IT READS IS OF BULK AT MOST 1048576: true; the input reads as it did. -/
def splineSamplesUptoRow : OpenClaim := { program := "ythieinnlpfdemaa", sum := "e09e8cf2e93c3ccf40bee6235de4a8c51e2a66ac069e4fa721f5ef00a7b0ec68", func := "chicane/chicanelaw11.SplineSamples", spec := "splineSamples", inPlace := ["math/bits.Add64", "math/bits.Sub64"], unfollowed := true, recurses := true, apart := false, narrowed := true }
def SplineSamplesUptoSaid : Prop := splineSamplesUptoRow.holds Try.pinned (OpenSpec.upto splineSamplesSpec)

/-- 'chicanelaw11.SplineLengths', WHERE WHAT IT READS IS OF BULK AT MOST 1048576: true; the input reads as it did. -/
def splineLengthsUptoRow : OpenClaim := { program := "ythieinnlpfdemaa", sum := "e09e8cf2e93c3ccf40bee6235de4a8c51e2a66ac069e4fa721f5ef00a7b0ec68", func := "chicane/chicanelaw11.SplineLengths", spec := "splineLengths", inPlace := ["math/bits.Sub64", "math/bits.Add64"], unfollowed := true, recurses := true, apart := false, narrowed := true }
def SplineLengthsUptoSaid : Prop := splineLengthsUptoRow.holds Try.pinned (OpenSpec.upto splineLengthsSpec)

/-- 'chicanelaw11.SplineNearest', WHERE WHAT IT READS IS OF BULK AT MOST 1048576: true; the input reads as it did. -/
def splineNearestUptoRow : OpenClaim := { program := "ythieinnlpfdemaa", sum := "e09e8cf2e93c3ccf40bee6235de4a8c51e2a66ac069e4fa721f5ef00a7b0ec68", func := "chicane/chicanelaw11.SplineNearest", spec := "splineNearest", inPlace := ["math/bits.Add64", "math/bits.Sub64"], unfollowed := true, recurses := true, apart := false, narrowed := true }
def SplineNearestUptoSaid : Prop := splineNearestUptoRow.holds Try.pinned (OpenSpec.upto splineNearestSpec)

/-- 'chicanelaw11.SplineClose', WHERE WHAT IT READS IS OF BULK AT MOST 1048576: true; the input reads as it did. -/
def splineCloseUptoRow : OpenClaim := { program := "ythieinnlpfdemaa", sum := "e09e8cf2e93c3ccf40bee6235de4a8c51e2a66ac069e4fa721f5ef00a7b0ec68", func := "chicane/chicanelaw11.SplineClose", spec := "splineClose", inPlace := ["math/bits.Add64", "math/bits.Sub64"], unfollowed := true, recurses := true, apart := false, narrowed := true }
def SplineCloseUptoSaid : Prop := splineCloseUptoRow.holds Try.pinned (OpenSpec.upto splineCloseSpec)

/-- 'chicanelaw11.SplineBegins', WHERE WHAT IT READS IS OF BULK AT MOST 1048576: true; the input reads as it did. -/
def splineBeginsUptoRow : OpenClaim := { program := "ythieinnlpfdemaa", sum := "e09e8cf2e93c3ccf40bee6235de4a8c51e2a66ac069e4fa721f5ef00a7b0ec68", func := "chicane/chicanelaw11.SplineBegins", spec := "splineBegins", inPlace := ["math/bits.Add64", "math/bits.Sub64"], unfollowed := true, recurses := true, apart := false, narrowed := true }
def SplineBeginsUptoSaid : Prop := splineBeginsUptoRow.holds Try.pinned (OpenSpec.upto splineBeginsSpec)

end Rows
end Go.Proofs.Ythieinnlpfdemaa
