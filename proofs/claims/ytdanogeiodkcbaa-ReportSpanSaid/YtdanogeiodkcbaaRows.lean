/-
  No cell of these rows narrows 'for every input' (looked for: loops, veiled, ifaces, maps, wideKeys, modest, calm, conditions, laid).
  DERIVED. THE GIVEN ROWS OF THIS SEAT. 3 by the template 'for every input the law returns true; each argument reads behind the call as it read before'; 0 by the template 'total and deterministic' (their statements: YtdanogeiodkcbaaTotals.lean).
  GIVEN WITH THE SEED: the statements are not yours to turn. If you find one false, say at which input.
  Laid BY PROGRAM, IN A SANDBOX (cutbox-rows.mjs): the forced cells as the released guide's own fill.sh prints them over the translation 06e55a99e597ad62… (all of the seat's roots in one cut). By AI agents, Wed Nov 11 2026. No macro, syntax, notation, axiom, sorry.
-/
import Derived.Test.YtdanogeiodkcbaaChecked
import GoSem.Claim
import GoSem.ClaimJoined
import GoSem.ClaimMapViews
import Derived.JoinedTies
import Derived.KernelRfl
namespace Go.Proofs.Ytdanogeiodkcbaa
/- THE CELL 'sum', in the pinned program and in every row, IS THE sha256 OF THE DUMP (.gsa) THAT YtdanogeiodkcbaaProg.lean LOADS. Nothing in Lean hashes anything: it is a label: what it is worth is what the hold of that sum in a sandbox is worth. -/
noncomputable def Try.pinned : Pinned := { name := "ytdanogeiodkcbaa", sum := "06e55a99e597ad6220f6d244c88da727ca201c3365cb3e450f41a8527488d615", checked := Try.checked }
namespace Rows
def none {H : Type} : Left H := { results := [], args := [] }

/-- 'chicanelaw40.ReportRises': WHATEVER THE INPUT: true; the input reads as it did. -/
def reportRisesSpec : ChangeSpec := { name := "reportRises", fn := fun _ => fun
  | [d1, d2, d3] => { results := [.lit (.bool true)], args := [d1, d2, d3] }
  | _ => none }
def reportRisesRow : OpenClaim := { program := "ytdanogeiodkcbaa", sum := "06e55a99e597ad6220f6d244c88da727ca201c3365cb3e450f41a8527488d615", func := "chicane/chicanelaw40.ReportRises", spec := "reportRises", inPlace := ["math/bits.Sub64", "internal/abi.NoEscape", "internal/bytealg.MakeNoZero"], named := ["math/bits.divideError", "math/bits.overflowError"], apart := false }
def ReportRisesSaid : Prop := reportRisesRow.holds Try.pinned (OpenSpec.ofChange reportRisesSpec)

/-- ITS FALSE NEIGHBOUR: 'it returns false'. Refute it at one input. -/
def reportRisesWrong : ChangeSpec := { name := "reportRises", fn := fun _ => fun
  | [d1, d2, d3] => { results := [.lit (.bool false)], args := [d1, d2, d3] }
  | _ => none }
def ReportRisesWrongFalsely : Prop := reportRisesRow.holds Try.pinned (OpenSpec.ofChange reportRisesWrong)

/-- 'chicanelaw40.ReportSpan': WHATEVER THE INPUT: true; the input reads as it did. -/
def reportSpanSpec : ChangeSpec := { name := "reportSpan", fn := fun _ => fun
  | [d1, d2] => { results := [.lit (.bool true)], args := [d1, d2] }
  | _ => none }
def reportSpanRow : OpenClaim := { program := "ytdanogeiodkcbaa", sum := "06e55a99e597ad6220f6d244c88da727ca201c3365cb3e450f41a8527488d615", func := "chicane/chicanelaw40.ReportSpan", spec := "reportSpan", inPlace := ["math/bits.Sub64", "internal/abi.NoEscape", "internal/bytealg.MakeNoZero"], named := ["math/bits.divideError", "math/bits.overflowError"], apart := false }
def ReportSpanSaid : Prop := reportSpanRow.holds Try.pinned (OpenSpec.ofChange reportSpanSpec)

/-- ITS FALSE NEIGHBOUR: 'it returns false'. Refute it at one input. -/
def reportSpanWrong : ChangeSpec := { name := "reportSpan", fn := fun _ => fun
  | [d1, d2] => { results := [.lit (.bool false)], args := [d1, d2] }
  | _ => none }
def ReportSpanWrongFalsely : Prop := reportSpanRow.holds Try.pinned (OpenSpec.ofChange reportSpanWrong)

/-- 'chicanelaw40.ReportClock': WHATEVER THE INPUT: true; the input reads as it did. -/
def reportClockSpec : ChangeSpec := { name := "reportClock", fn := fun _ => fun
  | [d1, d2, d3] => { results := [.lit (.bool true)], args := [d1, d2, d3] }
  | _ => none }
def reportClockRow : OpenClaim := { program := "ytdanogeiodkcbaa", sum := "06e55a99e597ad6220f6d244c88da727ca201c3365cb3e450f41a8527488d615", func := "chicane/chicanelaw40.ReportClock", spec := "reportClock", inPlace := ["math/bits.Sub64", "internal/abi.NoEscape", "internal/bytealg.MakeNoZero"], named := ["math/bits.divideError", "math/bits.overflowError"], apart := false }
def ReportClockSaid : Prop := reportClockRow.holds Try.pinned (OpenSpec.ofChange reportClockSpec)

/-- ITS FALSE NEIGHBOUR: 'it returns false'. Refute it at one input. -/
def reportClockWrong : ChangeSpec := { name := "reportClock", fn := fun _ => fun
  | [d1, d2, d3] => { results := [.lit (.bool false)], args := [d1, d2, d3] }
  | _ => none }
def ReportClockWrongFalsely : Prop := reportClockRow.holds Try.pinned (OpenSpec.ofChange reportClockWrong)

/- THE SECOND FORM. 'bulk': how many values and letters a reading holds, each counted each time it is reached (what is shared counts as often as it is met; a slice's spare places count too). A statement '..UptoSaid' is the law's where the arguments, and the package variables that the reading takes, are together of bulk at most 1048576: NARROWER than '..Said'. Prove '..Said' where nothing that the law and all that it calls make is longer than what came in: it says more and counts as full. Else prove '..UptoSaid'. A law counts once. -/
mutual
def uptoBulk {H : Type} : DataW H → Nat
  | .lit (.string bytes) => bytes.length + 1
  | .lit _ => 1
  | .nil => 1
  | .ptr d => uptoBulk d + 1
  | .slice elems spare => uptoBulkAll elems + uptoBulkAll spare + 1
  | .agg parts => uptoBulkAll parts + 1
  | .iface _ d => uptoBulk d + 1
  | .map entries => uptoBulkEntries entries + 1
  | .held _ => 1
def uptoBulkAll {H : Type} : List (DataW H) → Nat
  | [] => 0
  | d :: r => uptoBulk d + uptoBulkAll r
def uptoBulkEntries {H : Type} : List (Lit × DataW H) → Nat
  | [] => 0
  | x :: r => uptoBulkEntry x + uptoBulkEntries r
def uptoBulkEntry {H : Type} : Lit × DataW H → Nat
  | (.string bytes, d) => bytes.length + uptoBulk d + 1
  | (_, d) => uptoBulk d + 1
 end
def uptoSmall : (H : Type) → List (DataW H) → Bool := fun _ ds => decide (uptoBulkAll ds ≤ 1048576)
def OpenSpec.upto (s : _root_.Go.ChangeSpec) : _root_.Go.OpenSpec := { _root_.Go.OpenSpec.ofChange s with cond := some uptoSmall }

/-- 'chicanelaw40.ReportRises', WHERE WHAT IT READS IS OF BULK AT MOST 1048576: true; the input reads as it did. -/
def reportRisesUptoRow : OpenClaim := { program := "ytdanogeiodkcbaa", sum := "06e55a99e597ad6220f6d244c88da727ca201c3365cb3e450f41a8527488d615", func := "chicane/chicanelaw40.ReportRises", spec := "reportRises", inPlace := ["math/bits.Sub64", "internal/abi.NoEscape", "internal/bytealg.MakeNoZero"], named := ["math/bits.divideError", "math/bits.overflowError"], apart := false, narrowed := true }
def ReportRisesUptoSaid : Prop := reportRisesUptoRow.holds Try.pinned (OpenSpec.upto reportRisesSpec)

/-- 'chicanelaw40.ReportSpan', WHERE WHAT IT READS IS OF BULK AT MOST 1048576: true; the input reads as it did. -/
def reportSpanUptoRow : OpenClaim := { program := "ytdanogeiodkcbaa", sum := "06e55a99e597ad6220f6d244c88da727ca201c3365cb3e450f41a8527488d615", func := "chicane/chicanelaw40.ReportSpan", spec := "reportSpan", inPlace := ["math/bits.Sub64", "internal/abi.NoEscape", "internal/bytealg.MakeNoZero"], named := ["math/bits.divideError", "math/bits.overflowError"], apart := false, narrowed := true }
def ReportSpanUptoSaid : Prop := reportSpanUptoRow.holds Try.pinned (OpenSpec.upto reportSpanSpec)

/-- 'chicanelaw40.ReportClock', WHERE WHAT IT READS IS OF BULK AT MOST 1048576: true; the input reads as it did. -/
def reportClockUptoRow : OpenClaim := { program := "ytdanogeiodkcbaa", sum := "06e55a99e597ad6220f6d244c88da727ca201c3365cb3e450f41a8527488d615", func := "chicane/chicanelaw40.ReportClock", spec := "reportClock", inPlace := ["math/bits.Sub64", "internal/abi.NoEscape", "internal/bytealg.MakeNoZero"], named := ["math/bits.divideError", "math/bits.overflowError"], apart := false, narrowed := true }
def ReportClockUptoSaid : Prop := reportClockUptoRow.holds Try.pinned (OpenSpec.upto reportClockSpec)

end Rows
end Go.Proofs.Ytdanogeiodkcbaa
