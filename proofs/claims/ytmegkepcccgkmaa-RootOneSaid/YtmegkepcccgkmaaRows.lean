/-
  No cell of these rows narrows 'for every input' (looked for: loops, veiled, ifaces, maps, wideKeys, modest, calm, conditions, laid).
  DERIVED. THE GIVEN ROWS OF THIS SEAT. 6 by the template 'for every input the law returns true; each argument reads behind the call as it read before'; 0 by the template 'total and deterministic' (their statements: YtmegkepcccgkmaaTotals.lean).
  GIVEN WITH THE SEED: the statements are not yours to turn. If you find one false, say at which input.
  Laid BY PROGRAM, IN A SANDBOX (cutbox-rows.mjs): the forced cells as the released guide's own fill.sh prints them over the translation d761ce46c006f589… (all of the seat's roots in one cut). By AI agents, Wed Nov 11 2026. No macro, syntax, notation, axiom, sorry.
-/
import Derived.Test.YtmegkepcccgkmaaChecked
import GoSem.Claim
import GoSem.ClaimJoined
import GoSem.ClaimMapViews
import Derived.JoinedTies
import Derived.KernelRfl
namespace Go.Proofs.Ytmegkepcccgkmaa
/- THE CELL 'sum', in the pinned program and in every row, IS THE sha256 OF THE DUMP (.gsa) THAT YtmegkepcccgkmaaProg.lean LOADS. Nothing in Lean hashes anything: it is a label: what it is worth is what the hold of that sum in a sandbox is worth. -/
noncomputable def Try.pinned : Pinned := { name := "ytmegkepcccgkmaa", sum := "d761ce46c006f589542d3d8be5954f4bf1fcd074a8f74e9d5065c3e2892ed48c", checked := Try.checked }
namespace Rows
def none {H : Type} : Left H := { results := [], args := [] }

/-- 'chicanelaw03.RootSqrt': WHATEVER THE INPUT: true; the input reads as it did. -/
def rootSqrtSpec : ChangeSpec := { name := "rootSqrt", fn := fun _ => fun
  | [d] => { results := [.lit (.bool true)], args := [d] }
  | _ => none }
def rootSqrtRow : OpenClaim := { program := "ytmegkepcccgkmaa", sum := "d761ce46c006f589542d3d8be5954f4bf1fcd074a8f74e9d5065c3e2892ed48c", func := "chicane/chicanelaw03.RootSqrt", spec := "rootSqrt", inPlace := ["math/bits.Add64"], apart := false }
def RootSqrtSaid : Prop := rootSqrtRow.holds Try.pinned (OpenSpec.ofChange rootSqrtSpec)

/-- ITS FALSE NEIGHBOUR: 'it returns false'. Refute it at one input. -/
def rootSqrtWrong : ChangeSpec := { name := "rootSqrt", fn := fun _ => fun
  | [d] => { results := [.lit (.bool false)], args := [d] }
  | _ => none }
def RootSqrtWrongFalsely : Prop := rootSqrtRow.holds Try.pinned (OpenSpec.ofChange rootSqrtWrong)

/-- 'chicanelaw03.RootLen': WHATEVER THE INPUT: true; the input reads as it did. -/
def rootLenSpec : ChangeSpec := { name := "rootLen", fn := fun _ => fun
  | [d] => { results := [.lit (.bool true)], args := [d] }
  | _ => none }
def rootLenRow : OpenClaim := { program := "ytmegkepcccgkmaa", sum := "d761ce46c006f589542d3d8be5954f4bf1fcd074a8f74e9d5065c3e2892ed48c", func := "chicane/chicanelaw03.RootLen", spec := "rootLen", inPlace := ["math/bits.Add64"], apart := false }
def RootLenSaid : Prop := rootLenRow.holds Try.pinned (OpenSpec.ofChange rootLenSpec)

/-- ITS FALSE NEIGHBOUR: 'it returns false'. Refute it at one input. -/
def rootLenWrong : ChangeSpec := { name := "rootLen", fn := fun _ => fun
  | [d] => { results := [.lit (.bool false)], args := [d] }
  | _ => none }
def RootLenWrongFalsely : Prop := rootLenRow.holds Try.pinned (OpenSpec.ofChange rootLenWrong)

/-- 'chicanelaw03.RootBetween': WHATEVER THE INPUT: true; the input reads as it did. -/
def rootBetweenSpec : ChangeSpec := { name := "rootBetween", fn := fun _ => fun
  | [d] => { results := [.lit (.bool true)], args := [d] }
  | _ => none }
def rootBetweenRow : OpenClaim := { program := "ytmegkepcccgkmaa", sum := "d761ce46c006f589542d3d8be5954f4bf1fcd074a8f74e9d5065c3e2892ed48c", func := "chicane/chicanelaw03.RootBetween", spec := "rootBetween", inPlace := ["math/bits.Add64"], apart := false }
def RootBetweenSaid : Prop := rootBetweenRow.holds Try.pinned (OpenSpec.ofChange rootBetweenSpec)

/-- ITS FALSE NEIGHBOUR: 'it returns false'. Refute it at one input. -/
def rootBetweenWrong : ChangeSpec := { name := "rootBetween", fn := fun _ => fun
  | [d] => { results := [.lit (.bool false)], args := [d] }
  | _ => none }
def RootBetweenWrongFalsely : Prop := rootBetweenRow.holds Try.pinned (OpenSpec.ofChange rootBetweenWrong)

/-- 'chicanelaw03.RootParts': WHATEVER THE INPUT: true; the input reads as it did. -/
def rootPartsSpec : ChangeSpec := { name := "rootParts", fn := fun _ => fun
  | [d] => { results := [.lit (.bool true)], args := [d] }
  | _ => none }
def rootPartsRow : OpenClaim := { program := "ytmegkepcccgkmaa", sum := "d761ce46c006f589542d3d8be5954f4bf1fcd074a8f74e9d5065c3e2892ed48c", func := "chicane/chicanelaw03.RootParts", spec := "rootParts", inPlace := ["math/bits.Add64", "math/bits.Sub64"], unfollowed := true, recurses := true, apart := false }
def RootPartsSaid : Prop := rootPartsRow.holds Try.pinned (OpenSpec.ofChange rootPartsSpec)

/-- ITS FALSE NEIGHBOUR: 'it returns false'. Refute it at one input. -/
def rootPartsWrong : ChangeSpec := { name := "rootParts", fn := fun _ => fun
  | [d] => { results := [.lit (.bool false)], args := [d] }
  | _ => none }
def RootPartsWrongFalsely : Prop := rootPartsRow.holds Try.pinned (OpenSpec.ofChange rootPartsWrong)

/-- 'chicanelaw03.RootOne': WHATEVER THE INPUT: true; the input reads as it did. -/
def rootOneSpec : ChangeSpec := { name := "rootOne", fn := fun _ => fun
  | [d] => { results := [.lit (.bool true)], args := [d] }
  | _ => none }
def rootOneRow : OpenClaim := { program := "ytmegkepcccgkmaa", sum := "d761ce46c006f589542d3d8be5954f4bf1fcd074a8f74e9d5065c3e2892ed48c", func := "chicane/chicanelaw03.RootOne", spec := "rootOne", inPlace := ["math/bits.Add64", "math/bits.Sub64"], named := ["math/bits.divideError", "math/bits.overflowError"], apart := false }
def RootOneSaid : Prop := rootOneRow.holds Try.pinned (OpenSpec.ofChange rootOneSpec)

/-- ITS FALSE NEIGHBOUR: 'it returns false'. Refute it at one input. -/
def rootOneWrong : ChangeSpec := { name := "rootOne", fn := fun _ => fun
  | [d] => { results := [.lit (.bool false)], args := [d] }
  | _ => none }
def RootOneWrongFalsely : Prop := rootOneRow.holds Try.pinned (OpenSpec.ofChange rootOneWrong)

/-- 'chicanelaw03.RootUnit': WHATEVER THE INPUT: true; the input reads as it did. -/
def rootUnitSpec : ChangeSpec := { name := "rootUnit", fn := fun _ => fun
  | [d] => { results := [.lit (.bool true)], args := [d] }
  | _ => none }
def rootUnitRow : OpenClaim := { program := "ytmegkepcccgkmaa", sum := "d761ce46c006f589542d3d8be5954f4bf1fcd074a8f74e9d5065c3e2892ed48c", func := "chicane/chicanelaw03.RootUnit", spec := "rootUnit", inPlace := ["math/bits.Add64", "math/bits.Sub64"], named := ["math/bits.divideError", "math/bits.overflowError"], apart := false }
def RootUnitSaid : Prop := rootUnitRow.holds Try.pinned (OpenSpec.ofChange rootUnitSpec)

/-- ITS FALSE NEIGHBOUR: 'it returns false'. Refute it at one input. -/
def rootUnitWrong : ChangeSpec := { name := "rootUnit", fn := fun _ => fun
  | [d] => { results := [.lit (.bool false)], args := [d] }
  | _ => none }
def RootUnitWrongFalsely : Prop := rootUnitRow.holds Try.pinned (OpenSpec.ofChange rootUnitWrong)

/- THE SECOND FORM. 'bulk': how many values and letters a reading holds, each counted each time it is reached (what is shared counts as often as it is met; a slice's spare places count too). A statement '..UptoSaid' is the law's where the arguments, and the package variables that the reading takes, are together of bulk at most 1048576: NARROWER than '..Said'. Prove '..Said' where nothing that the law and all that it calls make is longer than what came in: it says more and counts as full. Else prove '..UptoSaid'. A law counts once. -/
mutual
def uptoBulk {H : Type} : DataW H → Nat
  | .lit (.string bytes) => bytes.length + 1
  | .lit _ => 1
  | .nil => 1
  | .ptr d => uptoBulk d + 1
  | .slice elems spare => uptoBulkAll elems + uptoBulkAll spare + 1
  | .agg parts => uptoBulkAll parts + 1
  | .iface _ d => uptoBulk d + 1
  | .map entries => uptoBulkEntries entries + 1
  | .held _ => 1
def uptoBulkAll {H : Type} : List (DataW H) → Nat
  | [] => 0
  | d :: r => uptoBulk d + uptoBulkAll r
def uptoBulkEntries {H : Type} : List (Lit × DataW H) → Nat
  | [] => 0
  | x :: r => uptoBulkEntry x + uptoBulkEntries r
def uptoBulkEntry {H : Type} : Lit × DataW H → Nat
  | (.string bytes, d) => bytes.length + uptoBulk d + 1
  | (_, d) => uptoBulk d + 1
 end
def uptoSmall : (H : Type) → List (DataW H) → Bool := fun _ ds => decide (uptoBulkAll ds ≤ 1048576)
def OpenSpec.upto (s : _root_.Go.ChangeSpec) : _root_.Go.OpenSpec := { _root_.Go.OpenSpec.ofChange s with cond := some uptoSmall }

/-- 'chicanelaw03.RootSqrt', WHERE WHAT IT READS IS OF BULK AT MOST 1048576: true; the input reads as it did. -/
def rootSqrtUptoRow : OpenClaim := { program := "ytmegkepcccgkmaa", sum := "d761ce46c006f589542d3d8be5954f4bf1fcd074a8f74e9d5065c3e2892ed48c", func := "chicane/chicanelaw03.RootSqrt", spec := "rootSqrt", inPlace := ["math/bits.Add64"], apart := false, narrowed := true }
def RootSqrtUptoSaid : Prop := rootSqrtUptoRow.holds Try.pinned (OpenSpec.upto rootSqrtSpec)

/-- 'chicanelaw03.RootLen', WHERE WHAT IT READS IS OF BULK AT MOST 1048576: true; the input reads as it did. -/
def rootLenUptoRow : OpenClaim := { program := "ytmegkepcccgkmaa", sum := "d761ce46c006f589542d3d8be5954f4bf1fcd074a8f74e9d5065c3e2892ed48c", func := "chicane/chicanelaw03.RootLen", spec := "rootLen", inPlace := ["math/bits.Add64"], apart := false, narrowed := true }
def RootLenUptoSaid : Prop := rootLenUptoRow.holds Try.pinned (OpenSpec.upto rootLenSpec)

/-- 'chicanelaw03.RootBetween', WHERE WHAT IT READS IS OF BULK AT MOST 1048576: true; the input reads as it did. -/
def rootBetweenUptoRow : OpenClaim := { program := "ytmegkepcccgkmaa", sum := "d761ce46c006f589542d3d8be5954f4bf1fcd074a8f74e9d5065c3e2892ed48c", func := "chicane/chicanelaw03.RootBetween", spec := "rootBetween", inPlace := ["math/bits.Add64"], apart := false, narrowed := true }
def RootBetweenUptoSaid : Prop := rootBetweenUptoRow.holds Try.pinned (OpenSpec.upto rootBetweenSpec)

/-- 'chicanelaw03.RootParts', WHERE WHAT IT READS IS OF BULK AT MOST 1048576: true; the input reads as it did. -/
def rootPartsUptoRow : OpenClaim := { program := "ytmegkepcccgkmaa", sum := "d761ce46c006f589542d3d8be5954f4bf1fcd074a8f74e9d5065c3e2892ed48c", func := "chicane/chicanelaw03.RootParts", spec := "rootParts", inPlace := ["math/bits.Add64", "math/bits.Sub64"], unfollowed := true, recurses := true, apart := false, narrowed := true }
def RootPartsUptoSaid : Prop := rootPartsUptoRow.holds Try.pinned (OpenSpec.upto rootPartsSpec)

/-- 'chicanelaw03.RootOne', WHERE WHAT IT READS IS OF BULK AT MOST 1048576: true; the input reads as it did. -/
def rootOneUptoRow : OpenClaim := { program := "ytmegkepcccgkmaa", sum := "d761ce46c006f589542d3d8be5954f4bf1fcd074a8f74e9d5065c3e2892ed48c", func := "chicane/chicanelaw03.RootOne", spec := "rootOne", inPlace := ["math/bits.Add64", "math/bits.Sub64"], named := ["math/bits.divideError", "math/bits.overflowError"], apart := false, narrowed := true }
def RootOneUptoSaid : Prop := rootOneUptoRow.holds Try.pinned (OpenSpec.upto rootOneSpec)

/-- 'chicanelaw03.RootUnit', WHERE WHAT IT READS IS OF BULK AT MOST 1048576: true; the input reads as it did. -/
def rootUnitUptoRow : OpenClaim := { program := "ytmegkepcccgkmaa", sum := "d761ce46c006f589542d3d8be5954f4bf1fcd074a8f74e9d5065c3e2892ed48c", func := "chicane/chicanelaw03.RootUnit", spec := "rootUnit", inPlace := ["math/bits.Add64", "math/bits.Sub64"], named := ["math/bits.divideError", "math/bits.overflowError"], apart := false, narrowed := true }
def RootUnitUptoSaid : Prop := rootUnitUptoRow.holds Try.pinned (OpenSpec.upto rootUnitSpec)

end Rows
end Go.Proofs.Ytmegkepcccgkmaa
