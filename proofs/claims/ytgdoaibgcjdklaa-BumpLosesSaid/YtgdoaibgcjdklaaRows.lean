/-
  No cell of these rows narrows 'for every input' (looked for: loops, veiled, ifaces, maps, wideKeys, modest, calm, conditions, laid).
  DERIVED. THE GIVEN ROWS OF THIS SEAT. 4 by the template 'for every input the law returns true; each argument reads behind the call as it read before'; 0 by the template 'total and deterministic' (their statements: YtgdoaibgcjdklaaTotals.lean).
  GIVEN WITH THE SEED: the statements are not yours to turn. If you find one false, say at which input.
  Laid BY PROGRAM, IN A SANDBOX (cutbox-rows.mjs): the forced cells as the released guide's own fill.sh prints them over the translation 046b902d8e9ee1a8… (all of the seat's roots in one cut). By AI agents, Wed Nov 11 2026. No macro, syntax, notation, axiom, sorry.
-/
import Derived.Test.YtgdoaibgcjdklaaChecked
import GoSem.Claim
import GoSem.ClaimJoined
import GoSem.ClaimMapViews
import Derived.JoinedTies
import Derived.KernelRfl
namespace Go.Proofs.Ytgdoaibgcjdklaa
/- THE CELL 'sum', in the pinned program and in every row, IS THE sha256 OF THE DUMP (.gsa) THAT YtgdoaibgcjdklaaProg.lean LOADS. Nothing in Lean hashes anything: it is a label: what it is worth is what the hold of that sum in a sandbox is worth. -/
noncomputable def Try.pinned : Pinned := { name := "ytgdoaibgcjdklaa", sum := "046b902d8e9ee1a896efc7b97a4b02b4e364f30da3066419f9f6e1418a4a77f7", checked := Try.checked }
namespace Rows
def none {H : Type} : Left H := { results := [], args := [] }

/-- 'chicanelaw49.BumpMeets': WHATEVER THE INPUT: true; the input reads as it did. -/
def bumpMeetsSpec : ChangeSpec := { name := "bumpMeets", fn := fun _ => fun
  | [d1, d2] => { results := [.lit (.bool true)], args := [d1, d2] }
  | _ => none }
def bumpMeetsRow : OpenClaim := { program := "ytgdoaibgcjdklaa", sum := "046b902d8e9ee1a896efc7b97a4b02b4e364f30da3066419f9f6e1418a4a77f7", func := "chicane/chicanelaw49.BumpMeets", spec := "bumpMeets", inPlace := ["math/bits.Sub64", "math/bits.Add64"], unfollowed := true, recurses := true, named := ["math/bits.divideError", "math/bits.overflowError"], apart := false }
def BumpMeetsSaid : Prop := bumpMeetsRow.holds Try.pinned (OpenSpec.ofChange bumpMeetsSpec)

/-- ITS FALSE NEIGHBOUR: 'it returns false'. Refute it at one input. -/
def bumpMeetsWrong : ChangeSpec := { name := "bumpMeets", fn := fun _ => fun
  | [d1, d2] => { results := [.lit (.bool false)], args := [d1, d2] }
  | _ => none }
def BumpMeetsWrongFalsely : Prop := bumpMeetsRow.holds Try.pinned (OpenSpec.ofChange bumpMeetsWrong)

/-- 'chicanelaw49.BumpTurns': WHATEVER THE INPUT: true; the input reads as it did. -/
def bumpTurnsSpec : ChangeSpec := { name := "bumpTurns", fn := fun _ => fun
  | [d1, d2, d3] => { results := [.lit (.bool true)], args := [d1, d2, d3] }
  | _ => none }
def bumpTurnsRow : OpenClaim := { program := "ytgdoaibgcjdklaa", sum := "046b902d8e9ee1a896efc7b97a4b02b4e364f30da3066419f9f6e1418a4a77f7", func := "chicane/chicanelaw49.BumpTurns", spec := "bumpTurns", inPlace := ["math/bits.Sub64", "math/bits.Add64"], unfollowed := true, recurses := true, named := ["math/bits.divideError", "math/bits.overflowError"], apart := false }
def BumpTurnsSaid : Prop := bumpTurnsRow.holds Try.pinned (OpenSpec.ofChange bumpTurnsSpec)

/-- ITS FALSE NEIGHBOUR: 'it returns false'. Refute it at one input. -/
def bumpTurnsWrong : ChangeSpec := { name := "bumpTurns", fn := fun _ => fun
  | [d1, d2, d3] => { results := [.lit (.bool false)], args := [d1, d2, d3] }
  | _ => none }
def BumpTurnsWrongFalsely : Prop := bumpTurnsRow.holds Try.pinned (OpenSpec.ofChange bumpTurnsWrong)

/-- 'chicanelaw49.BumpLoses': WHATEVER THE INPUT: true; the input reads as it did. -/
def bumpLosesSpec : ChangeSpec := { name := "bumpLoses", fn := fun _ => fun
  | [d1, d2, d3] => { results := [.lit (.bool true)], args := [d1, d2, d3] }
  | _ => none }
def bumpLosesRow : OpenClaim := { program := "ytgdoaibgcjdklaa", sum := "046b902d8e9ee1a896efc7b97a4b02b4e364f30da3066419f9f6e1418a4a77f7", func := "chicane/chicanelaw49.BumpLoses", spec := "bumpLoses", inPlace := ["math/bits.Sub64", "math/bits.Add64"], unfollowed := true, recurses := true, named := ["math/bits.divideError", "math/bits.overflowError"], apart := false }
def BumpLosesSaid : Prop := bumpLosesRow.holds Try.pinned (OpenSpec.ofChange bumpLosesSpec)

/-- ITS FALSE NEIGHBOUR: 'it returns false'. Refute it at one input. -/
def bumpLosesWrong : ChangeSpec := { name := "bumpLoses", fn := fun _ => fun
  | [d1, d2, d3] => { results := [.lit (.bool false)], args := [d1, d2, d3] }
  | _ => none }
def BumpLosesWrongFalsely : Prop := bumpLosesRow.holds Try.pinned (OpenSpec.ofChange bumpLosesWrong)

/-- 'chicanelaw49.BumpKeeps': WHATEVER THE INPUT: true; the input reads as it did. -/
def bumpKeepsSpec : ChangeSpec := { name := "bumpKeeps", fn := fun _ => fun
  | [d1, d2, d3] => { results := [.lit (.bool true)], args := [d1, d2, d3] }
  | _ => none }
def bumpKeepsRow : OpenClaim := { program := "ytgdoaibgcjdklaa", sum := "046b902d8e9ee1a896efc7b97a4b02b4e364f30da3066419f9f6e1418a4a77f7", func := "chicane/chicanelaw49.BumpKeeps", spec := "bumpKeeps", inPlace := ["math/bits.Sub64", "math/bits.Add64"], unfollowed := true, recurses := true, named := ["math/bits.divideError", "math/bits.overflowError"], apart := false }
def BumpKeepsSaid : Prop := bumpKeepsRow.holds Try.pinned (OpenSpec.ofChange bumpKeepsSpec)

/-- ITS FALSE NEIGHBOUR: 'it returns false'. Refute it at one input. -/
def bumpKeepsWrong : ChangeSpec := { name := "bumpKeeps", fn := fun _ => fun
  | [d1, d2, d3] => { results := [.lit (.bool false)], args := [d1, d2, d3] }
  | _ => none }
def BumpKeepsWrongFalsely : Prop := bumpKeepsRow.holds Try.pinned (OpenSpec.ofChange bumpKeepsWrong)

/- THE SECOND FORM. 'bulk': how many values and letters a reading holds, each counted each time it is reached (what is shared counts as often as it is met; a slice's spare places count too). A statement '..UptoSaid' is the law's where the arguments, and the package variables that the reading takes, are together of bulk at most 1048576: NARROWER than '..Said'. Prove '..Said' where nothing that the law and all that it calls make is longer than what came in: it says more and counts as full. Else prove '..UptoSaid'. A law counts once. -/
mutual
def uptoBulk {H : Type} : DataW H → Nat
  | .lit (.string bytes) => bytes.length + 1
  | .lit _ => 1
  | .nil => 1
  | .ptr d => uptoBulk d + 1
  | .slice elems spare => uptoBulkAll elems + uptoBulkAll spare + 1
  | .agg parts => uptoBulkAll parts + 1
  | .iface _ d => uptoBulk d + 1
  | .map entries => uptoBulkEntries entries + 1
  | .held _ => 1
def uptoBulkAll {H : Type} : List (DataW H) → Nat
  | [] => 0
  | d :: r => uptoBulk d + uptoBulkAll r
def uptoBulkEntries {H : Type} : List (Lit × DataW H) → Nat
  | [] => 0
  | x :: r => uptoBulkEntry x + uptoBulkEntries r
def uptoBulkEntry {H : Type} : Lit × DataW H → Nat
  | (.string bytes, d) => bytes.length + uptoBulk d + 1
  | (_, d) => uptoBulk d + 1
 end
def uptoSmall : (H : Type) → List (DataW H) → Bool := fun _ ds => decide (uptoBulkAll ds ≤ 1048576)
def OpenSpec.upto (s : _root_.Go.ChangeSpec) : _root_.Go.OpenSpec := { _root_.Go.OpenSpec.ofChange s with cond := some uptoSmall }

/-- 'chicanelaw49.BumpMeets', WHERE WHAT IT READS IS OF BULK AT MOST 1048576: true; the input reads as it did. -/
def bumpMeetsUptoRow : OpenClaim := { program := "ytgdoaibgcjdklaa", sum := "046b902d8e9ee1a896efc7b97a4b02b4e364f30da3066419f9f6e1418a4a77f7", func := "chicane/chicanelaw49.BumpMeets", spec := "bumpMeets", inPlace := ["math/bits.Sub64", "math/bits.Add64"], unfollowed := true, recurses := true, named := ["math/bits.divideError", "math/bits.overflowError"], apart := false, narrowed := true }
def BumpMeetsUptoSaid : Prop := bumpMeetsUptoRow.holds Try.pinned (OpenSpec.upto bumpMeetsSpec)

/-- 'chicanelaw49.BumpTurns', WHERE WHAT IT READS IS OF BULK AT MOST 1048576: true; the input reads as it did. -/
def bumpTurnsUptoRow : OpenClaim := { program := "ytgdoaibgcjdklaa", sum := "046b902d8e9ee1a896efc7b97a4b02b4e364f30da3066419f9f6e1418a4a77f7", func := "chicane/chicanelaw49.BumpTurns", spec := "bumpTurns", inPlace := ["math/bits.Sub64", "math/bits.Add64"], unfollowed := true, recurses := true, named := ["math/bits.divideError", "math/bits.overflowError"], apart := false, narrowed := true }
def BumpTurnsUptoSaid : Prop := bumpTurnsUptoRow.holds Try.pinned (OpenSpec.upto bumpTurnsSpec)

/-- 'chicanelaw49.BumpLoses', WHERE WHAT IT READS IS OF BULK AT MOST 1048576: true; the input reads as it did. -/
def bumpLosesUptoRow : OpenClaim := { program := "ytgdoaibgcjdklaa", sum := "046b902d8e9ee1a896efc7b97a4b02b4e364f30da3066419f9f6e1418a4a77f7", func := "chicane/chicanelaw49.BumpLoses", spec := "bumpLoses", inPlace := ["math/bits.Sub64", "math/bits.Add64"], unfollowed := true, recurses := true, named := ["math/bits.divideError", "math/bits.overflowError"], apart := false, narrowed := true }
def BumpLosesUptoSaid : Prop := bumpLosesUptoRow.holds Try.pinned (OpenSpec.upto bumpLosesSpec)

/-- 'chicanelaw49.BumpKeeps', WHERE WHAT IT READS IS OF BULK AT MOST 1048576: true; the input reads as it did. -/
def bumpKeepsUptoRow : OpenClaim := { program := "ytgdoaibgcjdklaa", sum := "046b902d8e9ee1a896efc7b97a4b02b4e364f30da3066419f9f6e1418a4a77f7", func := "chicane/chicanelaw49.BumpKeeps", spec := "bumpKeeps", inPlace := ["math/bits.Sub64", "math/bits.Add64"], unfollowed := true, recurses := true, named := ["math/bits.divideError", "math/bits.overflowError"], apart := false, narrowed := true }
def BumpKeepsUptoSaid : Prop := bumpKeepsUptoRow.holds Try.pinned (OpenSpec.upto bumpKeepsSpec)

end Rows
end Go.Proofs.Ytgdoaibgcjdklaa
