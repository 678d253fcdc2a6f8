/-
  No cell of these rows narrows 'for every input' (looked for: loops, veiled, ifaces, maps, wideKeys, modest, calm, conditions, laid).
  DERIVED. THE GIVEN ROWS OF THIS SEAT. 6 by the template 'for every input the law returns true; each argument reads behind the call as it read before'; 0 by the template 'total and deterministic' (their statements: YtjpkkpflamkjkaaTotals.lean).
  GIVEN WITH THE SEED: the statements are not yours to turn. If you find one false, say at which input.
  Laid BY PROGRAM, IN A SANDBOX (cutbox-rows.mjs): the forced cells as the released guide's own fill.sh prints them over the translation ddc6ff9e4df4235b… (all of the seat's roots in one cut). By AI agents, Wed Nov 11 2026. No macro, syntax, notation, axiom, sorry.
-/
import Derived.Test.YtjpkkpflamkjkaaChecked
import GoSem.Claim
import GoSem.ClaimJoined
import GoSem.ClaimMapViews
import Derived.JoinedTies
import Derived.KernelRfl
namespace Go.Proofs.Ytjpkkpflamkjkaa
/- THE CELL 'sum', in the pinned program and in every row, IS THE sha256 OF THE DUMP (.gsa) THAT YtjpkkpflamkjkaaProg.lean LOADS. Nothing in Lean hashes anything: it is a label: what it is worth is what the hold of that sum in a sandbox is worth. -/
noncomputable def Try.pinned : Pinned := { name := "ytjpkkpflamkjkaa", sum := "ddc6ff9e4df4235bf0963b7348910eaf69558a35c3ec9c938044aca79a5e083e", checked := Try.checked }
namespace Rows
def none {H : Type} : Left H := { results := [], args := [] }

/-- 'chicanelaw06.QuatTurns': WHATEVER THE INPUT: true; the input reads as it did. -/
def quatTurnsSpec : ChangeSpec := { name := "quatTurns", fn := fun _ => fun
  | [d1, d2] => { results := [.lit (.bool true)], args := [d1, d2] }
  | _ => none }
def quatTurnsRow : OpenClaim := { program := "ytjpkkpflamkjkaa", sum := "ddc6ff9e4df4235bf0963b7348910eaf69558a35c3ec9c938044aca79a5e083e", func := "chicane/chicanelaw06.QuatTurns", spec := "quatTurns", inPlace := ["math/bits.Add64", "math/bits.Sub64"], unfollowed := true, recurses := true, named := ["math/bits.divideError", "math/bits.overflowError"], apart := false }
def QuatTurnsSaid : Prop := quatTurnsRow.holds Try.pinned (OpenSpec.ofChange quatTurnsSpec)

/-- ITS FALSE NEIGHBOUR: 'it returns false'. Refute it at one input. -/
def quatTurnsWrong : ChangeSpec := { name := "quatTurns", fn := fun _ => fun
  | [d1, d2] => { results := [.lit (.bool false)], args := [d1, d2] }
  | _ => none }
def QuatTurnsWrongFalsely : Prop := quatTurnsRow.holds Try.pinned (OpenSpec.ofChange quatTurnsWrong)

/-- 'chicanelaw06.QuatMul': WHATEVER THE INPUT: true; the input reads as it did. -/
def quatMulSpec : ChangeSpec := { name := "quatMul", fn := fun _ => fun
  | [d1, d2] => { results := [.lit (.bool true)], args := [d1, d2] }
  | _ => none }
def quatMulRow : OpenClaim := { program := "ytjpkkpflamkjkaa", sum := "ddc6ff9e4df4235bf0963b7348910eaf69558a35c3ec9c938044aca79a5e083e", func := "chicane/chicanelaw06.QuatMul", spec := "quatMul", inPlace := ["math/bits.Add64", "math/bits.Sub64"], unfollowed := true, recurses := true, named := ["math/bits.divideError", "math/bits.overflowError"], apart := false }
def QuatMulSaid : Prop := quatMulRow.holds Try.pinned (OpenSpec.ofChange quatMulSpec)

/-- ITS FALSE NEIGHBOUR: 'it returns false'. Refute it at one input. -/
def quatMulWrong : ChangeSpec := { name := "quatMul", fn := fun _ => fun
  | [d1, d2] => { results := [.lit (.bool false)], args := [d1, d2] }
  | _ => none }
def QuatMulWrongFalsely : Prop := quatMulRow.holds Try.pinned (OpenSpec.ofChange quatMulWrong)

/-- 'chicanelaw06.QuatUnit': WHATEVER THE INPUT: true; the input reads as it did. -/
def quatUnitSpec : ChangeSpec := { name := "quatUnit", fn := fun _ => fun
  | [d] => { results := [.lit (.bool true)], args := [d] }
  | _ => none }
def quatUnitRow : OpenClaim := { program := "ytjpkkpflamkjkaa", sum := "ddc6ff9e4df4235bf0963b7348910eaf69558a35c3ec9c938044aca79a5e083e", func := "chicane/chicanelaw06.QuatUnit", spec := "quatUnit", inPlace := ["math/bits.Add64", "math/bits.Sub64"], unfollowed := true, recurses := true, named := ["math/bits.divideError", "math/bits.overflowError"], apart := false }
def QuatUnitSaid : Prop := quatUnitRow.holds Try.pinned (OpenSpec.ofChange quatUnitSpec)

/-- ITS FALSE NEIGHBOUR: 'it returns false'. Refute it at one input. -/
def quatUnitWrong : ChangeSpec := { name := "quatUnit", fn := fun _ => fun
  | [d] => { results := [.lit (.bool false)], args := [d] }
  | _ => none }
def QuatUnitWrongFalsely : Prop := quatUnitRow.holds Try.pinned (OpenSpec.ofChange quatUnitWrong)

/-- 'chicanelaw06.QuatKeeps': WHATEVER THE INPUT: true; the input reads as it did. -/
def quatKeepsSpec : ChangeSpec := { name := "quatKeeps", fn := fun _ => fun
  | [d1, d2] => { results := [.lit (.bool true)], args := [d1, d2] }
  | _ => none }
def quatKeepsRow : OpenClaim := { program := "ytjpkkpflamkjkaa", sum := "ddc6ff9e4df4235bf0963b7348910eaf69558a35c3ec9c938044aca79a5e083e", func := "chicane/chicanelaw06.QuatKeeps", spec := "quatKeeps", inPlace := ["math/bits.Add64", "math/bits.Sub64"], unfollowed := true, recurses := true, named := ["math/bits.divideError", "math/bits.overflowError"], apart := false }
def QuatKeepsSaid : Prop := quatKeepsRow.holds Try.pinned (OpenSpec.ofChange quatKeepsSpec)

/-- ITS FALSE NEIGHBOUR: 'it returns false'. Refute it at one input. -/
def quatKeepsWrong : ChangeSpec := { name := "quatKeeps", fn := fun _ => fun
  | [d1, d2] => { results := [.lit (.bool false)], args := [d1, d2] }
  | _ => none }
def QuatKeepsWrongFalsely : Prop := quatKeepsRow.holds Try.pinned (OpenSpec.ofChange quatKeepsWrong)

/-- 'chicanelaw06.QuatStep': WHATEVER THE INPUT: true; the input reads as it did. -/
def quatStepSpec : ChangeSpec := { name := "quatStep", fn := fun _ => fun
  | [d1, d2, d3] => { results := [.lit (.bool true)], args := [d1, d2, d3] }
  | _ => none }
def quatStepRow : OpenClaim := { program := "ytjpkkpflamkjkaa", sum := "ddc6ff9e4df4235bf0963b7348910eaf69558a35c3ec9c938044aca79a5e083e", func := "chicane/chicanelaw06.QuatStep", spec := "quatStep", inPlace := ["math/bits.Add64", "math/bits.Sub64"], unfollowed := true, recurses := true, named := ["math/bits.divideError", "math/bits.overflowError"], apart := false }
def QuatStepSaid : Prop := quatStepRow.holds Try.pinned (OpenSpec.ofChange quatStepSpec)

/-- ITS FALSE NEIGHBOUR: 'it returns false'. Refute it at one input. -/
def quatStepWrong : ChangeSpec := { name := "quatStep", fn := fun _ => fun
  | [d1, d2, d3] => { results := [.lit (.bool false)], args := [d1, d2, d3] }
  | _ => none }
def QuatStepWrongFalsely : Prop := quatStepRow.holds Try.pinned (OpenSpec.ofChange quatStepWrong)

/-- 'chicanelaw06.QuatBack': WHATEVER THE INPUT: true; the input reads as it did. -/
def quatBackSpec : ChangeSpec := { name := "quatBack", fn := fun _ => fun
  | [d1, d2] => { results := [.lit (.bool true)], args := [d1, d2] }
  | _ => none }
def quatBackRow : OpenClaim := { program := "ytjpkkpflamkjkaa", sum := "ddc6ff9e4df4235bf0963b7348910eaf69558a35c3ec9c938044aca79a5e083e", func := "chicane/chicanelaw06.QuatBack", spec := "quatBack", inPlace := ["math/bits.Add64", "math/bits.Sub64"], unfollowed := true, recurses := true, named := ["math/bits.divideError", "math/bits.overflowError"], apart := false }
def QuatBackSaid : Prop := quatBackRow.holds Try.pinned (OpenSpec.ofChange quatBackSpec)

/-- ITS FALSE NEIGHBOUR: 'it returns false'. Refute it at one input. -/
def quatBackWrong : ChangeSpec := { name := "quatBack", fn := fun _ => fun
  | [d1, d2] => { results := [.lit (.bool false)], args := [d1, d2] }
  | _ => none }
def QuatBackWrongFalsely : Prop := quatBackRow.holds Try.pinned (OpenSpec.ofChange quatBackWrong)

/- THE SECOND FORM. 'bulk': how many values and letters a reading holds, each counted each time it is reached (what is shared counts as often as it is met; a slice's spare places count too). A statement '..UptoSaid' is the law's where the arguments, and the package variables that the reading takes, are together of bulk at most 1048576: NARROWER than '..Said'. Prove '..Said' where nothing that the law and all that it calls make is longer than what came in: it says more and counts as full. Else prove '..UptoSaid'. A law counts once. -/
mutual
def uptoBulk {H : Type} : DataW H → Nat
  | .lit (.string bytes) => bytes.length + 1
  | .lit _ => 1
  | .nil => 1
  | .ptr d => uptoBulk d + 1
  | .slice elems spare => uptoBulkAll elems + uptoBulkAll spare + 1
  | .agg parts => uptoBulkAll parts + 1
  | .iface _ d => uptoBulk d + 1
  | .map entries => uptoBulkEntries entries + 1
  | .held _ => 1
def uptoBulkAll {H : Type} : List (DataW H) → Nat
  | [] => 0
  | d :: r => uptoBulk d + uptoBulkAll r
def uptoBulkEntries {H : Type} : List (Lit × DataW H) → Nat
  | [] => 0
  | x :: r => uptoBulkEntry x + uptoBulkEntries r
def uptoBulkEntry {H : Type} : Lit × DataW H → Nat
  | (.string bytes, d) => bytes.length + uptoBulk d + 1
  | (_, d) => uptoBulk d + 1
 end
def uptoSmall : (H : Type) → List (DataW H) → Bool := fun _ ds => decide (uptoBulkAll ds ≤ 1048576)
def OpenSpec.upto (s : _root_.Go.ChangeSpec) : _root_.Go.OpenSpec := { _root_.Go.OpenSpec.ofChange s with cond := some uptoSmall }

/-- 'chicanelaw06.QuatTurns', WHERE WHAT IT READS IS OF BULK AT MOST 1048576: true; the input reads as it did. -/
def quatTurnsUptoRow : OpenClaim := { program := "ytjpkkpflamkjkaa", sum := "ddc6ff9e4df4235bf0963b7348910eaf69558a35c3ec9c938044aca79a5e083e", func := "chicane/chicanelaw06.QuatTurns", spec := "quatTurns", inPlace := ["math/bits.Add64", "math/bits.Sub64"], unfollowed := true, recurses := true, named := ["math/bits.divideError", "math/bits.overflowError"], apart := false, narrowed := true }
def QuatTurnsUptoSaid : Prop := quatTurnsUptoRow.holds Try.pinned (OpenSpec.upto quatTurnsSpec)

/-- 'chicanelaw06.QuatMul', WHERE WHAT IT READS IS OF BULK AT MOST 1048576: true; the input reads as it did. -/
def quatMulUptoRow : OpenClaim := { program := "ytjpkkpflamkjkaa", sum := "ddc6ff9e4df4235bf0963b7348910eaf69558a35c3ec9c938044aca79a5e083e", func := "chicane/chicanelaw06.QuatMul", spec := "quatMul", inPlace := ["math/bits.Add64", "math/bits.Sub64"], unfollowed := true, recurses := true, named := ["math/bits.divideError", "math/bits.overflowError"], apart := false, narrowed := true }
def QuatMulUptoSaid : Prop := quatMulUptoRow.holds Try.pinned (OpenSpec.upto quatMulSpec)

/-- 'chicanelaw06.QuatUnit', WHERE WHAT IT READS IS OF BULK AT MOST 1048576: true; the input reads as it did. -/
def quatUnitUptoRow : OpenClaim := { program := "ytjpkkpflamkjkaa", sum := "ddc6ff9e4df4235bf0963b7348910eaf69558a35c3ec9c938044aca79a5e083e", func := "chicane/chicanelaw06.QuatUnit", spec := "quatUnit", inPlace := ["math/bits.Add64", "math/bits.Sub64"], unfollowed := true, recurses := true, named := ["math/bits.divideError", "math/bits.overflowError"], apart := false, narrowed := true }
def QuatUnitUptoSaid : Prop := quatUnitUptoRow.holds Try.pinned (OpenSpec.upto quatUnitSpec)

/-- 'chicanelaw06.QuatKeeps', WHERE WHAT IT READS IS OF BULK AT MOST 1048576: true; the input reads as it did. -/
def quatKeepsUptoRow : OpenClaim := { program := "ytjpkkpflamkjkaa", sum := "ddc6ff9e4df4235bf0963b7348910eaf69558a35c3ec9c938044aca79a5e083e", func := "chicane/chicanelaw06.QuatKeeps", spec := "quatKeeps", inPlace := ["math/bits.Add64", "math/bits.Sub64"], unfollowed := true, recurses := true, named := ["math/bits.divideError", "math/bits.overflowError"], apart := false, narrowed := true }
def QuatKeepsUptoSaid : Prop := quatKeepsUptoRow.holds Try.pinned (OpenSpec.upto quatKeepsSpec)

/-- 'chicanelaw06.QuatStep', WHERE WHAT IT READS IS OF BULK AT MOST 1048576: true; the input reads as it did. -/
def quatStepUptoRow : OpenClaim := { program := "ytjpkkpflamkjkaa", sum := "ddc6ff9e4df4235bf0963b7348910eaf69558a35c3ec9c938044aca79a5e083e", func := "chicane/chicanelaw06.QuatStep", spec := "quatStep", inPlace := ["math/bits.Add64", "math/bits.Sub64"], unfollowed := true, recurses := true, named := ["math/bits.divideError", "math/bits.overflowError"], apart := false, narrowed := true }
def QuatStepUptoSaid : Prop := quatStepUptoRow.holds Try.pinned (OpenSpec.upto quatStepSpec)

/-- 'chicanelaw06.QuatBack', WHERE WHAT IT READS IS OF BULK AT MOST 1048576: true; the input reads as it did. -/
def quatBackUptoRow : OpenClaim := { program := "ytjpkkpflamkjkaa", sum := "ddc6ff9e4df4235bf0963b7348910eaf69558a35c3ec9c938044aca79a5e083e", func := "chicane/chicanelaw06.QuatBack", spec := "quatBack", inPlace := ["math/bits.Add64", "math/bits.Sub64"], unfollowed := true, recurses := true, named := ["math/bits.divideError", "math/bits.overflowError"], apart := false, narrowed := true }
def QuatBackUptoSaid : Prop := quatBackUptoRow.holds Try.pinned (OpenSpec.upto quatBackSpec)

end Rows
end Go.Proofs.Ytjpkkpflamkjkaa
