/-
  No cell of these rows narrows 'for every input' (looked for: loops, veiled, ifaces, maps, wideKeys, modest, calm, conditions, laid).
  DERIVED. THE GIVEN ROWS OF THIS SEAT. 7 by the template 'for every input the law returns true; each argument reads behind the call as it read before'; 0 by the template 'total and deterministic' (their statements: YtdbbandpobifhaaTotals.lean).
  GIVEN WITH THE SEED: the statements are not yours to turn. If you find one false, say at which input.
  Laid BY PROGRAM, IN A SANDBOX (cutbox-rows.mjs): the forced cells as the released guide's own fill.sh prints them over the translation c3520f192df186b1… (all of the seat's roots in one cut). By AI agents, Wed Nov 11 2026. No macro, syntax, notation, axiom, sorry.
-/
import Derived.Test.YtdbbandpobifhaaChecked
import GoSem.Claim
import GoSem.ClaimJoined
import GoSem.ClaimMapViews
import Derived.JoinedTies
import Derived.KernelRfl
namespace Go.Proofs.Ytdbbandpobifhaa
/- THE CELL 'sum', in the pinned program and in every row, IS THE sha256 OF THE DUMP (.gsa) THAT YtdbbandpobifhaaProg.lean LOADS. Nothing in Lean hashes anything: it is a label: what it is worth is what the hold of that sum in a sandbox is worth. -/
noncomputable def Try.pinned : Pinned := { name := "ytdbbandpobifhaa", sum := "c3520f192df186b10b10d7e62eaed5f923d3e7e479c539d843b1156afd497291", checked := Try.checked }
namespace Rows
def none {H : Type} : Left H := { results := [], args := [] }

/-- 'chicanelaw04.TrigTable': WHATEVER THE INPUT: true; the input reads as it did. -/
def trigTableSpec : ChangeSpec := { name := "trigTable", fn := fun _ => fun
  | [d] => { results := [.lit (.bool true)], args := [d] }
  | _ => none }
def trigTableRow : OpenClaim := { program := "ytdbbandpobifhaa", sum := "c3520f192df186b10b10d7e62eaed5f923d3e7e479c539d843b1156afd497291", func := "chicane/chicanelaw04.TrigTable", spec := "trigTable", inPlace := ["math/bits.Sub64"], named := ["math/bits.divideError", "math/bits.overflowError"], apart := false }
def TrigTableSaid : Prop := trigTableRow.holds Try.pinned (OpenSpec.ofChange trigTableSpec)

/-- ITS FALSE NEIGHBOUR: 'it returns false'. Refute it at one input. -/
def trigTableWrong : ChangeSpec := { name := "trigTable", fn := fun _ => fun
  | [d] => { results := [.lit (.bool false)], args := [d] }
  | _ => none }
def TrigTableWrongFalsely : Prop := trigTableRow.holds Try.pinned (OpenSpec.ofChange trigTableWrong)

/-- 'chicanelaw04.TrigSin': WHATEVER THE INPUT: true; the input reads as it did. -/
def trigSinSpec : ChangeSpec := { name := "trigSin", fn := fun _ => fun
  | [d] => { results := [.lit (.bool true)], args := [d] }
  | _ => none }
def trigSinRow : OpenClaim := { program := "ytdbbandpobifhaa", sum := "c3520f192df186b10b10d7e62eaed5f923d3e7e479c539d843b1156afd497291", func := "chicane/chicanelaw04.TrigSin", spec := "trigSin", inPlace := ["math/bits.Sub64"], named := ["math/bits.divideError", "math/bits.overflowError"], apart := false }
def TrigSinSaid : Prop := trigSinRow.holds Try.pinned (OpenSpec.ofChange trigSinSpec)

/-- ITS FALSE NEIGHBOUR: 'it returns false'. Refute it at one input. -/
def trigSinWrong : ChangeSpec := { name := "trigSin", fn := fun _ => fun
  | [d] => { results := [.lit (.bool false)], args := [d] }
  | _ => none }
def TrigSinWrongFalsely : Prop := trigSinRow.holds Try.pinned (OpenSpec.ofChange trigSinWrong)

/-- 'chicanelaw04.TrigTowards': WHATEVER THE INPUT: true; the input reads as it did. -/
def trigTowardsSpec : ChangeSpec := { name := "trigTowards", fn := fun _ => fun
  | [d1, d2] => { results := [.lit (.bool true)], args := [d1, d2] }
  | _ => none }
def trigTowardsRow : OpenClaim := { program := "ytdbbandpobifhaa", sum := "c3520f192df186b10b10d7e62eaed5f923d3e7e479c539d843b1156afd497291", func := "chicane/chicanelaw04.TrigTowards", spec := "trigTowards", inPlace := ["math/bits.Sub64"], named := ["math/bits.divideError", "math/bits.overflowError"], apart := false }
def TrigTowardsSaid : Prop := trigTowardsRow.holds Try.pinned (OpenSpec.ofChange trigTowardsSpec)

/-- ITS FALSE NEIGHBOUR: 'it returns false'. Refute it at one input. -/
def trigTowardsWrong : ChangeSpec := { name := "trigTowards", fn := fun _ => fun
  | [d1, d2] => { results := [.lit (.bool false)], args := [d1, d2] }
  | _ => none }
def TrigTowardsWrongFalsely : Prop := trigTowardsRow.holds Try.pinned (OpenSpec.ofChange trigTowardsWrong)

/-- 'chicanelaw04.TrigTurns': WHATEVER THE INPUT: true; the input reads as it did. -/
def trigTurnsSpec : ChangeSpec := { name := "trigTurns", fn := fun _ => fun
  | [d] => { results := [.lit (.bool true)], args := [d] }
  | _ => none }
def trigTurnsRow : OpenClaim := { program := "ytdbbandpobifhaa", sum := "c3520f192df186b10b10d7e62eaed5f923d3e7e479c539d843b1156afd497291", func := "chicane/chicanelaw04.TrigTurns", spec := "trigTurns", inPlace := ["math/bits.Sub64"], named := ["math/bits.divideError", "math/bits.overflowError"], apart := false }
def TrigTurnsSaid : Prop := trigTurnsRow.holds Try.pinned (OpenSpec.ofChange trigTurnsSpec)

/-- ITS FALSE NEIGHBOUR: 'it returns false'. Refute it at one input. -/
def trigTurnsWrong : ChangeSpec := { name := "trigTurns", fn := fun _ => fun
  | [d] => { results := [.lit (.bool false)], args := [d] }
  | _ => none }
def TrigTurnsWrongFalsely : Prop := trigTurnsRow.holds Try.pinned (OpenSpec.ofChange trigTurnsWrong)

/-- 'chicanelaw04.TrigRises': WHATEVER THE INPUT: true; the input reads as it did. -/
def trigRisesSpec : ChangeSpec := { name := "trigRises", fn := fun _ => fun
  | [d1, d2] => { results := [.lit (.bool true)], args := [d1, d2] }
  | _ => none }
def trigRisesRow : OpenClaim := { program := "ytdbbandpobifhaa", sum := "c3520f192df186b10b10d7e62eaed5f923d3e7e479c539d843b1156afd497291", func := "chicane/chicanelaw04.TrigRises", spec := "trigRises", inPlace := ["math/bits.Sub64"], named := ["math/bits.divideError", "math/bits.overflowError"], apart := false }
def TrigRisesSaid : Prop := trigRisesRow.holds Try.pinned (OpenSpec.ofChange trigRisesSpec)

/-- ITS FALSE NEIGHBOUR: 'it returns false'. Refute it at one input. -/
def trigRisesWrong : ChangeSpec := { name := "trigRises", fn := fun _ => fun
  | [d1, d2] => { results := [.lit (.bool false)], args := [d1, d2] }
  | _ => none }
def TrigRisesWrongFalsely : Prop := trigRisesRow.holds Try.pinned (OpenSpec.ofChange trigRisesWrong)

/-- 'chicanelaw04.TrigBack': WHATEVER THE INPUT: true; the input reads as it did. -/
def trigBackSpec : ChangeSpec := { name := "trigBack", fn := fun _ => fun
  | [d1, d2] => { results := [.lit (.bool true)], args := [d1, d2] }
  | _ => none }
def trigBackRow : OpenClaim := { program := "ytdbbandpobifhaa", sum := "c3520f192df186b10b10d7e62eaed5f923d3e7e479c539d843b1156afd497291", func := "chicane/chicanelaw04.TrigBack", spec := "trigBack", inPlace := ["math/bits.Sub64"], named := ["math/bits.divideError", "math/bits.overflowError"], apart := false }
def TrigBackSaid : Prop := trigBackRow.holds Try.pinned (OpenSpec.ofChange trigBackSpec)

/-- ITS FALSE NEIGHBOUR: 'it returns false'. Refute it at one input. -/
def trigBackWrong : ChangeSpec := { name := "trigBack", fn := fun _ => fun
  | [d1, d2] => { results := [.lit (.bool false)], args := [d1, d2] }
  | _ => none }
def TrigBackWrongFalsely : Prop := trigBackRow.holds Try.pinned (OpenSpec.ofChange trigBackWrong)

/-- 'chicanelaw04.TrigRound': WHATEVER THE INPUT: true; the input reads as it did. -/
def trigRoundSpec : ChangeSpec := { name := "trigRound", fn := fun _ => fun
  | [d] => { results := [.lit (.bool true)], args := [d] }
  | _ => none }
def trigRoundRow : OpenClaim := { program := "ytdbbandpobifhaa", sum := "c3520f192df186b10b10d7e62eaed5f923d3e7e479c539d843b1156afd497291", func := "chicane/chicanelaw04.TrigRound", spec := "trigRound", inPlace := ["math/bits.Sub64", "math/bits.Add64"], named := ["math/bits.divideError", "math/bits.overflowError"], apart := false }
def TrigRoundSaid : Prop := trigRoundRow.holds Try.pinned (OpenSpec.ofChange trigRoundSpec)

/-- ITS FALSE NEIGHBOUR: 'it returns false'. Refute it at one input. -/
def trigRoundWrong : ChangeSpec := { name := "trigRound", fn := fun _ => fun
  | [d] => { results := [.lit (.bool false)], args := [d] }
  | _ => none }
def TrigRoundWrongFalsely : Prop := trigRoundRow.holds Try.pinned (OpenSpec.ofChange trigRoundWrong)

/- THE SECOND FORM. 'bulk': how many values and letters a reading holds, each counted each time it is reached (what is shared counts as often as it is met; a slice's spare places count too). A statement '..UptoSaid' is the law's where the arguments, and the package variables that the reading takes, are together of bulk at most 1048576: NARROWER than '..Said'. Prove '..Said' where nothing that the law and all that it calls make is longer than what came in: it says more and counts as full. Else prove '..UptoSaid'. A law counts once. -/
mutual
def uptoBulk {H : Type} : DataW H → Nat
  | .lit (.string bytes) => bytes.length + 1
  | .lit _ => 1
  | .nil => 1
  | .ptr d => uptoBulk d + 1
  | .slice elems spare => uptoBulkAll elems + uptoBulkAll spare + 1
  | .agg parts => uptoBulkAll parts + 1
  | .iface _ d => uptoBulk d + 1
  | .map entries => uptoBulkEntries entries + 1
  | .held _ => 1
def uptoBulkAll {H : Type} : List (DataW H) → Nat
  | [] => 0
  | d :: r => uptoBulk d + uptoBulkAll r
def uptoBulkEntries {H : Type} : List (Lit × DataW H) → Nat
  | [] => 0
  | x :: r => uptoBulkEntry x + uptoBulkEntries r
def uptoBulkEntry {H : Type} : Lit × DataW H → Nat
  | (.string bytes, d) => bytes.length + uptoBulk d + 1
  | (_, d) => uptoBulk d + 1
 end
def uptoSmall : (H : Type) → List (DataW H) → Bool := fun _ ds => decide (uptoBulkAll ds ≤ 1048576)
def OpenSpec.upto (s : _root_.Go.ChangeSpec) : _root_.Go.OpenSpec := { _root_.Go.OpenSpec.ofChange s with cond := some uptoSmall }

/-- 'chicanelaw04.TrigTable', WHERE WHAT IT READS IS OF BULK AT MOST 1048576: true; the input reads as it did. -/
def trigTableUptoRow : OpenClaim := { program := "ytdbbandpobifhaa", sum := "c3520f192df186b10b10d7e62eaed5f923d3e7e479c539d843b1156afd497291", func := "chicane/chicanelaw04.TrigTable", spec := "trigTable", inPlace := ["math/bits.Sub64"], named := ["math/bits.divideError", "math/bits.overflowError"], apart := false, narrowed := true }
def TrigTableUptoSaid : Prop := trigTableUptoRow.holds Try.pinned (OpenSpec.upto trigTableSpec)

/-- 'chicanelaw04.TrigSin', WHERE WHAT IT READS IS OF BULK AT MOST 1048576: true; the input reads as it did. -/
def trigSinUptoRow : OpenClaim := { program := "ytdbbandpobifhaa", sum := "c3520f192df186b10b10d7e62eaed5f923d3e7e479c539d843b1156afd497291", func := "chicane/chicanelaw04.TrigSin", spec := "trigSin", inPlace := ["math/bits.Sub64"], named := ["math/bits.divideError", "math/bits.overflowError"], apart := false, narrowed := true }
def TrigSinUptoSaid : Prop := trigSinUptoRow.holds Try.pinned (OpenSpec.upto trigSinSpec)

/-- 'chicanelaw04.TrigTowards', WHERE WHAT IT READS IS OF BULK AT MOST 1048576: true; the input reads as it did. -/
def trigTowardsUptoRow : OpenClaim := { program := "ytdbbandpobifhaa", sum := "c3520f192df186b10b10d7e62eaed5f923d3e7e479c539d843b1156afd497291", func := "chicane/chicanelaw04.TrigTowards", spec := "trigTowards", inPlace := ["math/bits.Sub64"], named := ["math/bits.divideError", "math/bits.overflowError"], apart := false, narrowed := true }
def TrigTowardsUptoSaid : Prop := trigTowardsUptoRow.holds Try.pinned (OpenSpec.upto trigTowardsSpec)

/-- 'chicanelaw04.TrigTurns', WHERE WHAT IT READS IS OF BULK AT MOST 1048576: true; the input reads as it did. -/
def trigTurnsUptoRow : OpenClaim := { program := "ytdbbandpobifhaa", sum := "c3520f192df186b10b10d7e62eaed5f923d3e7e479c539d843b1156afd497291", func := "chicane/chicanelaw04.TrigTurns", spec := "trigTurns", inPlace := ["math/bits.Sub64"], named := ["math/bits.divideError", "math/bits.overflowError"], apart := false, narrowed := true }
def TrigTurnsUptoSaid : Prop := trigTurnsUptoRow.holds Try.pinned (OpenSpec.upto trigTurnsSpec)

/-- 'chicanelaw04.TrigRises', WHERE WHAT IT READS IS OF BULK AT MOST 1048576: true; the input reads as it did. -/
def trigRisesUptoRow : OpenClaim := { program := "ytdbbandpobifhaa", sum := "c3520f192df186b10b10d7e62eaed5f923d3e7e479c539d843b1156afd497291", func := "chicane/chicanelaw04.TrigRises", spec := "trigRises", inPlace := ["math/bits.Sub64"], named := ["math/bits.divideError", "math/bits.overflowError"], apart := false, narrowed := true }
def TrigRisesUptoSaid : Prop := trigRisesUptoRow.holds Try.pinned (OpenSpec.upto trigRisesSpec)

/-- 'chicanelaw04.TrigBack', WHERE WHAT IT READS IS OF BULK AT MOST 1048576: true; the input reads as it did. -/
def trigBackUptoRow : OpenClaim := { program := "ytdbbandpobifhaa", sum := "c3520f192df186b10b10d7e62eaed5f923d3e7e479c539d843b1156afd497291", func := "chicane/chicanelaw04.TrigBack", spec := "trigBack", inPlace := ["math/bits.Sub64"], named := ["math/bits.divideError", "math/bits.overflowError"], apart := false, narrowed := true }
def TrigBackUptoSaid : Prop := trigBackUptoRow.holds Try.pinned (OpenSpec.upto trigBackSpec)

/-- 'chicanelaw04.TrigRound', WHERE WHAT IT READS IS OF BULK AT MOST 1048576: true; the input reads as it did. -/
def trigRoundUptoRow : OpenClaim := { program := "ytdbbandpobifhaa", sum := "c3520f192df186b10b10d7e62eaed5f923d3e7e479c539d843b1156afd497291", func := "chicane/chicanelaw04.TrigRound", spec := "trigRound", inPlace := ["math/bits.Sub64", "math/bits.Add64"], named := ["math/bits.divideError", "math/bits.overflowError"], apart := false, narrowed := true }
def TrigRoundUptoSaid : Prop := trigRoundUptoRow.holds Try.pinned (OpenSpec.upto trigRoundSpec)

end Rows
end Go.Proofs.Ytdbbandpobifhaa
