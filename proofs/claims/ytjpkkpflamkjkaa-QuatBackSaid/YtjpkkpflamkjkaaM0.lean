/- A reckoner's moves, told from one world on; bounds of the numbers that are kept within 64 bits. -/
import Derived.Test.YtjpkkpflamkjkaaF2
import Derived.Deep.RegionHeld3
set_option linter.unusedSimpArgs false
set_option linter.unusedVariables false
namespace Go.Proofs.Ytjpkkpflamkjkaa
open Go.RowKit
theorem mvCall {P : Program} {f : Nat} {args : Array Value} {b : Nat} {o o' : Bool} {w0 W : World} {v : Ending} (HM : Mv b o w0 W)
    (h : W.cell? ⟨b, 0, none⟩ = some (.bool o) → W.frozen? ⟨b, 0, none⟩ = false → Calls P f args W fun e w' => e = v ∧ Mv b o' W w') :
    Calls P f args W fun e w' => e = v ∧ Mv b o' W w' ∧ Mv b o' w0 w' := (h HM.cell HM.free).mono fun _ _ ⟨h1, h2⟩ => ⟨h1, h2, HM.trans h2⟩
theorem Mv.cast {b : Nat} {o o' : Bool} {w w' : World} (h : Mv b o w w') (e : o = o') : Mv b o' w w' := e ▸ h
end Go.Proofs.Ytjpkkpflamkjkaa
