/- A region that draws its order, inside a round of a loop over a function: walked as outside. -/
import Derived.Test.YtbicnpiifpcnjaaW0
import Derived.Deep.RegionHeld3
import Derived.RangeFuncCalls
import Derived.CallsIn
import Derived.AtR
set_option linter.unusedSimpArgs false
set_option linter.unusedVariables false
namespace Go.Proofs.Ytbicnpiifpcnjaa
open Go.RowKit
/-- Only the way on. -/
def Only (Q : Exit → Act → World → Prop) : Exit → Act → World → Prop
  | .normal, a, w => Q .normal a w
  | _, _, _ => False
theorem Only.normal {Q : Exit → Act → World → Prop} {a : Act} {w : World} (h : Q .normal a w) : Only Q .normal a w := h
theorem Only.imp {Q : Exit → Act → World → Prop} : ∀ (e : Exit) (a : Act) (w : World), NoPanic (Only Q) e a w → Q e a w := fun e a w h => by
  cases e <;> first | exact h | exact (h : False).elim
theorem Only.stays {Q : Exit → Act → World → Prop} : ¬ LetsOut (NoPanic (Only Q)) := fun ⟨_, _, h⟩ => h
/-- No deferred calls. -/
def undef' (ops : Array Oper) : Bool := ops.all fun o => match o.op with | .defer _ => false | _ => true
theorem undef_of {ops : Array Oper} (h : undef' ops = true) {i : Nat} {o : Oper} (hi : ops[i]? = some o) : ∀ c, o.op ≠ .defer c := fun c e => by
  have := (Array.all_eq_true_iff_forall_mem.1 h) o (Array.mem_of_getElem? hi)
  simp [e] at this
theorem oper_round {P : Program} {l n : Nat} {o : Oper} {a : Act} {w : World} {K K' : Act → World → Prop} {Q : Exit → Act → World → Prop} (hd : ∀ c, o.op ≠ .defer c) (hk : ∀ a w, K a w → K' a w) (h : o.wp P a w K Q) :
    o.wpIn (Fence.wide.inRound l) n P a w K' Q := by
  refine ⟨fun _ _ => trivial, ?_⟩
  rw [Oper.semAt_eq _ _ _ hd]
  unfold Oper.wp at h
  generalize (execOp a.eval o).run P w = r at h ⊢
  cases r with
  | ok x w' =>
    cases x with
    | value v => exact hk _ _ h
    | skip => exact hk _ _ h
    | defer d => exact hk _ _ h
    | enter f args =>
      refine ⟨fun hx => by simp [Fence.inRound, Fence.wide] at hx, CallsIn.inRound l (callsIn_wide.2 (Calls.mono h fun e w' he => ?_))⟩
      cases e with
      | returned v => exact hk _ _ he
      | panicked c => exact he
      | outgrown => exact he
    | row row args =>
      refine ⟨fun hx => by simp [Fence.inRound, Fence.wide] at hx, ?_⟩
      have h' : RowsIn Fence.wide (n - 1) P row args w' fun v w'' => K' (a.put o.dst v) w'' := fun c cs _ => by
        obtain ⟨v, w2, r, s⟩ := h c cs
        exact ⟨v, w2, hk _ _ r, stepsIn_wide.2 s⟩
      exact h'
    | _ => exact (h : False).elim
  | halt x w' => cases x <;> first | exact h | exact (h : False).elim
theorem ops_round {P : Program} {l n : Nat} {ops : Array Oper} {Q : Exit → Act → World → Prop} (hd : undef' ops = true) (hq : ¬ LetsOut Q) : ∀ (order : List Nat) (a : Act) (w : World), wpOps P ops Q order a w → wpOpsIn (Fence.wide.inRound l) n P ops Q order a w
  | [], _, _, h => h
  | i :: rest, a, w, h => by
    unfold wpOpsIn
    unfold wpOps at h
    cases hi : ops[i]? with
    | none => rw [hi] at h; exact ops_round hd hq rest a w h
    | some o =>
      rw [hi] at h
      dsimp only at h ⊢
      split
      · rename_i hw
        rw [if_pos hw] at h
        rcases h with h | h
        · exact oper_round (undef_of hd hi) (fun a w h => ops_round hd hq rest a w h) h
        · exact absurd h.2 hq
      · rename_i hw
        rw [if_neg hw] at h
        exact ⟨fun _ _ => trivial, ops_round hd hq rest _ w h⟩
theorem wpIn_region_round {P : Program} {id l n : Nat} {ops : Array Oper} {Q : Exit → Act → World → Prop} {S : World → Prop} {a : Act} {w : World} (hm : P.follows .mixedOrders = true) (hd : undef' ops = true) (hS : S w.drew)
    (h : S w.drew → wpAnyH P .any ops (NoPanic (Only Q)) S ops.size (Array.replicate ops.size false) a w.drew) : (Code.region id ops true).wpIn (Fence.wide.inRound l) n P Q a w := by
  refine Code.wpIn_mono Only.imp (wpIn_region_draw fun t => ?_)
  have hA := wpAny_of_held _ _ _ _ (h hS)
  refine ops_round hd Only.stays _ _ _ ?_
  simp only [Region.schedule, hm, Bool.true_or, if_true]
  exact wpAny_sound ops.size t _ a _ hA
end Go.Proofs.Ytbicnpiifpcnjaa
