/- A region that draws its order, by an invariant of what has come up: one proof an operation, however many orders there are. -/
import Derived.Test.YtjpkkpflamkjkaaW0
import Derived.Deep.RegionHeld3
set_option linter.unusedSimpArgs false
set_option linter.unusedVariables false
namespace Go.Proofs.Ytjpkkpflamkjkaa
open Go.RowKit
section
variable {P : Program} {ops : Array Oper} {Q : Exit → Act → World → Prop} {md : Region.Mode} {S : World → Prop}
/-- How many have not come up. -/
def unl (l : List Bool) : Nat := (l.filter (fun b => !b)).length
theorem unl_set : ∀ (l : List Bool) (i : Nat), l[i]? = some false → unl l = unl (l.set i true) + 1
  | [], i, h => by simp at h
  | b :: l, 0, h => by
    simp at h; subst h; rfl
  | b :: l, i + 1, h => by
    have ih := unl_set l i (by simpa using h)
    unfold unl at *
    simp only [List.set_cons_succ, List.filter_cons]
    split
    · simp only [List.length_cons]; omega
    · exact ih
/-- Marks set, values put, one behind the other. -/
def sets (l : Array Bool) : List (Nat × Bool) → Array Bool
  | [] => l
  | (k, b) :: r => sets (l.setIfInBounds k b) r
def puts (a : Act) : List (Nat × Value) → Act
  | [] => a
  | (k, v) :: r => puts (a.put (some k) v) r
theorem sets_size : ∀ (r : List (Nat × Bool)) (l : Array Bool), (sets l r).size = l.size
  | [], _ => rfl
  | (k, b) :: r, l => by unfold sets; rw [sets_size r]; simp
theorem sets_getD {i : Nat} {d : Bool} : ∀ (r : List (Nat × Bool)) (l : Array Bool), (∀ k ∈ r.map (·.1), i ≠ k) → (sets l r).getD i d = l.getD i d
  | [], _, _ => rfl
  | (k, b) :: r, l, h => by
    unfold sets
    rw [sets_getD r _ (fun q hq => h q (by simp [hq]))]
    have hk : i ≠ k := h k (by simp)
    simp [Array.getD_eq_getD_getElem?, Array.getElem?_setIfInBounds, Ne.symm hk]
/-- Whatever has not come up is among these. -/
theorem cand_of {l0 : Array Bool} (r : List (Nat × Bool)) {cand : List Nat} (h : (List.range l0.size).all (fun i => l0.getD i true || cand.contains i) = true) (hr : (r.map (·.1)).all cand.contains = true) {i : Nat}
    (hi : (sets l0 r).getD i true = false) : i ∈ cand := by
  apply Classical.byContradiction
  intro hn
  rw [sets_getD r l0 (fun k hk e => hn (by subst e; have := List.all_eq_true.1 hr i hk; simpa using this))] at hi
  have hlt : i < l0.size := by
    rcases Nat.lt_or_ge i l0.size with h1 | h1
    · exact h1
    · simp [Array.getD_eq_getD_getElem?, Array.getElem?_eq_none h1] at hi
  have := List.all_eq_true.1 h i (List.mem_range.2 hlt)
  rw [hi, Bool.false_or] at this
  exact hn (by simpa using this)
/-- What an operation waits for has come up. -/
theorem dep_of {l : Array Bool} {i : Nat} (h : ∀ o, ops[i]? = some o → ∀ e ∈ o.after, Region.binds md e = true → l.getD e.on false = true) (k : Nat) (hk : ((ops[i]?).map (fun o => o.after.any (fun e => Region.binds md e && e.on == k))).getD false = true) : l.getD k false = true := by
  cases ho : ops[i]? with
  | none => rw [ho] at hk; cases hk
  | some o =>
    rw [ho] at hk
    simp only [Option.map_some, Option.getD_some] at hk
    rw [Array.any_eq_true'] at hk
    obtain ⟨e, he, h2⟩ := hk
    rw [Bool.and_eq_true, beq_iff_eq] at h2
    obtain ⟨h3, rfl⟩ := h2
    exact h o ho e he h3
/-- Where something has not come up, something may come up. -/
theorem ready_ne {l : Array Bool} (hsz : l.size = ops.size) (hac : (List.range ops.size).all (fun i => ((ops[i]?).map (·.after.all fun e => decide (e.on < i))).getD true) = true) :
    ∀ i, l.getD i true = false → Region.ready md ops l ≠ [] := by
  intro i
  induction i using Nat.strongRecOn with
  | ind i ih =>
    intro hi
    have hlt : i < ops.size := by
      rcases Nat.lt_or_ge i l.size with h1 | h1
      · omega
      · simp [Array.getD_eq_getD_getElem?, Array.getElem?_eq_none h1] at hi
    by_cases hall : ∀ j, j < i → l.getD j false = true
    · have hm : i ∈ Region.ready md ops l := by
        refine mem_ready.2 ⟨hi, ops[i], Array.getElem?_eq_getElem hlt, fun e he _ => hall e.on ?_⟩
        have h2 := List.all_eq_true.1 hac i (List.mem_range.2 hlt)
        rw [Array.getElem?_eq_getElem hlt] at h2
        simp only [Option.map_some, Option.getD_some] at h2
        have h3 := (Array.all_eq_true_iff_forall_mem.1 h2) e he
        simpa using h3
      intro h0
      rw [h0] at hm; cases hm
    · have ⟨j, hj⟩ := Classical.not_forall.1 hall
      have ⟨hji, hj⟩ := Classical.not_imp.1 hj
      refine ih j hji ?_
      have hjl : j < l.size := by omega
      simp [Array.getD_eq_getD_getElem?, Array.getElem?_eq_getElem hjl] at hj ⊢
      exact hj
/-- From the state at hand on by an invariant, till all of these have come up. -/
theorem wpAnyH_from {a0 : Act} {l0 : Array Bool} {n : Nat} {w : World} (ts : List Nat) (J : Array Bool → Act → Array Bool → Act → World → Prop)
    (hac : (List.range ops.size).all (fun i => ((ops[i]?).map (·.after.all fun e => decide (e.on < i))).getD true) = true)
    (hsz : ∀ l a w, J l0 a0 l a w → l.size = ops.size)
    (hS : ∀ l a w, J l0 a0 l a w → S w)
    (hstep : ∀ l a w, J l0 a0 l a w → (∃ t ∈ ts, l.getD t true = false) → ∀ i, l.getD i true = false → (∀ o, ops[i]? = some o → ∀ e ∈ o.after, Region.binds md e = true → l.getD e.on false = true) → wpOp P ops Q i (fun a' w' => J l0 a0 (l.setIfInBounds i true) a' w') a w)
    (hend : ∀ l a w n, J l0 a0 l a w → (∀ t ∈ ts, l.getD t true = true) → unl l.toList ≤ n → wpAnyH P md ops Q S n l a w)
    (hu : unl l0.toList ≤ n) (h0 : J l0 a0 l0 a0 w) : wpAnyH P md ops Q S n l0 a0 w := by
  have key : ∀ (n : Nat) (l : Array Bool) (a : Act) (w : World), unl l.toList ≤ n → J l0 a0 l a w → wpAnyH P md ops Q S n l a w := by
    intro n
    induction n with
    | zero =>
      intro l a w hu hJ
      by_cases hf : ∃ t ∈ ts, l.getD t true = false
      · obtain ⟨t, _, hf⟩ := hf
        have hlt : t < l.size := by
          rcases Nat.lt_or_ge t l.size with h | h
          · exact h
          · simp [Array.getD_eq_getD_getElem?, Array.getElem?_eq_none h] at hf
        have h3 : l.toList[t]? = some false := by
          have : l[t]? = some l[t] := Array.getElem?_eq_getElem hlt
          simp [Array.getD_eq_getD_getElem?, this] at hf
          simp [this, hf]
        have := unl_set _ t h3
        omega
      · exact hend l a w 0 hJ (fun t ht => by cases h : l.getD t true with | true => rfl | false => exact absurd ⟨t, ht, h⟩ hf) hu
    | succ n ih =>
      intro l a w hu hJ
      by_cases hf : ∃ t ∈ ts, l.getD t true = false
      · have hf2 := hf
        obtain ⟨t, _, hft⟩ := hf2
        refine ⟨fun hr => absurd hr (ready_ne (hsz l a w hJ) hac t hft), fun i hi => ?_⟩
        obtain ⟨h1, o, h2, h4⟩ := mem_ready.1 hi
        refine wpOp_mono (fun a' w' hJ' => ⟨hS _ _ _ hJ', ih _ a' w' ?_ hJ'⟩) (hstep l a w hJ hf i h1 (fun o' ho' => by rw [h2] at ho'; cases ho'; exact h4))
        have hlt2 : i < l.size := by
          rcases Nat.lt_or_ge i l.size with h | h
          · exact h
          · simp [Array.getD_eq_getD_getElem?, Array.getElem?_eq_none h] at h1
        have h3 : l.toList[i]? = some false := by
          have : l[i]? = some l[i] := Array.getElem?_eq_getElem hlt2
          simp [Array.getD_eq_getD_getElem?, this] at h1
          simp [this, h1]
        have := unl_set _ i h3
        have e : (l.setIfInBounds i true).toList = l.toList.set i true := by simp
        rw [e]; omega
      · exact hend l a w _ hJ (fun t ht => by cases h : l.getD t true with | true => rfl | false => exact absurd ⟨t, ht, h⟩ hf) hu
  exact key n l0 a0 w hu h0
theorem wpAnyH_listed {n : Nat} {l l' : Array Bool} {a : Act} {w : World} (h : l = l') (k : wpAnyH P md ops Q S n l' a w) : wpAnyH P md ops Q S n l a w := h ▸ k
theorem wpOp_shut {i : Nat} {o : Oper} {K : Act → World → Prop} {a : Act} {w : World} (ho : ops[i]? = some o)
    (h : ∀ K' : Act → World → Prop, Shut (∀ a w, K a w → K' a w) → if Region.wanted o (yielded ops a.tmps) = true then Oper.wp P o a w K' Q else K' (a.put o.dst undef) w) : wpOp P ops Q i K a w :=
  wpOp_step ho (fun K' hK => h K' hK)
end
end Go.Proofs.Ytjpkkpflamkjkaa
