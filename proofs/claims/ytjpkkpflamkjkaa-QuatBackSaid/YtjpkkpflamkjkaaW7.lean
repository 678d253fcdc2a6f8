/- A great region that draws its order, by levels: operations that may come up at once and only yield are taken together. -/
import Derived.Test.YtjpkkpflamkjkaaW0
import Derived.Test.YtjpkkpflamkjkaaF0
import Derived.Laws.Rows
import Derived.Lib.Hide
import Derived.Laws.Tables
import Derived.Deep.RegionHeld3
set_option linter.unusedSimpArgs false
set_option linter.unusedVariables false
namespace Go.Proofs.Ytjpkkpflamkjkaa
open Go.RowKit
section
variable {P : Program} {ops : Array Oper} {Q : Exit → Act → World → Prop} {md : Region.Mode} {S : World → Prop}
/-- May these be taken one behind the other? -/
def lvB (md : Region.Mode) (ops : Array Oper) : Array Bool → List Nat → Bool
  | _, [] => true
  | l, i :: r => Region.free md ops l i && (Region.ready md ops l).contains i && r.all (fun j => ((ops[i]?).bind fun oi => (ops[j]?).map fun oj => oi.apart ops oj).getD false) && lvB md ops (l.setIfInBounds i true) r
def putDs (a : Act) : List (Option Tmp) → List Value → Act
  | d :: ds, v :: vs => putDs (a.put d v) ds vs
  | _, _ => a
def setIs (l : Array Bool) : List Nat → Array Bool
  | [] => l
  | i :: r => setIs (l.setIfInBounds i true) r
/-- Each yields its value. -/
def AllY (P : Program) (ops : Array Oper) (S : World → Prop) (a : Act) : List Nat → List (Option Tmp) → List Value → Prop
  | [], [], [] => True
  | i :: is, d :: ds, v :: vs => (∃ o, ops[i]? = some o ∧ o.dst = d ∧ YieldsIf P ops S o v a) ∧ AllY P ops S a is ds vs
  | _, _, _ => False
theorem AllY.nil {a : Act} : AllY P ops S a [] [] [] := trivial
theorem AllY.cons {a : Act} {i : Nat} {o : Oper} {v : Value} {is : List Nat} {ds : List (Option Tmp)} {vs : List Value} (hi : ops[i]? = some o) (hw : Region.wanted o (yielded ops a.tmps) = true)
    (hy : ∀ w, S w → (execOp a.eval o).run P w = .ok (.value v) w) (h : AllY P ops S a is ds vs) : AllY P ops S a (i :: is) (o.dst :: ds) (v :: vs) := ⟨⟨o, hi, rfl, Or.inl ⟨hw, hy⟩⟩, h⟩
theorem AllY.put {a : Act} {oi : Oper} {v : Value} (hs : Region.noSelect ops = true) : ∀ {is : List Nat} {ds : List (Option Tmp)} {vs : List Value}, AllY P ops S a is ds vs →
    (∀ j ∈ is, ∀ oj, ops[j]? = some oj → oi.apart ops oj = true) → AllY P ops S (a.put oi.dst v) is ds vs
  | [], [], [], h, _ => h
  | i :: is, d :: ds, u :: vs, ⟨⟨o, h1, h2, h3⟩, h⟩, hap => by
    have ha := hap i (by simp) o h1
    obtain ⟨g1, g2, g3⟩ := Oper.apart_spec ha
    have hsj : ∀ cs b, o.op ≠ .select cs b := fun cs b => Region.noSelect_spec hs i o cs b h1
    exact ⟨⟨o, h1, h2, h3.of_same (execOp_put o hsj a oi.dst v g1) (wanted_put o a oi.dst v g1)⟩, AllY.put hs h (fun j hj => hap j (by simp [hj]))⟩
  | [], [], _ :: _, h, _ => h.elim
  | [], _ :: _, _, h, _ => h.elim
  | _ :: _, [], _, h, _ => h.elim
  | _ :: _, _ :: _, [], h, _ => h.elim
theorem wpAnyH_level {n : Nat} {l' : Array Bool} {w : World} (hs : Region.noSelect ops = true) (hQ : ∀ (d : Option Tmp) (v : Value) c a w, Q (.panic c) (a.put d v) w → Q (.panic c) a w) :
    ∀ {is : List Nat} {ds : List (Option Tmp)} {vs : List Value} {l : Array Bool} {a : Act}, AllY P ops S a is ds vs → lvB md ops l is = true → setIs l is = l' → S w →
      wpAnyH P md ops Q S n l' (putDs a ds vs) w → wpAnyH P md ops Q S (n + is.length) l a w
  | [], [], [], l, a, _, _, hl, _, h => by subst hl; exact h
  | i :: is, d :: ds, v :: vs, l, a, ⟨⟨oi, hi, hd, hyi⟩, hy⟩, hk, hl, hS, h => by
    simp only [lvB, Bool.and_eq_true] at hk
    obtain ⟨⟨⟨hf, hr⟩, hap⟩, hrest⟩ := hk
    refine wpAnyH_take (fuel := n + is.length) hi hs hf hr (hQ _ _) hyi hS ?_
    refine wpAnyH_level hs hQ (AllY.put hs hy ?_) hrest hl hS ?_
    · intro j hj oj hoj
      have ha := List.all_eq_true.1 hap j hj
      rw [hi, hoj] at ha
      simpa using ha
    · subst hd; exact h
  | [], [], _ :: _, _, _, h, _, _, _, _ => h.elim
  | [], _ :: _, _, _, _, h, _, _, _, _ => h.elim
  | _ :: _, [], _, _, _, h, _, _, _, _ => h.elim
  | _ :: _, _ :: _, [], _, _, h, _, _, _, _ => h.elim
/-- One operation alone may come up, and it is carried out. -/
theorem wpAnyH_one {i : Nat} {o : Oper} {n : Nat} {l l' : Array Bool} {a : Act} {w : World} (hr : Region.ready md ops l = [i]) (hl : l.setIfInBounds i true = l') (ho : ops[i]? = some o) (hw : Region.wanted o (yielded ops a.tmps) = true)
    (h : ∀ K' : Act → World → Prop, Shut (∀ a w, S w → (S w → wpAnyH P md ops Q S n l' a w) → K' a w) → Oper.wp P o a w K' Q) : wpAnyH P md ops Q S (n + 1) l a w := by
  subst hl
  exact wpAnyH_ready hr (by simp) (AllReadyH.cons ho (fun K' hK => by rw [if_pos hw]; exact h K' hK) AllReadyH.nil)
/-- The same, the fuel said apart. -/
theorem wpAnyH_lv {n f : Nat} {l l' : Array Bool} {w : World} {is : List Nat} {ds : List (Option Tmp)} {vs : List Value} {a : Act} (hf : f = n + is.length) (hs : Region.noSelect ops = true) (hQ : ∀ (d : Option Tmp) (v : Value) c a w, Q (.panic c) (a.put d v) w → Q (.panic c) a w)
    (hy : AllY P ops S a is ds vs) (hk : lvB md ops l is = true) (hl : setIs l is = l') (hS : S w) (h : wpAnyH P md ops Q S n l' (putDs a ds vs) w) : wpAnyH P md ops Q S f l a w := by
  subst hf; exact wpAnyH_level hs hQ hy hk hl hS h
theorem wpAnyH_on {i : Nat} {o : Oper} {n f : Nat} {l l' : Array Bool} {a : Act} {w : World} (hf : f = n + 1) (hr : Region.ready md ops l = [i]) (hl : l.setIfInBounds i true = l') (ho : ops[i]? = some o) (hw : Region.wanted o (yielded ops a.tmps) = true)
    (h : ∀ K' : Act → World → Prop, Shut (∀ a w, S w → (S w → wpAnyH P md ops Q S n l' a w) → K' a w) → Oper.wp P o a w K' Q) : wpAnyH P md ops Q S f l a w := by
  subst hf; exact wpAnyH_one hr hl ho hw h
end
/-! A level, told along the region's own list of operations. -/
section
variable {P : Program} {ops : Array Oper} {Q : Exit → Act → World → Prop} {md : Region.Mode} {S : World → Prop}
/-- These of the operations (those with a value) yield their values. -/
def LvY (P : Program) (ops : Array Oper) (S : World → Prop) (a : Act) : List Oper → List (Option Value) → Prop
  | [], [] => True
  | _ :: L, none :: ms => LvY P ops S a L ms
  | o :: L, some v :: ms => YieldsIf P ops S o v a ∧ LvY P ops S a L ms
  | _, _ => False
def lvIs (k : Nat) : List (Option Value) → List Nat
  | [] => []
  | none :: ms => lvIs (k + 1) ms
  | some _ :: ms => k :: lvIs (k + 1) ms
def lvDs : List Oper → List (Option Value) → List (Option Tmp)
  | _ :: L, none :: ms => lvDs L ms
  | o :: L, some _ :: ms => o.dst :: lvDs L ms
  | _, _ => []
def lvVs : List (Option Value) → List Value
  | [] => []
  | none :: ms => lvVs ms
  | some v :: ms => v :: lvVs ms
theorem LvY.nil {a : Act} : LvY P ops S a [] [] := trivial
theorem LvY.skip {a : Act} {o : Oper} {L : List Oper} {ms : List (Option Value)} (h : LvY P ops S a L ms) : LvY P ops S a (o :: L) (none :: ms) := h
theorem LvY.take {a : Act} {o : Oper} {L : List Oper} {v : Value} {ms : List (Option Value)} (hw : Region.wanted o (yielded ops a.tmps) = true) (hy : ∀ w, S w → (execOp a.eval o).run P w = .ok (.value v) w) (h : LvY P ops S a L ms) :
    LvY P ops S a (o :: L) (some v :: ms) := ⟨Or.inl ⟨hw, hy⟩, h⟩
theorem LvY.all {a : Act} : ∀ (L : List Oper) (ms : List (Option Value)) (k : Nat), (∀ j o, L[j]? = some o → ops[k + j]? = some o) → LvY P ops S a L ms → AllY P ops S a (lvIs k ms) (lvDs L ms) (lvVs ms)
  | [], [], _, _, _ => trivial
  | _ :: L, none :: ms, k, hk, h => LvY.all L ms (k + 1) (fun j o hj => by have := hk (j + 1) o (by simpa using hj); rwa [show k + 1 + j = k + (j + 1) by omega]) h
  | o :: L, some v :: ms, k, hk, ⟨h1, h⟩ => ⟨⟨o, by have := hk 0 o rfl; simpa using this, rfl, h1⟩, LvY.all L ms (k + 1) (fun j o hj => by have := hk (j + 1) o (by simpa using hj); rwa [show k + 1 + j = k + (j + 1) by omega]) h⟩
  | [], _ :: _, _, _, h => h.elim
  | _ :: _, [], _, _, h => h.elim
theorem wpAnyH_along {n f : Nat} {l l' : Array Bool} {w : World} {L : List Oper} {ms : List (Option Value)} {a : Act} (is : List Nat) (hy : LvY P L.toArray S a L ms) (his : lvIs 0 ms = is) (hf : f = n + is.length) (hs : Region.noSelect L.toArray = true)
    (hQ : ∀ (d : Option Tmp) (v : Value) c a w, Q (.panic c) (a.put d v) w → Q (.panic c) a w) (hk : lvB md L.toArray l is = true) (hl : setIs l is = l') (hS : S w)
    (h : wpAnyH P md L.toArray Q S n l' (putDs a (lvDs L ms) (lvVs ms)) w) : wpAnyH P md L.toArray Q S f l a w := by
  subst his
  exact wpAnyH_lv hf hs hQ (LvY.all L ms 0 (fun j o hj => by simpa using hj) hy) hk hl hS h
end
/-! Each temporary is written once, and what reads it waits for it: checked once a region. -/
section
variable {P : Program} {ops : Array Oper} {Q : Exit → Act → World → Prop} {md : Region.Mode} {S : World → Prop}
/-- tab: which operation writes a temporary. -/
def ssaB (md : Region.Mode) (ops : Array Oper) (tab : Array (Option Nat)) : Bool :=
  (List.range ops.size).all fun i => match ops[i]? with
    | none => true
    | some o => (match o.dst with | none => true | some d => tab.getD d none == some i) &&
        (o.looksAt ops).all fun t => match tab.getD t none with | none => true | some k => o.after.any fun e => Region.binds md e && e.on == k
theorem ssa_at {tab : Array (Option Nat)} (h : ssaB md ops tab = true) {i : Nat} {o : Oper} (hi : ops[i]? = some o) :
    (∀ d, o.dst = some d → tab.getD d none = some i) ∧ ∀ t ∈ o.looksAt ops, ∀ k, tab.getD t none = some k → ∃ e ∈ o.after, Region.binds md e = true ∧ e.on = k := by
  have h1 := List.all_eq_true.1 h i (List.mem_range.2 (Array.getElem?_eq_some_iff.1 hi).1)
  rw [hi] at h1
  simp only [Bool.and_eq_true] at h1
  refine ⟨fun d hd => ?_, fun t ht k hk => ?_⟩
  · have h2 := h1.1
    rw [hd] at h2
    simpa using h2
  · have h2 := List.all_eq_true.1 h1.2 t ht
    rw [hk] at h2
    simp only [Array.any_eq_true', Bool.and_eq_true, beq_iff_eq] at h2
    exact h2
theorem ssa_apart {tab : Array (Option Nat)} (h : ssaB md ops tab = true) {i j : Nat} {oi oj : Oper} (hi : ops[i]? = some oi) (hj : ops[j]? = some oj) (hne : i ≠ j) (hij : ∀ e ∈ oj.after, Region.binds md e = true → e.on ≠ i)
    (hji : ∀ e ∈ oi.after, Region.binds md e = true → e.on ≠ j) : oi.apart ops oj = true := by
  obtain ⟨a1, a2⟩ := ssa_at h hi
  obtain ⟨b1, b2⟩ := ssa_at h hj
  unfold Oper.apart
  rw [Bool.and_eq_true]
  constructor
  · cases hd : oi.dst with
    | none => rfl
    | some d =>
      have ht := a1 d hd
      simp only [Bool.and_eq_true, Bool.not_eq_true', bne_iff_ne, ne_eq]
      refine ⟨?_, fun e => ?_⟩
      · rw [← Bool.not_eq_true, List.contains_iff_mem]
        intro hm
        obtain ⟨e, he, h1, h2⟩ := b2 d hm i ht
        exact hij e he h1 h2
      · have := b1 d e
        rw [ht] at this
        exact hne (by simpa using this)
  · cases hd : oj.dst with
    | none => rfl
    | some d =>
      have ht := b1 d hd
      simp only [Bool.not_eq_true']
      rw [← Bool.not_eq_true, List.contains_iff_mem]
      intro hm
      obtain ⟨e, he, h1, h2⟩ := a2 d hm j ht
      exact hji e he h1 h2
def upB : List Nat → Bool
  | i :: j :: r => decide (i < j) && upB (j :: r)
  | _ => true
theorem upB_lt : ∀ {i : Nat} {r : List Nat}, upB (i :: r) = true → (∀ j ∈ r, i < j) ∧ upB r = true
  | i, [], _ => ⟨fun _ h => by simp at h, rfl⟩
  | i, j :: r, h => by
    simp only [upB, Bool.and_eq_true, decide_eq_true_eq] at h
    obtain ⟨h1, h2⟩ := upB_lt h.2
    refine ⟨fun k hk => ?_, h.2⟩
    rcases List.mem_cons.1 hk with rfl | hk
    · exact h.1
    · exact Nat.lt_trans h.1 (h1 k hk)
theorem wpAnyH_ssa {n : Nat} {l' : Array Bool} {w : World} {tab : Array (Option Nat)} (hA : ssaB md ops tab = true) (hs : Region.noSelect ops = true) (hQ : ∀ (d : Option Tmp) (v : Value) c a w, Q (.panic c) (a.put d v) w → Q (.panic c) a w) :
    ∀ {is : List Nat} {ds : List (Option Tmp)} {vs : List Value} {l : Array Bool} {a : Act}, AllY P ops S a is ds vs → upB is = true → (∀ i ∈ is, i ∈ Region.ready md ops l) → setIs l is = l' → S w →
      wpAnyH P md ops Q S n l' (putDs a ds vs) w → wpAnyH P md ops Q S (n + is.length) l a w
  | [], [], [], l, a, _, _, _, hl, _, h => by subst hl; exact h
  | i :: is, d :: ds, v :: vs, l, a, ⟨⟨oi, hi, hd, hyi⟩, hy⟩, hu, hr, hl, hS, h => by
    obtain ⟨hu1, hu2⟩ := upB_lt hu
    have hri := hr i (by simp)
    obtain ⟨hiu, oi', hoi', hall⟩ := mem_ready.1 hri
    rw [hi] at hoi'
    cases hoi'
    have hfree : ∀ j oj, ops[j]? = some oj → j ≠ i → l.getD j true = false → (∀ e ∈ oj.after, Region.binds md e = true → e.on ≠ i) → oi.apart ops oj = true := fun j oj hj hne hun hno =>
      ssa_apart hA hi hj (Ne.symm hne) hno (fun e he hb heq => by
        have h1 := hall e he hb
        rw [heq] at h1
        rcases Nat.lt_or_ge j l.size with h' | h'
        · simp [h'] at hun h1; rw [hun] at h1; cases h1
        · simp [Array.getElem?_eq_none h'] at h1)
    refine wpAnyH_first hi (Region.noSelect_spec hs) (hQ _ _) (n + is.length) l a w hfree hri hyi hS ?_
    refine wpAnyH_ssa (l := l.setIfInBounds i true) hA hs hQ (AllY.put hs hy ?_) hu2 (fun j hj => ready_mono (hr j (by simp [hj])) (by have := hu1 j hj; omega)) hl hS ?_
    · intro j hj oj hoj
      obtain ⟨hju, oj', hoj', hallj⟩ := mem_ready.1 (hr j (by simp [hj]))
      rw [hoj] at hoj'
      cases hoj'
      have hne : j ≠ i := by have := hu1 j hj; omega
      refine hfree j oj hoj hne hju (fun e he hb heq => ?_)
      have h1 := hallj e he hb
      rw [heq] at h1
      rcases Nat.lt_or_ge i l.size with h' | h'
      · simp [h'] at hiu h1; rw [hiu] at h1; cases h1
      · simp [Array.getElem?_eq_none h'] at h1
    · subst hd; exact h
  | [], [], _ :: _, _, _, h, _, _, _, _, _ => h.elim
  | [], _ :: _, _, _, _, h, _, _, _, _, _ => h.elim
  | _ :: _, [], _, _, _, h, _, _, _, _, _ => h.elim
  | _ :: _, _ :: _, [], _, _, h, _, _, _, _, _ => h.elim
def inB (l : List Nat) : List Nat → Bool
  | [] => true
  | i :: r => l.contains i && inB l r
theorem inB_mem {l : List Nat} : ∀ {r : List Nat}, inB l r = true → ∀ i ∈ r, i ∈ l
  | [], _, _, h => by simp at h
  | j :: r, h, i, hi => by
    simp only [inB, Bool.and_eq_true, List.contains_iff_mem] at h
    rcases List.mem_cons.1 hi with rfl | hi
    · exact h.1
    · exact inB_mem h.2 i hi
theorem wpAnyH_sl {n f : Nat} {l l' : Array Bool} {w : World} {L : List Oper} {ms : List (Option Value)} {a : Act} {tab : Array (Option Nat)} (is : List Nat) (ds : List (Option Tmp)) (hA : Hid (ssaB md L.toArray tab = true ∧ Region.noSelect L.toArray = true)) (hy : LvY P L.toArray S a L ms) (his : lvIs 0 ms = is) (hds : lvDs L ms = ds)
    (hf : f = n + is.length) (hQ : ∀ (d : Option Tmp) (v : Value) c a w, Q (.panic c) (a.put d v) w → Q (.panic c) a w) (hu : upB is = true) (hr : inB (Region.ready md L.toArray l) is = true) (hl : setIs l is = l') (hS : S w)
    (h : wpAnyH P md L.toArray Q S n l' (putDs a ds (lvVs ms)) w) : wpAnyH P md L.toArray Q S f l a w := by
  subst hds
  subst his
  subst hf
  exact wpAnyH_ssa hA.out.1 hA.out.2 hQ (LvY.all L ms 0 (fun j o hj => by simpa using hj) hy) hu (inB_mem hr) hl hS h
theorem wp_region_ssa {id : Nat} {a : Act} {w : World} {L : List Oper} (tab : Array (Option Nat)) (hm : P.follows .mixedOrders = true) (hA : ssaB .any L.toArray tab = true) (hs : Region.noSelect L.toArray = true) (hS : S w.drew)
    (h : Hid (ssaB .any L.toArray tab = true ∧ Region.noSelect L.toArray = true) → S w.drew → wpAnyH P .any L.toArray Q S L.toArray.size (Array.replicate L.toArray.size false) a w.drew) : (Code.region id L.toArray true).wp P Q a w :=
  wp_region_held_drew hm hS (h (Lib.hid ⟨hA, hs⟩))
end
/-! A whole block, stored at once. -/
theorem setRow_other (w : World) (g k : Nat) (c : Array Value) (h : k ≠ g) : (w.setRow g c).heap[k]? = w.heap[k]? := by
  simp only [World.setRow, Array.getElem?_modify, if_neg (Ne.symm h)]
theorem cell_row {w : World} {g : Nat} {c : Array Value} {a : Addr} {v : Value} (h : w.cell? a = some v) (hne : a.block ≠ g) : (w.setRow g c).cell? a = some v := by
  rw [World.cell?_of_block (w := w) (setRow_other w g _ c hne)]; exact h
theorem row_mv {w w1 : World} {g b : Nat} {o : Bool} {x : Obj} (hM : Mv b o w w1) (h : w.heap[g]? = some x) (hne : g ≠ b) : w1.heap[g]? = some x :=
  (hM.other g (Array.getElem?_eq_some_iff.1 h).1 hne).trans h
theorem row_later {w w1 : World} {g : Nat} {x : Obj} (h : w.heap[g]? = some x) (hB : Below w.heap.size w w1) : w1.heap[g]? = some x :=
  (hB.block g (Array.getElem?_eq_some_iff.1 h).1).trans h
theorem row_new (w : World) (x : Obj) : (w.alloc x).heap[w.heap.size]? = some x := by
  show (w.heap.push x)[w.heap.size]? = some x
  simp
theorem Mv.row {b : Nat} {o : Bool} {w w1 : World} (h : Mv b o w w1) {g : Nat} (hg : w.heap.size ≤ g) (hb : g ≠ b) (c : Array Value) : Mv b o w (w1.setRow g c) := by
  have hs : (w1.setRow g c).heap.size = w1.heap.size := by simp [World.setRow]
  have e := setRow_other w1 g b c (Ne.symm hb)
  exact ⟨h.os, h.tape, h.output, by rw [hs]; exact h.size, by rw [World.cell?_of_block (w := w1) e]; exact h.cell, by rw [World.frozen?_of_block (w := w1) e]; exact h.free, fun k hk hkb => (setRow_other w1 g k c (by omega)).trans (h.other k hk hkb)⟩
theorem row_put {w : World} {g : Nat} {old : Array Value} {t : TypeId} (c : Array Value) (h : w.heap[g]? = some (.cells old t (0, 0))) : (w.setRow g c).heap[g]? = some (.cells c t (0, 0)) := setRow_heap w g old c t (0, 0) h
end Go.Proofs.Ytjpkkpflamkjkaa
