/- Which flag each zone has. -/
import Derived.Test.YtbicnpiifpcnjaaG1
import Derived.Deep.OwnRows
set_option linter.unusedSimpArgs false
set_option linter.unusedVariables false
namespace Go.Proofs.Ytbicnpiifpcnjaa
open Go.RowKit Go.Shelf
attribute [local go_sem] Oper.semAt_some
/-- A zone's flag, of these cars; whether something did not fit. -/
def zv (n : Int) (l : List (Nat × Car)) (i : Nat) : Int := if (l.any fun p => decide (zn n p.2.f p.2.g = (i : Int)) && dg p.2.f p.2.g) = true then 1 else 0
def zo (n : Int) (l : List (Nat × Car)) : Bool := l.any fun p => decide (0 ≤ zn n p.2.f p.2.g) && !dgok p.2.f
theorem zv_snoc (n : Int) (l : List (Nat × Car)) (p : Nat × Car) (i : Nat) : zv n (l ++ [p]) i = if (decide (zn n p.2.f p.2.g = (i : Int)) && dg p.2.f p.2.g) = true then 1 else zv n l i := by
  unfold zv
  rw [List.any_append]
  simp only [List.any_cons, List.any_nil, Bool.or_false]
  cases (l.any fun p => decide (zn n p.2.f p.2.g = (i : Int)) && dg p.2.f p.2.g) <;> cases (decide (zn n p.2.f p.2.g = (i : Int)) && dg p.2.f p.2.g) <;> rfl
theorem zo_snoc (n : Int) (l : List (Nat × Car)) (p : Nat × Car) : zo n (l ++ [p]) = (zo n l || (decide (0 ≤ zn n p.2.f p.2.g) && !dgok p.2.f)) := by
  unfold zo; rw [List.any_append]; simp
theorem rowIs_own {β : Type} (B : Nat) (t n : Nat) (f : β → Nat → Value) : Own (fun s W => W.rowIs B t n (f s)) := fun s X Y row hs hg hr => by
  refine hs.of_block (hg.block B hs.lt (fun e' => ?_))
  obtain ⟨o, ho, hc⟩ := hr B e'.symm
  obtain ⟨c, h1, h2, h3⟩ := hs
  rw [h1] at ho; cases ho; cases hc
theorem ownFrom_mv {β : Type} {b B : Nat} {w₀ : World} (f : β → Bool) (hB : w₀.heap.size ≤ B) (hb : b < B) : OwnFrom B (fun s W => Mv b (f s) w₀ W) := fun s X Y row hs hg hr => by
  have hne : ∀ k, k < X.heap.size → k < B → Y.heap[k]? = X.heap[k]? := fun k h1 h2 => hg.block k h1 (fun e => by have := (hr k e.symm).1; omega)
  have e := hne b (lt_of_cell hs.cell) hb
  exact ⟨hg.os.trans hs.os, hg.tape.trans hs.tape, hg.output.trans hs.output, Nat.le_trans hs.size hg.size, by rw [World.cell?_of_block (w := X) e]; exact hs.cell, by rw [World.frozen?_of_block (w := X) e]; exact hs.free,
    fun k hk hkb => (hne k (Nat.lt_of_lt_of_le hk hs.size) (by omega)).trans (hs.other k hk hkb)⟩
theorem Mv.keeps {b : Nat} {o : Bool} {w W : World} (h : Mv b o w W) {v : Value} (hc : w.cell? ⟨b, 0, none⟩ = some v) : KeepsOthers w W := ⟨h.size, fun k x hk hx => by
  by_cases e : k = b
  · subst e
    simp only [World.cell?, hk] at hc
    cases x <;> simp_all [Obj.isCells]
  · exact (h.other k (Array.getElem?_eq_some_iff.1 hk).1 e).trans hk⟩
theorem Mv.kb {b n₀ : Nat} {o : Bool} {w W : World} (h : Mv b o w W) (hn : n₀ ≤ w.heap.size) : Kb n₀ b w W := ⟨h.size, fun k hk hb => h.other k (by omega) hb⟩
theorem info_int : (Try.prog.info? 3).map (fun i => (i.zero, i.size, i.bytes)) = some (some (.int .i64 0), 1, 8) := by kernel_rfl
theorem zn_lt (n : Int) (f : Nat → Int) (g : Nat → Bool) (h : 1 ≤ n) : zn n f g < n := by
  unfold zn
  split
  · omega
  · rename_i h; simp at h; split <;> omega
theorem Boxed.later {B : Nat} {t : TypeId} {v : Value} {w W : World} (h : Boxed w B t v) (hB : Below w.heap.size w W) : Boxed W B t v := (hB.block B h.lt).trans h
theorem Boxed.mv {B b : Nat} {o : Bool} {t : TypeId} {v : Value} {w W : World} (h : Boxed w B t v) (hM : Mv b o w W) (hne : B ≠ b) : Boxed W B t v := (hM.other B h.lt hne).trans h
theorem sb_own {β : Type} (B : Nat) (f : Nat → Int) (g : Nat → Bool) : Own (fun (_ : β) W => Sb B f g W) := fun s X Y row hs hg hrow => by
  refine (hg.block B hs.lt (fun e' => ?_)).trans hs
  obtain ⟨x, ho, hc⟩ := hrow B e'.symm; rw [show X.heap[B]? = _ from hs] at ho; cases ho; cases hc
theorem below_keeps {w W : World} (h : Below w.heap.size w W) : KeepsOthers w W := ⟨h.size, fun k o hk _ => (h.block k (Array.getElem?_eq_some_iff.1 hk).1).trans hk⟩
theorem below_kb {b n₀ : Nat} {w W : World} (h : Below w.heap.size w W) (hn : n₀ ≤ w.heap.size) : Kb n₀ b w W := ⟨h.size, fun k hk _ => h.block k (by omega)⟩
theorem Mv.belowN {b N : Nat} {o : Bool} {w w1 w2 : World} (h : Mv b o w w1) (k : Below N w1 w2) (hN : w.heap.size ≤ N) (hb : b < w.heap.size) : Mv b o w w2 :=
  ⟨k.os.trans h.os, k.tape.trans h.tape, k.output.trans h.output, Nat.le_trans h.size k.size, (k.cell (p := ⟨b, 0, none⟩) (Nat.lt_of_lt_of_le hb hN)).trans h.cell, (k.frozen (p := ⟨b, 0, none⟩) (Nat.lt_of_lt_of_le hb hN)).trans h.free,
    fun i hi hb => (k.block i (Nat.lt_of_lt_of_le hi hN)).trans (h.other i hi hb)⟩
/-- What the loop's body sees: a reckoner's, a number's, a slice's box; the row of flags. -/
structure Zi (b n sz : Nat) (F : Nat → Int) (W : World) : Prop where
  m : Boxed W sz 23 (.pointer (some ⟨b, 0, none⟩))
  q : Boxed W (sz + 1) 3 (.int .i64 n)
  s : Boxed W (sz + 1 + 1 + 1) 26 (.slice (some ⟨sz + 1 + 1, 0, none⟩) n n)
  r : W.rowIs (sz + 1 + 1) 3 n (fun i => .int .i64 (F i))
  z : sz + 5 ≤ W.heap.size
theorem Zi.later {b n sz : Nat} {F : Nat → Int} {w W : World} (h : Zi b n sz F w) (hB : Below w.heap.size w W) : Zi b n sz F W := ⟨Boxed.later h.m hB, Boxed.later h.q hB, Boxed.later h.s hB, h.r.of_block (hB.block _ h.r.lt), Nat.le_trans h.z hB.size⟩
theorem Zi.mv {b n sz : Nat} {F : Nat → Int} {o : Bool} {w W : World} (h : Zi b n sz F w) (hM : Mv b o w W) (hb : b < sz) : Zi b n sz F W := ⟨Boxed.mv h.m hM (by omega), Boxed.mv h.q hM (by omega), Boxed.mv h.s hM (by omega), h.r.of_block (hM.other _ h.r.lt (by omega)), Nat.le_trans h.z hM.size⟩
theorem Zi.put {b n sz : Nat} {F G : Nat → Int} {w : World} (h : Zi b n sz F w) (hb : b < sz) (j : Nat) (u : Value) (e : ∀ i, Value.int .i64 (G i) = if i = j then u else .int .i64 (F i)) : Zi b n sz G (w.setCell ⟨sz + 1 + 1, j, none⟩ u) := by
  have hk : ∀ k, k ≠ sz + 1 + 1 → (w.setCell ⟨sz + 1 + 1, j, none⟩ u).heap[k]? = w.heap[k]? := fun k hk => Below.heap_setCell _ _ _ _ hk
  exact ⟨(hk _ (by omega)).trans h.m, (hk _ (by omega)).trans h.q, (hk _ (by omega)).trans h.s, (h.r.set j u).congr (fun i _ => (e i).symm), by simpa [World.setCell] using h.z⟩
theorem zi_own (b n sz : Nat) (F : List (Nat × Car) → Nat → Int) : Own (fun pre W => Zi b n sz (F pre) W) := fun s X Y row hs hg hr =>
  ⟨boxed_own _ _ (fun _ => _) s X Y row hs.m hg hr, boxed_own _ _ (fun _ => _) s X Y row hs.q hg hr, boxed_own _ _ (fun _ => _) s X Y row hs.s hg hr, rowIs_own _ _ _ (fun s i => .int .i64 (F s i)) s X Y row hs.r hg hr, Nat.le_trans hs.z hg.size⟩
set_option maxRecDepth 100000 in
set_option maxHeartbeats 4000000 in
theorem cZones (n : Nat) (p : Option Addr) (len cap : Nat) (S : Nat → Car) (b : Nat) (o : Bool) (w : World) (h1 : 1 ≤ n) (h2 : n ≤ 16) (hS : Sl w.heap.size b p len cap S w) (hc : w.cell? ⟨b, 0, none⟩ = some (.bool o)) (hf : w.frozen? ⟨b, 0, none⟩ = false) :
    Calls Try.prog 7 #[.pointer (some ⟨b, 0, none⟩), .int .i64 n, .slice p len cap] w fun e w' =>
      ∃ B, e = .returned (.slice (some ⟨B, 0, none⟩) n n) ∧ w.heap.size ≤ B ∧ w'.rowIs B 3 n (fun i => .int .i64 (zv n (rl S len) i)) ∧ Mv b (o || zo n (rl S len)) w w' := by
  have hb := lt_of_cell hc
  have hmk := run_make_row' (P := Try.prog) 26 3 (.int .i64 0) 8 Try.underlying26 info_int rfl .i64 .i64 n (by omega) (by omega)
  refine (callsIn_wide (n := 3)).1 ?_
  refine callsIn_of_wp_marks Try.func7 rfl trivial ?_ rfl
  simp only [Try.ntmps7, List.size_toArray, List.length_cons, List.length_nil, Nat.reduceAdd, Nat.reduceSub, Array.replicate_succ, Array.replicate_zero, List.push_toArray, List.append_toArray, List.nil_append, List.cons_append]
  gi_wp2_with (refine ⟨trivial, ?_⟩; gi_at_call 11; refine (racing_in Fence.wide (3 - 1) trivial rfl _ _ _ _).mono ?_; rintro e w' ⟨rfl, rfl⟩)
  obtain ⟨W0, hW0⟩ : ∃ W0, ((((w.alloc (.cells #[.pointer (some ⟨b, 0, none⟩)] 23)).alloc (.cells #[.int .i64 n] 3)).alloc (.cells (madeCells #[.int .i64 0] n) 3)).alloc (.cells #[.slice (some ⟨w.heap.size + 1 + 1, 0, none⟩) n n] 26)).alloc (.cells #[.slice p len cap] 22) = W0 := ⟨_, rfl⟩
  have hsz : W0.heap.size = w.heap.size + 5 := by rw [← hW0]; simp
  have hB0 : Below w.heap.size w W0 := by rw [← hW0]; (repeat (first | with_reducible assumption | with_reducible exact Below.refl _ _ | ((with_reducible refine Below.setCell ?_ ?_ _); rotate_left; (first | exact Nat.le_refl _ | (dsimp only; omega) | (simp; done) | (simp; omega))) | with_reducible refine below_alloc ?_ _ | with_reducible apply below_drewN | with_reducible apply Below.drew | with_reducible refine below_step ?_ (by assumption)))
  have bS : Boxed W0 (w.heap.size + 1 + 1 + 1 + 1) 22 (.slice p len cap) := by
    rw [← hW0]
    have := Boxed.new ((((w.alloc (.cells #[.pointer (some ⟨b, 0, none⟩)] 23)).alloc (.cells #[.int .i64 n] 3)).alloc (.cells (madeCells #[.int .i64 0] n) 3)).alloc (.cells #[.slice (some ⟨w.heap.size + 1 + 1, 0, none⟩) n n] 26)) 22 (.slice p len cap)
    simpa only [World.size_alloc] using this
  have hZ : Zi b n w.heap.size (fun i => zv n [] i) W0 := by
    rw [← hW0]
    have z1 := Boxed.new w 23 (.pointer (some ⟨b, 0, none⟩))
    have z2 := Boxed.new (w.alloc (.cells #[.pointer (some ⟨b, 0, none⟩)] 23)) 3 (.int .i64 n)
    have z3 := World.rowIs_made ((w.alloc (.cells #[.pointer (some ⟨b, 0, none⟩)] 23)).alloc (.cells #[.int .i64 n] 3)) (.int .i64 0) n 3
    have z4 := Boxed.new (((w.alloc (.cells #[.pointer (some ⟨b, 0, none⟩)] 23)).alloc (.cells #[.int .i64 n] 3)).alloc (.cells (madeCells #[.int .i64 0] n) 3)) 26 (.slice (some ⟨w.heap.size + 1 + 1, 0, none⟩) n n)
    simp only [World.size_alloc] at z2 z3 z4
    exact ⟨(((z1.alloc _).alloc _).alloc _).alloc _, ((z2.alloc _).alloc _).alloc _, z4.alloc _, (z3.alloc _).alloc _, by simp⟩
  have hM0 : Mv b (o || zo n []) w W0 := by rw [show zo n [] = false from rfl, Bool.or_false]; exact (Mv.refl hc hf).below hB0
  rw [hW0]
  clear hW0 hmk
  refine wpIn_rangeFunc_ownH rfl (by omega) (gf := 15) (lb := #[.pointer (some ⟨w.heap.size + 1 + 1 + 1 + 1, 0, none⟩)]) rfl trivial (enters_of Try.func15 (by kernel_rfl) rfl)
    (racing_stops Fence.wide (3 - 1) trivial rfl (by omega) (w.heap.size + 1 + 1 + 1 + 1) w.heap.size b p len cap S W0 (by omega) (by omega) bS.cell (hS.kb (fun k hk _ => hB0.block k hk))) kb_t (kb_b (by omega)) (Below.refl _ _) (fun _ => rfl)
    (fun pre W => Zi b n w.heap.size (fun i => zv n pre i) W ∧ Mv b (o || zo n pre) w W)
    (fun _ _ _ => False)
    (OwnFrom.and (Own.from (zi_own b n w.heap.size (fun pre i => zv n pre i)) _) (ownFrom_mv (fun pre => o || zo n pre) (by omega) (by omega)))
    (fun _ _ _ _ _ hs _ _ => hs)
    ⟨hZ, hM0⟩
    (fun x a' W => ∃ Bx, w.heap.size + 4 < Bx ∧ Sb Bx x.2.f x.2.g W ∧ a' = { tmps := #[.pointer (some ⟨b, 0, none⟩), .int .i64 n, .slice p len cap, .pointer (some ⟨w.heap.size, 0, none⟩), .pointer (some ⟨w.heap.size + 1, 0, none⟩), undef, .slice none 0 0,
        .pointer (some ⟨w.heap.size + 1 + 1 + 1, 0, none⟩), undef, .pointer (some ⟨Bx, 0, none⟩), undef, .int .i64 n, .bool (decide ((n : Int) < 1)), .bool (decide ((n : Int) < 1)), .int .i64 n, .bool (decide (16 < (n : Int))),
        .bool (decide ((n : Int) < 1) || decide (16 < (n : Int))), .int .i64 n, .slice (some ⟨w.heap.size + 1 + 1, 0, none⟩) n n, .slice p len cap, .func (.func 15) #[] #[.pointer (some ⟨w.heap.size + 1 + 1 + 1 + 1, 0, none⟩)], .int .i64 (x.1 : Int), .agg (sc x.2.f x.2.g),
        undef, undef, undef, undef, undef, undef, undef, undef, undef, undef, undef, undef, undef, undef], defers := [] })
    (fun x a' _ X Y row hs hg hr => by obtain ⟨Bx, h1, h2, h3⟩ := hs; exact ⟨Bx, h1, sb_own Bx _ _ () X Y row h2 hg (fun r e => (hr r e).2), h3⟩)
    ?assign ?body ?done ?stop
  case assign =>
    rintro l pre x W K ⟨hZ1, hM1⟩ hK
    dsimp only [encs]
    gi_wp2
    have hB : Below W.heap.size W (W.alloc (.cells (sc x.2.f x.2.g) 46)) := (Below.refl _ _).alloc (Nat.le_refl _) _
    exact hK _ _ ((KeepsOthers.alloc _ _).from _) ⟨hB.size, fun k hk _ => hB.block k (by have := hM1.size; omega)⟩ ⟨hZ1.later hB, hM1.alloc _⟩ ⟨W.heap.size, by have := hZ1.z; omega, Sb.new _ _ _, rfl⟩
  case body =>
    rintro l pre x a' W hl ⟨r, hr⟩ ⟨hZ1, hM1⟩ ⟨Bx, hBx, bX, rfl⟩ hlt
    have hl0 := hM1.size
    have hZn := zn_lt (n : Int) x.2.f x.2.g (by omega)
    have hv := zv_snoc (n : Int) pre x
    have ho := zo_snoc (n : Int) pre x
    have kZ := fun W => cZone (n : Int) x.2.f x.2.g W (by omega) (by omega) x.2.bd
    have kD := fun O W => cDanger x.2.f x.2.g b O W x.2.bd
    have c4 := hZ1.q.cell
    have hbq := bX.qs
    generalize zn (n : Int) x.2.f x.2.g = z at *
    generalize dg x.2.f x.2.g = d at *
    generalize dgok x.2.f = ok at *
    by_cases hz : 0 ≤ z
    · obtain ⟨j, rfl⟩ : ∃ j : Nat, z = j := ⟨z.toNat, by omega⟩
      have hj : j < n := by omega
      cases d with
      | false =>
        gi_wp2_with (first
          | (refine wpListIn_ld (by rfl) _ rfl _ _ _ rfl (by assumption) ?_)
          | (refine ⟨trivial, ?_⟩; gi_at_call 8; refine (CallsIn.inRound l (callsIn_wide.2 (kZ _))).mono ?_; rintro e W2 ⟨rfl, hB2⟩; have hZ2 := hZ1.later hB2; have hM2 := hM1.below hB2; have bX2 := bX.later hB2; have hbq2 := bX2.qs; have d3 := hZ2.m.cell; have d7 := hZ2.s.cell)
          | (refine ⟨trivial, ?_⟩; gi_at_call 12; refine (CallsIn.inRound l (callsIn_wide.2 (kD _ _ hM2.cell hM2.free))).mono ?_; rintro e W3 ⟨rfl, hM3⟩; have hZ3 := hZ2.mv hM3 hb; have e7 := hZ3.s.cell; have er := hZ3.r.cell hj; have ef := hZ3.r.frozen j))
        have e1 : (fun i => zv (n : Int) (pre ++ [x]) i) = fun i => zv (n : Int) pre i := funext fun i => by rw [hv]; simp
        exact ⟨((below_keeps hB2).trans (hM3.keeps hM2.cell)).from _, (below_kb hB2 hl0).trans (hM3.kb (Nat.le_trans hl0 hB2.size)), by rw [e1]; exact hZ3, by rw [ho, ← Bool.or_assoc]; simpa [hz] using hM2.trans hM3⟩
      | true =>
        gi_wp2_with (first
          | (refine wpListIn_ld (by rfl) _ rfl _ _ _ rfl (by assumption) ?_)
          | (refine ⟨trivial, ?_⟩; gi_at_call 8; refine (CallsIn.inRound l (callsIn_wide.2 (kZ _))).mono ?_; rintro e W2 ⟨rfl, hB2⟩; have hZ2 := hZ1.later hB2; have hM2 := hM1.below hB2; have bX2 := bX.later hB2; have hbq2 := bX2.qs; have d3 := hZ2.m.cell; have d7 := hZ2.s.cell)
          | (refine ⟨trivial, ?_⟩; gi_at_call 12; refine (CallsIn.inRound l (callsIn_wide.2 (kD _ _ hM2.cell hM2.free))).mono ?_; rintro e W3 ⟨rfl, hM3⟩; have hZ3 := hZ2.mv hM3 hb; have e7 := hZ3.s.cell; have er := hZ3.r.cell hj; have ef := hZ3.r.frozen j))
        have e1 : ∀ i, Value.int .i64 (zv (n : Int) (pre ++ [x]) i) = if i = j then .int .i64 1 else .int .i64 (zv (n : Int) pre i) := fun i => by
          rw [hv]
          by_cases h : i = j
          · subst h; simp
          · have : ¬ ((j : Int) = (i : Int)) := by omega
            simp [h, this]
        exact ⟨(((below_keeps hB2).trans (hM3.keeps hM2.cell)).trans (KeepsOthers.setCell _ _ _)).from _, ((below_kb hB2 hl0).trans (hM3.kb (Nat.le_trans hl0 hB2.size))).trans ⟨by simp [World.setCell], fun k hk _ => Below.heap_setCell _ _ _ _ (by dsimp only; omega)⟩,
          hZ3.put hb j _ e1, by rw [ho, ← Bool.or_assoc]; simpa [hz] using (hM2.trans hM3).setCell (p := ⟨w.heap.size + 1 + 1, j, none⟩) (by dsimp only; omega) (by dsimp only; omega) (.int .i64 1)⟩
    · gi_wp2_with (first
        | (refine wpListIn_ld (by rfl) _ rfl _ _ _ rfl (by assumption) ?_)
        | (refine ⟨trivial, ?_⟩; gi_at_call 8; refine (CallsIn.inRound l (callsIn_wide.2 (kZ _))).mono ?_; rintro e W2 ⟨rfl, hB2⟩; have hZ2 := hZ1.later hB2; have hM2 := hM1.below hB2; have bX2 := bX.later hB2; have hbq2 := bX2.qs; have d3 := hZ2.m.cell; have d7 := hZ2.s.cell))
      refine ⟨trivial, ?_⟩
      gi_wp2
      have e1 : (fun i => zv (n : Int) (pre ++ [x]) i) = fun i => zv (n : Int) pre i := funext fun i => by
        rw [hv]
        have : ¬ (z = (i : Int)) := by omega
        simp [this]
      exact ⟨(below_keeps hB2).from _, below_kb hB2 hl0, by rw [e1]; exact hZ2, by rw [ho, show decide (0 ≤ z) = false from decide_eq_false (by omega)]; simpa using hM2⟩
  case done =>
    rintro D ys W hD rfl ⟨hZ, hM⟩ hK
    have cS := hZ.s.cell
    gi_wp2
    refine ⟨by simp, .inl ⟨_, _, rfl, run_takeDeferred hK, ?_⟩⟩
    have hBD := belowK_b (n₀ := w.heap.size + 5) (w := W0) (by omega) W D _ (.deferred none) (by omega) hK rfl rfl
    exact ⟨_, results_tmp rfl _ _ _, w.heap.size + 1 + 1, rfl, by omega, hZ.r.of_block (hBD.block _ (by omega)), hM.belowN hBD (by omega) hb⟩
  case stop =>
    rintro D c pre W _ _ h _
    exact h.elim
/-- Where there can be no zones, there are none. -/
theorem cZonesNo (n : Int) (p : Option Addr) (len cap : Nat) (m : Value) (w : World) (hm : ∃ a, m = .pointer a) (h : n < 1 ∨ 16 < n) :
    Calls Try.prog 7 #[m, .int .i64 n, .slice p len cap] w fun e w' => e = .returned (.slice none 0 0) ∧ Below w.heap.size w w' := by
  obtain ⟨a, rfl⟩ := hm
  go_enter Try.func7, Try.ntmps7
  go_wp2
  all_goals simp [bodyPost, results, Try.results7, go_sem]
  all_goals (first | (repeat (first | with_reducible assumption | with_reducible exact Below.refl _ _ | ((with_reducible refine Below.setCell ?_ ?_ _); rotate_left; (first | exact Nat.le_refl _ | (dsimp only; omega) | (simp; done) | (simp; omega))) | with_reducible refine below_alloc ?_ _ | with_reducible apply below_drewN | with_reducible apply Below.drew | with_reducible refine below_step ?_ (by assumption))) | omega)
end Go.Proofs.Ytbicnpiifpcnjaa
