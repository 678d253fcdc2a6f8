/- Whether a car is about to be lapped. -/
import Derived.Test.YtbicnpiifpcnjaaG2
import Derived.Test.YtbicnpiifpcnjaaW6
import Derived.Test.YtbicnpiifpcnjaaW2
import Derived.Sort.CutIn
set_option linter.unusedSimpArgs false
set_option linter.unusedVariables false
namespace Go.Proofs.Ytbicnpiifpcnjaa
open Go.RowKit Go.Shelf
attribute [local go_sem] Oper.semAt_some
/-- How far one is from another, each way; is it near, and does it fit? -/
def nrb (f h : Nat → Int) : Bool := decide (ln (sat (h 0 - f 0) * sat (h 0 - f 0) + sat (h 1 - f 1) * sat (h 1 - f 1)) < 103079215104)
def nrk (f h : Nat → Int) : Bool := fx (h 0 - f 0) && fx (h 1 - f 1) && lnok (sat (h 0 - f 0) * sat (h 0 - f 0) + sat (h 1 - f 1) * sat (h 1 - f 1))
/-- Is another car asked about at all? -/
def lc (me : Car) (i : Nat) (p : Nat × Car) : Bool := !decide ((p.1 : Int) = (i : Int)) && me.g 32 && p.2.g 32 && decide (me.f 31 < p.2.f 31)
def lv (me : Car) (i : Nat) (l : List (Nat × Car)) : Bool := l.any fun p => lc me i p && nrb me.f p.2.f
def lo (me : Car) (i : Nat) (l : List (Nat × Car)) : Bool := l.any fun p => lc me i p && !nrk me.f p.2.f
theorem lv_snoc (me : Car) (i : Nat) (l : List (Nat × Car)) (p : Nat × Car) : lv me i (l ++ [p]) = (lv me i l || (lc me i p && nrb me.f p.2.f)) := by unfold lv; rw [List.any_append]; simp
theorem lo_snoc (me : Car) (i : Nat) (l : List (Nat × Car)) (p : Nat × Car) : lo me i (l ++ [p]) = (lo me i l || (lc me i p && !nrk me.f p.2.f)) := by unfold lo; rw [List.any_append]; simp
theorem setRow_alloc (w : World) (g : Nat) (c : Array Value) (o : Obj) (h : g < w.heap.size) : (w.alloc o).setRow g c = (w.setRow g c).alloc o := by
  simp only [World.setRow, World.alloc]
  congr 1
  apply Array.ext_getElem?
  intro i
  rw [Array.getElem?_modify, Array.getElem?_push, Array.getElem?_push]
  simp only [Array.size_modify, Array.getElem?_modify]
  by_cases h1 : g = i
  · subst h1
    simp [Nat.ne_of_lt h]
  · simp [h1]
set_option maxRecDepth 100000 in
@[simp] theorem put_new2 (f : Nat → Int) (g : Nat → Bool) (w : World) (o : Obj) : (storeCells ⟨w.heap.size, 0, none⟩ (sc f g).toList 0).run Try.prog ((w.alloc (.cells #[.int .i64 0, .int .i64 0, .int .i64 0, .int .i64 0, .int .i64 0, .int .i64 0, .int .i64 0, .int .i64 0, .int .i64 0, .int .i64 0, .int .i64 0, .int .i64 0, .int .i64 0, .int .i64 0, .int .i64 0, .bool false, .int .i64 0, .int .i64 0, .bool false, .int .i64 0, .int .i64 0, .bool false, .int .i64 0, .int .i64 0, .bool false, .int .i64 0, .bool false, .int .i64 0, .int .i64 0, .int .u32 0, .int .i64 0, .int .i64 0, .bool false, .bool false, .int .i64 0, .int .i64 0, .int .i64 0, .int .i64 0, .int .i64 0, .bool false, .bool false] 46)).alloc o) = .ok () ((w.alloc (.cells (sc f g) 46)).alloc o) := by
  have hg : ((w.alloc (.cells #[.int .i64 0, .int .i64 0, .int .i64 0, .int .i64 0, .int .i64 0, .int .i64 0, .int .i64 0, .int .i64 0, .int .i64 0, .int .i64 0, .int .i64 0, .int .i64 0, .int .i64 0, .int .i64 0, .int .i64 0, .bool false, .int .i64 0, .int .i64 0, .bool false, .int .i64 0, .int .i64 0, .bool false, .int .i64 0, .int .i64 0, .bool false, .int .i64 0, .bool false, .int .i64 0, .int .i64 0, .int .u32 0, .int .i64 0, .int .i64 0, .bool false, .bool false, .int .i64 0, .int .i64 0, .int .i64 0, .int .i64 0, .int .i64 0, .bool false, .bool false] 46)).alloc o).heap[w.heap.size]? = some (.cells #[.int .i64 0, .int .i64 0, .int .i64 0, .int .i64 0, .int .i64 0, .int .i64 0, .int .i64 0, .int .i64 0, .int .i64 0, .int .i64 0, .int .i64 0, .int .i64 0, .int .i64 0, .int .i64 0, .int .i64 0, .bool false, .int .i64 0, .int .i64 0, .bool false, .int .i64 0, .int .i64 0, .bool false, .int .i64 0, .int .i64 0, .bool false, .int .i64 0, .bool false, .int .i64 0, .int .i64 0, .int .u32 0, .int .i64 0, .int .i64 0, .bool false, .bool false, .int .i64 0, .int .i64 0, .int .i64 0, .int .i64 0, .int .i64 0, .bool false, .bool false] 46 (0, 0)) := by
    rw [Below.heap_alloc _ _ _ (by simp)]; exact heap_alloc_last w _
  have h := run_storeCells_from (P := Try.prog) w.heap.size 46 (sc f g).toList 0 _ _ hg (by simp) (fun v hv => (Array.all_eq_true_iff_forall_mem.1 (sc_one f g)) v (by simpa using hv))
  rw [h, setRow_alloc _ _ _ _ (by simp)]
  simp only [List.take_zero, List.nil_append, Array.toArray_toList, World.setRow_alloc_new]
/-- What the loop's body sees. -/
structure Li (b i sz : Nat) (me : Car) (F : Bool) (W : World) : Prop where
  m : Boxed W sz 23 (.pointer (some ⟨b, 0, none⟩))
  q : Boxed W (sz + 1) 3 (.int .i64 i)
  s : Sb (sz + 1 + 1) me.f me.g W
  r : Boxed W (sz + 1 + 1 + 1) 4 (.bool F)
  z : sz + 5 ≤ W.heap.size
theorem Li.later {b i sz : Nat} {me : Car} {F : Bool} {w W : World} (h : Li b i sz me F w) (hB : Below w.heap.size w W) : Li b i sz me F W := ⟨Boxed.later h.m hB, Boxed.later h.q hB, h.s.later hB, Boxed.later h.r hB, Nat.le_trans h.z hB.size⟩
theorem Li.mv {b i sz : Nat} {me : Car} {F : Bool} {o : Bool} {w W : World} (h : Li b i sz me F w) (hM : Mv b o w W) (hb : b < sz) : Li b i sz me F W := ⟨Boxed.mv h.m hM (by omega), Boxed.mv h.q hM (by omega), h.s.mv hM (by omega), Boxed.mv h.r hM (by omega), Nat.le_trans h.z hM.size⟩
theorem li_own (b i sz : Nat) (me : Car) (F : List (Nat × Car) → Bool) : Own (fun pre W => Li b i sz me (F pre) W) := fun s X Y row hs hg hr =>
  ⟨boxed_own _ _ (fun _ => _) s X Y row hs.m hg hr, boxed_own _ _ (fun _ => _) s X Y row hs.q hg hr, sb_own _ _ _ () X Y row hs.s hg hr, boxed_own _ _ (fun s => .bool (F s)) s X Y row hs.r hg hr, Nat.le_trans hs.z hg.size⟩
theorem Li.put {b i sz : Nat} {me : Car} {F G : Bool} {w : World} (h : Li b i sz me F w) : Li b i sz me G (w.setCell ⟨sz + 1 + 1 + 1, 0, none⟩ (.bool G)) := by
  have hk : ∀ k, k ≠ sz + 1 + 1 + 1 → (w.setCell ⟨sz + 1 + 1 + 1, 0, none⟩ (.bool G)).heap[k]? = w.heap[k]? := fun k hk => Below.heap_setCell _ _ _ _ hk
  exact ⟨(hk _ (by omega)).trans h.m, (hk _ (by omega)).trans h.q, (hk _ (by omega)).trans h.s, h.r.set _, by simpa [World.setCell] using h.z⟩
set_option maxRecDepth 100000 in
set_option maxHeartbeats 4000000 in
theorem cLapped (i : Nat) (a : Addr) (len cap : Nat) (S : Nat → Car) (b : Nat) (o : Bool) (w : World) (hi : i < len) (hlen : len ≤ 9223372036854775807) (hab : a.block ≠ b) (hS : Ss a len S w) (hc : w.cell? ⟨b, 0, none⟩ = some (.bool o)) (hf : w.frozen? ⟨b, 0, none⟩ = false) :
    Calls Try.prog 9 #[.pointer (some ⟨b, 0, none⟩), .slice (some a) len cap, .int .i64 i] w fun e w' =>
      e = .returned (.bool (lv (S i) i (rl S len))) ∧ Mv b (o || lo (S i) i (rl S len)) w w' := by
  have hb := lt_of_cell hc
  have ha : a.block < w.heap.size := by have := hS i hi 0 _ rfl; have := World.block_lt_of_cell? _ _ this; rwa [addB, addB] at this
  have hq : Qs (a.add (i * 41)) (S i).f (S i).g (((w.alloc (.cells #[.pointer (some ⟨b, 0, none⟩)] 23)).alloc (.cells #[.int .i64 i] 3))) := by
    have hB : Below w.heap.size w (((w.alloc (.cells #[.pointer (some ⟨b, 0, none⟩)] 23)).alloc (.cells #[.int .i64 i] 3))) := by (repeat (first | with_reducible assumption | with_reducible exact Below.refl _ _ | ((with_reducible refine Below.setCell ?_ ?_ _); rotate_left; (first | exact Nat.le_refl _ | (dsimp only; omega) | (simp; done) | (simp; omega))) | with_reducible refine below_alloc ?_ _ | with_reducible apply below_drewN | with_reducible apply Below.drew | with_reducible refine below_step ?_ (by assumption)))
    exact (hS.eq (hB.block _ ha)) i hi
  have hSl : Sl w.heap.size b (some a) len cap S w := Or.inr ⟨a, rfl, hlen, fun _ => ⟨ha, hab⟩, hS⟩
  generalize S i = me at *
  have hput := put_new2 me.f me.g (((w.alloc (.cells #[.pointer (some ⟨b, 0, none⟩)] 23)).alloc (.cells #[.int .i64 i] 3))) (.cells #[.bool false] 4)
  simp only [World.size_alloc] at hput
  refine (callsIn_wide (n := 3)).1 ?_
  refine callsIn_of_wp_marks Try.func9 rfl trivial ?_ rfl
  simp only [Try.ntmps9, List.size_toArray, List.length_cons, List.length_nil, Nat.reduceAdd, Nat.reduceSub, Array.replicate_succ, Array.replicate_zero, List.push_toArray, List.append_toArray, List.nil_append, List.cons_append]
  gi_wp2_with (first
    | (refine wpListIn_ld (by rfl) _ rfl _ _ _ rfl (by assumption) ?_)
    | (refine ⟨trivial, ?_⟩; gi_at_call 11; refine (racing_in Fence.wide (3 - 1) trivial rfl _ _ _ _).mono ?_; rintro e w' ⟨rfl, rfl⟩))
  clear hput
  obtain ⟨W0, hW0⟩ : ∃ W0, (((((w.alloc (.cells #[.pointer (some ⟨b, 0, none⟩)] 23)).alloc (.cells #[.int .i64 i] 3)).alloc (.cells (sc me.f me.g) 46)).alloc (.cells #[.bool false] 4)).alloc (.cells #[.slice (some a) len cap] 22)) = W0 := ⟨_, rfl⟩
  have hsz : W0.heap.size = w.heap.size + 5 := by rw [← hW0]; simp
  have hB0 : Below w.heap.size w W0 := by rw [← hW0]; (repeat (first | with_reducible assumption | with_reducible exact Below.refl _ _ | ((with_reducible refine Below.setCell ?_ ?_ _); rotate_left; (first | exact Nat.le_refl _ | (dsimp only; omega) | (simp; done) | (simp; omega))) | with_reducible refine below_alloc ?_ _ | with_reducible apply below_drewN | with_reducible apply Below.drew | with_reducible refine below_step ?_ (by assumption)))
  have bS : Boxed W0 (w.heap.size + 1 + 1 + 1 + 1) 22 (.slice (some a) len cap) := by
    rw [← hW0]
    have := Boxed.new ((((w.alloc (.cells #[.pointer (some ⟨b, 0, none⟩)] 23)).alloc (.cells #[.int .i64 i] 3)).alloc (.cells (sc me.f me.g) 46)).alloc (.cells #[.bool false] 4)) 22 (.slice (some a) len cap)
    simpa only [World.size_alloc] using this
  have hZ : Li b i w.heap.size me (lv me i []) W0 := by
    rw [← hW0]
    have z1 := Boxed.new w 23 (.pointer (some ⟨b, 0, none⟩))
    have z2 := Boxed.new (w.alloc (.cells #[.pointer (some ⟨b, 0, none⟩)] 23)) 3 (.int .i64 i)
    have z3 := Sb.new me.f me.g ((w.alloc (.cells #[.pointer (some ⟨b, 0, none⟩)] 23)).alloc (.cells #[.int .i64 i] 3))
    have z4 := Boxed.new (((w.alloc (.cells #[.pointer (some ⟨b, 0, none⟩)] 23)).alloc (.cells #[.int .i64 i] 3)).alloc (.cells (sc me.f me.g) 46)) 4 (.bool false)
    simp only [World.size_alloc] at z2 z3 z4
    exact ⟨(((z1.alloc _).alloc _).alloc _).alloc _, ((z2.alloc _).alloc _).alloc _ , (z3.alloc _).alloc _, z4.alloc _, by simp⟩
  have hM0 : Mv b (o || lo me i []) w W0 := by rw [show lo me i [] = false from rfl, Bool.or_false]; exact (Mv.refl hc hf).below hB0
  rw [hW0]
  clear hW0 hq
  refine wpIn_rangeFunc_ownH rfl (by omega) (gf := 15) (lb := #[.pointer (some ⟨w.heap.size + 1 + 1 + 1 + 1, 0, none⟩)]) rfl trivial (enters_of Try.func15 (by kernel_rfl) rfl)
    (racing_stops Fence.wide (3 - 1) trivial rfl (by omega) (w.heap.size + 1 + 1 + 1 + 1) w.heap.size b (some a) len cap S W0 (by omega) (by omega) bS.cell (hSl.kb (fun k hk _ => hB0.block k hk))) kb_t (kb_b (by omega)) (Below.refl _ _) (fun _ => rfl)
    (fun pre W => Li b i w.heap.size me (lv me i pre) W ∧ Mv b (o || lo me i pre) w W)
    (fun _ _ _ => False)
    (OwnFrom.and (Own.from (li_own b i w.heap.size me (fun pre => lv me i pre)) _) (ownFrom_mv (fun pre => o || lo me i pre) (by omega) (by omega)))
    (fun _ _ _ _ _ hs _ _ => hs)
    ⟨hZ, hM0⟩
    (fun x a' W => ∃ Bx, w.heap.size + 4 < Bx ∧ Sb Bx x.2.f x.2.g W ∧ a' = { tmps := #[.pointer (some ⟨b, 0, none⟩), .slice (some a) len cap, .int .i64 i, .pointer (some ⟨w.heap.size, 0, none⟩), undef, .pointer (some ⟨w.heap.size + 1, 0, none⟩), .bool false, .pointer (some ⟨w.heap.size + 1 + 1, 0, none⟩), .pointer (some ⟨w.heap.size + 1 + 1 + 1, 0, none⟩), .int .i64 (x.1 : Int), .pointer (some ⟨Bx, 0, none⟩), undef, undef, .slice (some a) len cap, .int .i64 i, .pointer (some (a.add (i * 41))), .agg (sc me.f me.g), .slice (some a) len cap, .func (.func 15) #[] #[.pointer (some ⟨w.heap.size + 1 + 1 + 1 + 1, 0, none⟩)], .int .i64 (x.1 : Int), .agg (sc x.2.f x.2.g), undef, undef, undef, undef, undef, undef, undef, undef, undef, undef, undef, undef, undef, undef, undef, undef, undef, undef, undef, undef, undef, undef, undef, undef, undef, undef, undef, undef, undef, undef, undef, undef, undef, undef, undef, undef, undef, undef, undef, undef, undef, undef, undef, undef, undef, undef], defers := [] })
    (fun x a' _ X Y row hs hg hr => by obtain ⟨Bx, h1, h2, h3⟩ := hs; exact ⟨Bx, h1, sb_own Bx _ _ () X Y row h2 hg (fun r e => (hr r e).2), h3⟩)
    ?assign ?body ?done ?stop
  case assign =>
    rintro l pre x W K ⟨hZ1, hM1⟩ hK
    dsimp only [encs]
    gi_wp2
    have hB : Below W.heap.size W (W.alloc (.cells (sc x.2.f x.2.g) 46)) := (Below.refl _ _).alloc (Nat.le_refl _) _
    exact hK _ _ ((KeepsOthers.alloc _ _).from _) ⟨hB.size, fun k hk _ => hB.block k (by have := hM1.size; omega)⟩ ⟨hZ1.later hB, hM1.alloc _⟩ ⟨W.heap.size, by have := hZ1.z; omega, Sb.new _ _ _, rfl⟩
  case body =>
    rintro l pre x a' W hl ⟨r, hr⟩ ⟨hZ1, hM1⟩ ⟨Bx, hBx, bX, rfl⟩ hlt
    have hl0 := hM1.size
    have hv := lv_snoc me i pre x
    have ho := lo_snoc me i pre x
    have c5 := hZ1.q.cell
    have m31 := (hZ1.s.cell 31).trans (sc_31 _ _)
    have m32 := (hZ1.s.cell 32).trans (sc_32 _ _)
    have x31 := (bX.cell 31).trans (sc_31 _ _)
    have x32 := (bX.cell 32).trans (sc_32 _ _)
    cases hlc : lc me i x with
    | false =>
      rw [hlc] at hv ho
      simp only [Bool.false_and, Bool.or_false] at hv ho
      have hEnd : ownPostG W0.heap.size (Kb w.heap.size b) (fun pre W => Li b i w.heap.size me (lv me i pre) W ∧ Mv b (o || lo me i pre) w W) (fun _ _ _ => False) (pre ++ [x]) W .normal { tmps := #[], defers := [] } W := by
        refine ⟨KeepsFrom.refl _ _, ⟨Nat.le_refl _, fun _ _ _ => rfl⟩, ?_, ?_⟩
        · rw [hv]; exact hZ1
        · rw [ho]; exact hM1
      unfold lc at hlc
      generalize me.f 31 = md at *
      generalize me.g 32 = mr at *
      generalize x.2.f 31 = xd at *
      generalize x.2.g 32 = xr at *
      gi_wp2
      all_goals (first | exact hEnd | (exfalso; simp_all; done) | (exfalso; simp_all; omega))
    | true =>
      rw [hlc] at hv ho
      simp only [Bool.true_and] at hv ho
      unfold lc at hlc
      simp only [Bool.and_eq_true, Bool.not_eq_true', decide_eq_false_iff_not, decide_eq_true_eq] at hlc
      obtain ⟨⟨⟨hi1, hi2⟩, hi3⟩, hi4⟩ := hlc
      rw [hi2] at m32
      rw [hi3] at x32
      have m0 := (hZ1.s.cell 0).trans (sc_0 _ _)
      have m1 := (hZ1.s.cell 1).trans (sc_1 _ _)
      have m2 := (hZ1.s.cell 2).trans (sc_2 _ _)
      have x0 := (bX.cell 0).trans (sc_0 _ _)
      have x1 := (bX.cell 1).trans (sc_1 _ _)
      have x2 := (bX.cell 2).trans (sc_2 _ _)
      have hmb := me.bd
      have hxb := x.2.bd
      have hz1 := hZ1.z
      have hBxl := bX.lt
      gi_upto_region 6 with (fail)
      · exfalso; simp_all; omega
      gi_cut [11, 12] from 21 (fun p11 p12 wx => ∃ g0 g1 : Nat, p11 = .pointer (some ⟨g0, 0, none⟩) ∧ p12 = .pointer (some ⟨g1, 0, none⟩) ∧ W.heap.size ≤ g0 ∧ W.heap.size ≤ g1 ∧ Bk g0 0 [.int .i64 (me.f 0), .int .i64 (me.f 1), .int .i64 (me.f 2)] wx ∧ Bk g1 0 [.int .i64 (x.2.f 0), .int .i64 (x.2.f 1), .int .i64 (x.2.f 2)] wx ∧ Below W.heap.size W wx)
      case first =>
        refine wpIn_region_round (S := (fun (w' : World) => w'.cell? ⟨w.heap.size + 1 + 1, 0, none⟩ = some (.int .i64 (me.f 0)) ∧ w'.cell? ⟨w.heap.size + 1 + 1, 1, none⟩ = some (.int .i64 (me.f 1)) ∧ w'.cell? ⟨w.heap.size + 1 + 1, 2, none⟩ = some (.int .i64 (me.f 2)) ∧ w'.cell? ⟨Bx, 0, none⟩ = some (.int .i64 (x.2.f 0)) ∧ w'.cell? ⟨Bx, 1, none⟩ = some (.int .i64 (x.2.f 1)) ∧ w'.cell? ⟨Bx, 2, none⟩ = some (.int .i64 (x.2.f 2)))) (by kernel_rfl) (by kernel_rfl) ⟨(by first | (simp (maxDischargeDepth := 6) [go_sem, *]; done)), (by first | (simp (maxDischargeDepth := 6) [go_sem, *]; done)), (by first | (simp (maxDischargeDepth := 6) [go_sem, *]; done)), (by first | (simp (maxDischargeDepth := 6) [go_sem, *]; done)), (by first | (simp (maxDischargeDepth := 6) [go_sem, *]; done)), (by first | (simp (maxDischargeDepth := 6) [go_sem, *]; done))⟩ (fun hHeld => ?_)
        refine wpAnyH_take (i := 0) (v := ?_) (by simp only [List.getElem?_toArray, List.getElem?_cons_succ, List.getElem?_cons_zero]; rfl) (by kernel_rfl) (by kernel_rfl) (by kernel_rfl) (fun _ _ _ h => h) (Or.inl ⟨by rfl, ?_⟩) (by assumption) ?_
        rotate_left
        · intro w hSw; (try dsimp only at hSw); go_simp; try with_reducible rfl
        try simp only [Act.put, List.setIfInBounds_toArray, List.set_cons_zero, List.set_cons_succ]
        refine wpAnyH_take (i := 1) (v := ?_) (by simp only [List.getElem?_toArray, List.getElem?_cons_succ, List.getElem?_cons_zero]; rfl) (by kernel_rfl) (by kernel_rfl) (by kernel_rfl) (fun _ _ _ h => h) (Or.inl ⟨by rfl, ?_⟩) (by assumption) ?_
        rotate_left
        · intro w hSw; (try dsimp only at hSw); go_simp; try with_reducible rfl
        try simp only [Act.put, List.setIfInBounds_toArray, List.set_cons_zero, List.set_cons_succ]
        refine wpAnyH_take (i := 3) (v := ?_) (by simp only [List.getElem?_toArray, List.getElem?_cons_succ, List.getElem?_cons_zero]; rfl) (by kernel_rfl) (by kernel_rfl) (by kernel_rfl) (fun _ _ _ h => h) (Or.inl ⟨by rfl, ?_⟩) (by assumption) ?_
        rotate_left
        · intro w hSw; (try dsimp only at hSw); go_simp; try with_reducible rfl
        try simp only [Act.put, List.setIfInBounds_toArray, List.set_cons_zero, List.set_cons_succ]
        refine wpAnyH_take (i := 4) (v := ?_) (by simp only [List.getElem?_toArray, List.getElem?_cons_succ, List.getElem?_cons_zero]; rfl) (by kernel_rfl) (by kernel_rfl) (by kernel_rfl) (fun _ _ _ h => h) (Or.inl ⟨by rfl, ?_⟩) (by assumption) ?_
        rotate_left
        · intro w hSw; (try dsimp only at hSw); go_simp; try with_reducible rfl
        try simp only [Act.put, List.setIfInBounds_toArray, List.set_cons_zero, List.set_cons_succ]
        refine wpAnyH_take (i := 2) (v := ?_) (by simp only [List.getElem?_toArray, List.getElem?_cons_succ, List.getElem?_cons_zero]; rfl) (by kernel_rfl) (by kernel_rfl) (by kernel_rfl) (fun _ _ _ h => h) (Or.inl ⟨by rfl, ?_⟩) (by assumption) ?_
        rotate_left
        · intro w hSw; (try dsimp only at hSw); go_simp; try with_reducible rfl
        try simp only [Act.put, List.setIfInBounds_toArray, List.set_cons_zero, List.set_cons_succ]
        refine wpAnyH_take (i := 5) (v := ?_) (by simp only [List.getElem?_toArray, List.getElem?_cons_succ, List.getElem?_cons_zero]; rfl) (by kernel_rfl) (by kernel_rfl) (by kernel_rfl) (fun _ _ _ h => h) (Or.inl ⟨by rfl, ?_⟩) (by assumption) ?_
        rotate_left
        · intro w hSw; (try dsimp only at hSw); go_simp; try with_reducible rfl
        try simp only [Act.put, List.setIfInBounds_toArray, List.set_cons_zero, List.set_cons_succ]
        refine wpAnyH_ready (rs := [6, 7]) (by kernel_rfl) (by simp) ?_
        refine AllReadyH.cons rfl (fun K hK => ?_) ?_
        · have hOld := hHeld; clear hHeld
          go_simp
          (try go_wp2_with (fail))
          refine hK.out _ _ ⟨(by first | exact mv_cell hM (by first | (dsimp only; omega) | (simp; omega)) hOld.1 | exact cell_later hM hOld.1 | exact HT.cb | exact HT.cc | (simp (maxDischargeDepth := 6) [go_sem, *]; done)), (by first | exact mv_cell hM (by first | (dsimp only; omega) | (simp; omega)) hOld.2.1 | exact cell_later hM hOld.2.1 | exact HT.cb | exact HT.cc | (simp (maxDischargeDepth := 6) [go_sem, *]; done)), (by first | exact mv_cell hM (by first | (dsimp only; omega) | (simp; omega)) hOld.2.2.1 | exact cell_later hM hOld.2.2.1 | exact HT.cb | exact HT.cc | (simp (maxDischargeDepth := 6) [go_sem, *]; done)), (by first | exact mv_cell hM (by first | (dsimp only; omega) | (simp; omega)) hOld.2.2.2.1 | exact cell_later hM hOld.2.2.2.1 | exact HT.cb | exact HT.cc | (simp (maxDischargeDepth := 6) [go_sem, *]; done)), (by first | exact mv_cell hM (by first | (dsimp only; omega) | (simp; omega)) hOld.2.2.2.2.1 | exact cell_later hM hOld.2.2.2.2.1 | exact HT.cb | exact HT.cc | (simp (maxDischargeDepth := 6) [go_sem, *]; done)), (by first | exact mv_cell hM (by first | (dsimp only; omega) | (simp; omega)) hOld.2.2.2.2.2 | exact cell_later hM hOld.2.2.2.2.2 | exact HT.cb | exact HT.cc | (simp (maxDischargeDepth := 6) [go_sem, *]; done))⟩ (fun hHeld => ?_)
          clear hK K hOld
          try simp only [Act.put, List.setIfInBounds_toArray, List.set_cons_zero, List.set_cons_succ]
          refine wpAnyH_ready (rs := [7]) (by kernel_rfl) (by simp) ?_
          refine AllReadyH.cons rfl (fun K hK => ?_) AllReadyH.nil
          have hOld := hHeld; clear hHeld
          go_simp
          (try go_wp2_with (fail))
          refine hK.out _ _ ⟨(by first | exact mv_cell hM (by first | (dsimp only; omega) | (simp; omega)) hOld.1 | exact cell_later hM hOld.1 | exact HT.cb | exact HT.cc | (simp (maxDischargeDepth := 6) [go_sem, *]; done)), (by first | exact mv_cell hM (by first | (dsimp only; omega) | (simp; omega)) hOld.2.1 | exact cell_later hM hOld.2.1 | exact HT.cb | exact HT.cc | (simp (maxDischargeDepth := 6) [go_sem, *]; done)), (by first | exact mv_cell hM (by first | (dsimp only; omega) | (simp; omega)) hOld.2.2.1 | exact cell_later hM hOld.2.2.1 | exact HT.cb | exact HT.cc | (simp (maxDischargeDepth := 6) [go_sem, *]; done)), (by first | exact mv_cell hM (by first | (dsimp only; omega) | (simp; omega)) hOld.2.2.2.1 | exact cell_later hM hOld.2.2.2.1 | exact HT.cb | exact HT.cc | (simp (maxDischargeDepth := 6) [go_sem, *]; done)), (by first | exact mv_cell hM (by first | (dsimp only; omega) | (simp; omega)) hOld.2.2.2.2.1 | exact cell_later hM hOld.2.2.2.2.1 | exact HT.cb | exact HT.cc | (simp (maxDischargeDepth := 6) [go_sem, *]; done)), (by first | exact mv_cell hM (by first | (dsimp only; omega) | (simp; omega)) hOld.2.2.2.2.2 | exact cell_later hM hOld.2.2.2.2.2 | exact HT.cb | exact HT.cc | (simp (maxDischargeDepth := 6) [go_sem, *]; done))⟩ (fun hHeld => ?_)
          clear hK K hOld
          try simp only [Act.put, List.setIfInBounds_toArray, List.set_cons_zero, List.set_cons_succ]
          refine wpAnyH_ready (rs := [8]) (by kernel_rfl) (by simp) ?_
          refine AllReadyH.cons rfl (fun K hK => ?_) AllReadyH.nil
          have hOld := hHeld; clear hHeld
          go_simp
          (try go_wp2_with (fail))
          refine hK.out _ _ ⟨(by first | exact mv_cell hM (by first | (dsimp only; omega) | (simp; omega)) hOld.1 | exact cell_later hM hOld.1 | exact HT.cb | exact HT.cc | (simp (maxDischargeDepth := 6) [go_sem, *]; done)), (by first | exact mv_cell hM (by first | (dsimp only; omega) | (simp; omega)) hOld.2.1 | exact cell_later hM hOld.2.1 | exact HT.cb | exact HT.cc | (simp (maxDischargeDepth := 6) [go_sem, *]; done)), (by first | exact mv_cell hM (by first | (dsimp only; omega) | (simp; omega)) hOld.2.2.1 | exact cell_later hM hOld.2.2.1 | exact HT.cb | exact HT.cc | (simp (maxDischargeDepth := 6) [go_sem, *]; done)), (by first | exact mv_cell hM (by first | (dsimp only; omega) | (simp; omega)) hOld.2.2.2.1 | exact cell_later hM hOld.2.2.2.1 | exact HT.cb | exact HT.cc | (simp (maxDischargeDepth := 6) [go_sem, *]; done)), (by first | exact mv_cell hM (by first | (dsimp only; omega) | (simp; omega)) hOld.2.2.2.2.1 | exact cell_later hM hOld.2.2.2.2.1 | exact HT.cb | exact HT.cc | (simp (maxDischargeDepth := 6) [go_sem, *]; done)), (by first | exact mv_cell hM (by first | (dsimp only; omega) | (simp; omega)) hOld.2.2.2.2.2 | exact cell_later hM hOld.2.2.2.2.2 | exact HT.cb | exact HT.cc | (simp (maxDischargeDepth := 6) [go_sem, *]; done))⟩ (fun hHeld => ?_)
          clear hK K hOld
          try simp only [Act.put, List.setIfInBounds_toArray, List.set_cons_zero, List.set_cons_succ]
          refine wpAnyH_ready (rs := [9]) (by kernel_rfl) (by simp) ?_
          refine AllReadyH.cons rfl (fun K hK => ?_) AllReadyH.nil
          have hOld := hHeld; clear hHeld
          go_simp
          (try go_wp2_with (fail))
          refine hK.out _ _ ⟨(by first | exact mv_cell hM (by first | (dsimp only; omega) | (simp; omega)) hOld.1 | exact cell_later hM hOld.1 | exact HT.cb | exact HT.cc | (simp (maxDischargeDepth := 6) [go_sem, *]; done)), (by first | exact mv_cell hM (by first | (dsimp only; omega) | (simp; omega)) hOld.2.1 | exact cell_later hM hOld.2.1 | exact HT.cb | exact HT.cc | (simp (maxDischargeDepth := 6) [go_sem, *]; done)), (by first | exact mv_cell hM (by first | (dsimp only; omega) | (simp; omega)) hOld.2.2.1 | exact cell_later hM hOld.2.2.1 | exact HT.cb | exact HT.cc | (simp (maxDischargeDepth := 6) [go_sem, *]; done)), (by first | exact mv_cell hM (by first | (dsimp only; omega) | (simp; omega)) hOld.2.2.2.1 | exact cell_later hM hOld.2.2.2.1 | exact HT.cb | exact HT.cc | (simp (maxDischargeDepth := 6) [go_sem, *]; done)), (by first | exact mv_cell hM (by first | (dsimp only; omega) | (simp; omega)) hOld.2.2.2.2.1 | exact cell_later hM hOld.2.2.2.2.1 | exact HT.cb | exact HT.cc | (simp (maxDischargeDepth := 6) [go_sem, *]; done)), (by first | exact mv_cell hM (by first | (dsimp only; omega) | (simp; omega)) hOld.2.2.2.2.2 | exact cell_later hM hOld.2.2.2.2.2 | exact HT.cb | exact HT.cc | (simp (maxDischargeDepth := 6) [go_sem, *]; done))⟩ (fun hHeld => ?_)
          clear hK K hOld
          try simp only [Act.put, List.setIfInBounds_toArray, List.set_cons_zero, List.set_cons_succ]
          refine wpAnyH_done (by kernel_rfl) ?_ _
          (try refine NoPanic.normal ?_); (try refine Only.normal ?_)
          (try clear q0); (try clear q1); (try clear q2); (try clear q3); (try clear q4); (try clear q5); obtain ⟨q0, q1, q2, q3, q4, q5⟩ := hHeld
          gi_wp2
          gi_meet
          exact ⟨_, _, rfl, rfl, by omega, by omega, by (simp [Bk, go_sem]; done), by (simp [Bk, go_sem]; done), by (repeat (first | with_reducible assumption | with_reducible exact Below.refl _ _ | ((with_reducible refine Below.setCell ?_ ?_ _); rotate_left; (first | exact Nat.le_refl _ | (dsimp only; omega) | (simp; done) | (simp; omega))) | with_reducible refine below_alloc ?_ _ | with_reducible apply below_drewN | with_reducible apply Below.drew | with_reducible refine below_step ?_ (by assumption)))⟩
        refine AllReadyH.cons rfl (fun K hK => ?_) ?_
        · have hOld := hHeld; clear hHeld
          go_simp
          (try go_wp2_with (fail))
          refine hK.out _ _ ⟨(by first | exact mv_cell hM (by first | (dsimp only; omega) | (simp; omega)) hOld.1 | exact cell_later hM hOld.1 | exact HT.cb | exact HT.cc | (simp (maxDischargeDepth := 6) [go_sem, *]; done)), (by first | exact mv_cell hM (by first | (dsimp only; omega) | (simp; omega)) hOld.2.1 | exact cell_later hM hOld.2.1 | exact HT.cb | exact HT.cc | (simp (maxDischargeDepth := 6) [go_sem, *]; done)), (by first | exact mv_cell hM (by first | (dsimp only; omega) | (simp; omega)) hOld.2.2.1 | exact cell_later hM hOld.2.2.1 | exact HT.cb | exact HT.cc | (simp (maxDischargeDepth := 6) [go_sem, *]; done)), (by first | exact mv_cell hM (by first | (dsimp only; omega) | (simp; omega)) hOld.2.2.2.1 | exact cell_later hM hOld.2.2.2.1 | exact HT.cb | exact HT.cc | (simp (maxDischargeDepth := 6) [go_sem, *]; done)), (by first | exact mv_cell hM (by first | (dsimp only; omega) | (simp; omega)) hOld.2.2.2.2.1 | exact cell_later hM hOld.2.2.2.2.1 | exact HT.cb | exact HT.cc | (simp (maxDischargeDepth := 6) [go_sem, *]; done)), (by first | exact mv_cell hM (by first | (dsimp only; omega) | (simp; omega)) hOld.2.2.2.2.2 | exact cell_later hM hOld.2.2.2.2.2 | exact HT.cb | exact HT.cc | (simp (maxDischargeDepth := 6) [go_sem, *]; done))⟩ (fun hHeld => ?_)
          clear hK K hOld
          try simp only [Act.put, List.setIfInBounds_toArray, List.set_cons_zero, List.set_cons_succ]
          refine wpAnyH_ready (rs := [6]) (by kernel_rfl) (by simp) ?_
          refine AllReadyH.cons rfl (fun K hK => ?_) AllReadyH.nil
          have hOld := hHeld; clear hHeld
          go_simp
          (try go_wp2_with (fail))
          refine hK.out _ _ ⟨(by first | exact mv_cell hM (by first | (dsimp only; omega) | (simp; omega)) hOld.1 | exact cell_later hM hOld.1 | exact HT.cb | exact HT.cc | (simp (maxDischargeDepth := 6) [go_sem, *]; done)), (by first | exact mv_cell hM (by first | (dsimp only; omega) | (simp; omega)) hOld.2.1 | exact cell_later hM hOld.2.1 | exact HT.cb | exact HT.cc | (simp (maxDischargeDepth := 6) [go_sem, *]; done)), (by first | exact mv_cell hM (by first | (dsimp only; omega) | (simp; omega)) hOld.2.2.1 | exact cell_later hM hOld.2.2.1 | exact HT.cb | exact HT.cc | (simp (maxDischargeDepth := 6) [go_sem, *]; done)), (by first | exact mv_cell hM (by first | (dsimp only; omega) | (simp; omega)) hOld.2.2.2.1 | exact cell_later hM hOld.2.2.2.1 | exact HT.cb | exact HT.cc | (simp (maxDischargeDepth := 6) [go_sem, *]; done)), (by first | exact mv_cell hM (by first | (dsimp only; omega) | (simp; omega)) hOld.2.2.2.2.1 | exact cell_later hM hOld.2.2.2.2.1 | exact HT.cb | exact HT.cc | (simp (maxDischargeDepth := 6) [go_sem, *]; done)), (by first | exact mv_cell hM (by first | (dsimp only; omega) | (simp; omega)) hOld.2.2.2.2.2 | exact cell_later hM hOld.2.2.2.2.2 | exact HT.cb | exact HT.cc | (simp (maxDischargeDepth := 6) [go_sem, *]; done))⟩ (fun hHeld => ?_)
          clear hK K hOld
          try simp only [Act.put, List.setIfInBounds_toArray, List.set_cons_zero, List.set_cons_succ]
          refine wpAnyH_ready (rs := [8]) (by kernel_rfl) (by simp) ?_
          refine AllReadyH.cons rfl (fun K hK => ?_) AllReadyH.nil
          have hOld := hHeld; clear hHeld
          go_simp
          (try go_wp2_with (fail))
          refine hK.out _ _ ⟨(by first | exact mv_cell hM (by first | (dsimp only; omega) | (simp; omega)) hOld.1 | exact cell_later hM hOld.1 | exact HT.cb | exact HT.cc | (simp (maxDischargeDepth := 6) [go_sem, *]; done)), (by first | exact mv_cell hM (by first | (dsimp only; omega) | (simp; omega)) hOld.2.1 | exact cell_later hM hOld.2.1 | exact HT.cb | exact HT.cc | (simp (maxDischargeDepth := 6) [go_sem, *]; done)), (by first | exact mv_cell hM (by first | (dsimp only; omega) | (simp; omega)) hOld.2.2.1 | exact cell_later hM hOld.2.2.1 | exact HT.cb | exact HT.cc | (simp (maxDischargeDepth := 6) [go_sem, *]; done)), (by first | exact mv_cell hM (by first | (dsimp only; omega) | (simp; omega)) hOld.2.2.2.1 | exact cell_later hM hOld.2.2.2.1 | exact HT.cb | exact HT.cc | (simp (maxDischargeDepth := 6) [go_sem, *]; done)), (by first | exact mv_cell hM (by first | (dsimp only; omega) | (simp; omega)) hOld.2.2.2.2.1 | exact cell_later hM hOld.2.2.2.2.1 | exact HT.cb | exact HT.cc | (simp (maxDischargeDepth := 6) [go_sem, *]; done)), (by first | exact mv_cell hM (by first | (dsimp only; omega) | (simp; omega)) hOld.2.2.2.2.2 | exact cell_later hM hOld.2.2.2.2.2 | exact HT.cb | exact HT.cc | (simp (maxDischargeDepth := 6) [go_sem, *]; done))⟩ (fun hHeld => ?_)
          clear hK K hOld
          try simp only [Act.put, List.setIfInBounds_toArray, List.set_cons_zero, List.set_cons_succ]
          refine wpAnyH_ready (rs := [9]) (by kernel_rfl) (by simp) ?_
          refine AllReadyH.cons rfl (fun K hK => ?_) AllReadyH.nil
          have hOld := hHeld; clear hHeld
          go_simp
          (try go_wp2_with (fail))
          refine hK.out _ _ ⟨(by first | exact mv_cell hM (by first | (dsimp only; omega) | (simp; omega)) hOld.1 | exact cell_later hM hOld.1 | exact HT.cb | exact HT.cc | (simp (maxDischargeDepth := 6) [go_sem, *]; done)), (by first | exact mv_cell hM (by first | (dsimp only; omega) | (simp; omega)) hOld.2.1 | exact cell_later hM hOld.2.1 | exact HT.cb | exact HT.cc | (simp (maxDischargeDepth := 6) [go_sem, *]; done)), (by first | exact mv_cell hM (by first | (dsimp only; omega) | (simp; omega)) hOld.2.2.1 | exact cell_later hM hOld.2.2.1 | exact HT.cb | exact HT.cc | (simp (maxDischargeDepth := 6) [go_sem, *]; done)), (by first | exact mv_cell hM (by first | (dsimp only; omega) | (simp; omega)) hOld.2.2.2.1 | exact cell_later hM hOld.2.2.2.1 | exact HT.cb | exact HT.cc | (simp (maxDischargeDepth := 6) [go_sem, *]; done)), (by first | exact mv_cell hM (by first | (dsimp only; omega) | (simp; omega)) hOld.2.2.2.2.1 | exact cell_later hM hOld.2.2.2.2.1 | exact HT.cb | exact HT.cc | (simp (maxDischargeDepth := 6) [go_sem, *]; done)), (by first | exact mv_cell hM (by first | (dsimp only; omega) | (simp; omega)) hOld.2.2.2.2.2 | exact cell_later hM hOld.2.2.2.2.2 | exact HT.cb | exact HT.cc | (simp (maxDischargeDepth := 6) [go_sem, *]; done))⟩ (fun hHeld => ?_)
          clear hK K hOld
          try simp only [Act.put, List.setIfInBounds_toArray, List.set_cons_zero, List.set_cons_succ]
          refine wpAnyH_done (by kernel_rfl) ?_ _
          (try refine NoPanic.normal ?_); (try refine Only.normal ?_)
          (try clear q0); (try clear q1); (try clear q2); (try clear q3); (try clear q4); (try clear q5); obtain ⟨q0, q1, q2, q3, q4, q5⟩ := hHeld
          gi_wp2
          gi_meet
          exact ⟨_, _, rfl, rfl, by omega, by omega, by (simp [Bk, go_sem]; done), by (simp [Bk, go_sem]; done), by (repeat (first | with_reducible assumption | with_reducible exact Below.refl _ _ | ((with_reducible refine Below.setCell ?_ ?_ _); rotate_left; (first | exact Nat.le_refl _ | (dsimp only; omega) | (simp; done) | (simp; omega))) | with_reducible refine below_alloc ?_ _ | with_reducible apply below_drewN | with_reducible apply Below.drew | with_reducible refine below_step ?_ (by assumption)))⟩
        exact AllReadyH.nil
      case rest =>
        obtain ⟨g0, g1, rfl, rfl, hg0, hg1, B0, B1, hB2⟩ := hcut
        rename World => W2
        have hZ2 := hZ1.later hB2
        have hM2 := hM1.below hB2
        have d3 := hZ2.m.cell
        have hd0 := World.block_lt_of_cell? _ _ B0.1
        have hd1 := World.block_lt_of_cell? _ _ B1.1
        simp only [Bk] at B0 B1
        have hnz := hZ2.z
        clear hZ1 hM1 bX m31 m32 x31 x32 m0 m1 m2 x0 x1 x2 c5
        have k1 := fun O W => cFSub (x.2.f 0) (me.f 0) b O W (hxb 0).1 (hxb 0).2 (hmb 0).1 (hmb 0).2
        have k2 := fun O W => cFSub (x.2.f 1) (me.f 1) b O W (hxb 1).1 (hxb 1).2 (hmb 1).1 (hmb 1).2
        have s0 := sat_lo (x.2.f 0 - me.f 0); have s0' := sat_hi (x.2.f 0 - me.f 0)
        have s1 := sat_lo (x.2.f 1 - me.f 1); have s1' := sat_hi (x.2.f 1 - me.f 1)
        unfold nrb at hv
        unfold nrk at ho
        generalize sat (x.2.f 0 - me.f 0) = dx at *
        generalize sat (x.2.f 1 - me.f 1) = dy at *
        generalize fx (x.2.f 0 - me.f 0) = fa at *
        generalize fx (x.2.f 1 - me.f 1) = fb at *
        have k3 := fun O W => cLen2 dx dy b O W s0 s0' s1 s1'
        generalize ln (dx * dx + dy * dy) = ds at *
        generalize lnok (dx * dx + dy * dy) = fc at *
        have HM := Mv.refl hM2.cell hM2.free
        gi_upto_region 7 with (fail)
        gi_cut [65] from 21 (fun p65 wx => p65 = .bool (decide (ds < 103079215104)) ∧ Mv b (o || lo me i pre || !fa || !fb || !fc) W2 wx)
        case first =>
          refine wpIn_region_round (S := (fun (w' : World) => w'.cell? ⟨w.heap.size, 0, none⟩ = some (.pointer (some ⟨b, 0, none⟩)) ∧ w'.cell? ⟨g0, 0, none⟩ = some (.int .i64 (me.f 0)) ∧ w'.cell? ⟨g0, 1, none⟩ = some (.int .i64 (me.f 1)) ∧ w'.cell? ⟨g1, 0, none⟩ = some (.int .i64 (x.2.f 0)) ∧ w'.cell? ⟨g1, 1, none⟩ = some (.int .i64 (x.2.f 1)))) (by kernel_rfl) (by kernel_rfl) ⟨(by first | (simp (maxDischargeDepth := 6) [go_sem, *]; done)), (by first | (simp (maxDischargeDepth := 6) [go_sem, *]; done)), (by first | (simp (maxDischargeDepth := 6) [go_sem, *]; done)), (by first | (simp (maxDischargeDepth := 6) [go_sem, *]; done)), (by first | (simp (maxDischargeDepth := 6) [go_sem, *]; done))⟩ (fun hHeld => ?_)
          refine wpAnyH_take (i := 2) (v := ?_) (by simp only [List.getElem?_toArray, List.getElem?_cons_succ, List.getElem?_cons_zero]; rfl) (by kernel_rfl) (by kernel_rfl) (by kernel_rfl) (fun _ _ _ h => h) (Or.inl ⟨by rfl, ?_⟩) (by assumption) ?_
          rotate_left
          · intro w hSw; (try dsimp only at hSw); go_simp; try with_reducible rfl
          try simp only [Act.put, List.setIfInBounds_toArray, List.set_cons_zero, List.set_cons_succ]
          refine wpAnyH_take (i := 4) (v := ?_) (by simp only [List.getElem?_toArray, List.getElem?_cons_succ, List.getElem?_cons_zero]; rfl) (by kernel_rfl) (by kernel_rfl) (by kernel_rfl) (fun _ _ _ h => h) (Or.inl ⟨by rfl, ?_⟩) (by assumption) ?_
          rotate_left
          · intro w hSw; (try dsimp only at hSw); go_simp; try with_reducible rfl
          try simp only [Act.put, List.setIfInBounds_toArray, List.set_cons_zero, List.set_cons_succ]
          refine wpAnyH_take (i := 8) (v := ?_) (by simp only [List.getElem?_toArray, List.getElem?_cons_succ, List.getElem?_cons_zero]; rfl) (by kernel_rfl) (by kernel_rfl) (by kernel_rfl) (fun _ _ _ h => h) (Or.inl ⟨by rfl, ?_⟩) (by assumption) ?_
          rotate_left
          · intro w hSw; (try dsimp only at hSw); go_simp; try with_reducible rfl
          try simp only [Act.put, List.setIfInBounds_toArray, List.set_cons_zero, List.set_cons_succ]
          refine wpAnyH_take (i := 10) (v := ?_) (by simp only [List.getElem?_toArray, List.getElem?_cons_succ, List.getElem?_cons_zero]; rfl) (by kernel_rfl) (by kernel_rfl) (by kernel_rfl) (fun _ _ _ h => h) (Or.inl ⟨by rfl, ?_⟩) (by assumption) ?_
          rotate_left
          · intro w hSw; (try dsimp only at hSw); go_simp; try with_reducible rfl
          try simp only [Act.put, List.setIfInBounds_toArray, List.set_cons_zero, List.set_cons_succ]
          refine wpAnyH_take (i := 0) (v := ?_) (by simp only [List.getElem?_toArray, List.getElem?_cons_succ, List.getElem?_cons_zero]; rfl) (by kernel_rfl) (by kernel_rfl) (by kernel_rfl) (fun _ _ _ h => h) (Or.inl ⟨by rfl, ?_⟩) (by assumption) ?_
          rotate_left
          · intro w hSw; (try dsimp only at hSw); go_simp; try with_reducible rfl
          try simp only [Act.put, List.setIfInBounds_toArray, List.set_cons_zero, List.set_cons_succ]
          refine wpAnyH_take (i := 1) (v := ?_) (by simp only [List.getElem?_toArray, List.getElem?_cons_succ, List.getElem?_cons_zero]; rfl) (by kernel_rfl) (by kernel_rfl) (by kernel_rfl) (fun _ _ _ h => h) (Or.inl ⟨by rfl, ?_⟩) (by assumption) ?_
          rotate_left
          · intro w hSw; (try dsimp only at hSw); go_simp; try with_reducible rfl
          try simp only [Act.put, List.setIfInBounds_toArray, List.set_cons_zero, List.set_cons_succ]
          refine wpAnyH_take (i := 3) (v := ?_) (by simp only [List.getElem?_toArray, List.getElem?_cons_succ, List.getElem?_cons_zero]; rfl) (by kernel_rfl) (by kernel_rfl) (by kernel_rfl) (fun _ _ _ h => h) (Or.inl ⟨by rfl, ?_⟩) (by assumption) ?_
          rotate_left
          · intro w hSw; (try dsimp only at hSw); go_simp; try with_reducible rfl
          try simp only [Act.put, List.setIfInBounds_toArray, List.set_cons_zero, List.set_cons_succ]
          refine wpAnyH_take (i := 5) (v := ?_) (by simp only [List.getElem?_toArray, List.getElem?_cons_succ, List.getElem?_cons_zero]; rfl) (by kernel_rfl) (by kernel_rfl) (by kernel_rfl) (fun _ _ _ h => h) (Or.inl ⟨by rfl, ?_⟩) (by assumption) ?_
          rotate_left
          · intro w hSw; (try dsimp only at hSw); go_simp; try with_reducible rfl
          try simp only [Act.put, List.setIfInBounds_toArray, List.set_cons_zero, List.set_cons_succ]
          refine wpAnyH_take (i := 7) (v := ?_) (by simp only [List.getElem?_toArray, List.getElem?_cons_succ, List.getElem?_cons_zero]; rfl) (by kernel_rfl) (by kernel_rfl) (by kernel_rfl) (fun _ _ _ h => h) (Or.inl ⟨by rfl, ?_⟩) (by assumption) ?_
          rotate_left
          · intro w hSw; (try dsimp only at hSw); go_simp; try with_reducible rfl
          try simp only [Act.put, List.setIfInBounds_toArray, List.set_cons_zero, List.set_cons_succ]
          refine wpAnyH_take (i := 9) (v := ?_) (by simp only [List.getElem?_toArray, List.getElem?_cons_succ, List.getElem?_cons_zero]; rfl) (by kernel_rfl) (by kernel_rfl) (by kernel_rfl) (fun _ _ _ h => h) (Or.inl ⟨by rfl, ?_⟩) (by assumption) ?_
          rotate_left
          · intro w hSw; (try dsimp only at hSw); go_simp; try with_reducible rfl
          try simp only [Act.put, List.setIfInBounds_toArray, List.set_cons_zero, List.set_cons_succ]
          refine wpAnyH_take (i := 11) (v := ?_) (by simp only [List.getElem?_toArray, List.getElem?_cons_succ, List.getElem?_cons_zero]; rfl) (by kernel_rfl) (by kernel_rfl) (by kernel_rfl) (fun _ _ _ h => h) (Or.inl ⟨by rfl, ?_⟩) (by assumption) ?_
          rotate_left
          · intro w hSw; (try dsimp only at hSw); go_simp; try with_reducible rfl
          try simp only [Act.put, List.setIfInBounds_toArray, List.set_cons_zero, List.set_cons_succ]
          refine wpAnyH_ready (rs := [6]) (by kernel_rfl) (by simp) ?_
          refine AllReadyH.cons rfl (fun K hK => ?_) AllReadyH.nil
          have hOld := hHeld; clear hHeld
          go_simp
          (go_at_call 14; (with_reducible refine (mvCall (b := b) (w0 := W2) (by (repeat (first | with_reducible assumption | with_reducible exact Mv.refl (by assumption) (by assumption) | with_reducible apply Mv.alloc | with_reducible apply Mv.drew | with_reducible apply Mv.drewN | ((with_reducible apply Mv.setCell); rotate_left; (first | (dsimp only; omega) | omega | (simp; omega)); (first | (dsimp only; omega) | omega | (simp; omega))) | ((with_reducible apply Mv.below); rotate_left; (with_reducible assumption)) | ((with_reducible apply Mv.trans); rotate_left; (with_reducible assumption))))) (k1 _ _)).mono ?_); rintro e w1 ⟨rfl, hM, HM⟩)
          (try go_wp2_with (fail))
          refine hK.out _ _ ⟨(by first | exact mv_cell hM (by first | (dsimp only; omega) | (simp; omega)) hOld.1 | exact cell_later hM hOld.1 | exact HT.cb | exact HT.cc | (simp (maxDischargeDepth := 6) [go_sem, *]; done)), (by first | exact mv_cell hM (by first | (dsimp only; omega) | (simp; omega)) hOld.2.1 | exact cell_later hM hOld.2.1 | exact HT.cb | exact HT.cc | (simp (maxDischargeDepth := 6) [go_sem, *]; done)), (by first | exact mv_cell hM (by first | (dsimp only; omega) | (simp; omega)) hOld.2.2.1 | exact cell_later hM hOld.2.2.1 | exact HT.cb | exact HT.cc | (simp (maxDischargeDepth := 6) [go_sem, *]; done)), (by first | exact mv_cell hM (by first | (dsimp only; omega) | (simp; omega)) hOld.2.2.2.1 | exact cell_later hM hOld.2.2.2.1 | exact HT.cb | exact HT.cc | (simp (maxDischargeDepth := 6) [go_sem, *]; done)), (by first | exact mv_cell hM (by first | (dsimp only; omega) | (simp; omega)) hOld.2.2.2.2 | exact cell_later hM hOld.2.2.2.2 | exact HT.cb | exact HT.cc | (simp (maxDischargeDepth := 6) [go_sem, *]; done))⟩ (fun hHeld => ?_)
          clear hK K hOld
          try simp only [Act.put, List.setIfInBounds_toArray, List.set_cons_zero, List.set_cons_succ]
          refine wpAnyH_ready (rs := [12]) (by kernel_rfl) (by simp) ?_
          refine AllReadyH.cons rfl (fun K hK => ?_) AllReadyH.nil
          have hOld := hHeld; clear hHeld
          go_simp
          (go_at_call 14; (with_reducible refine (mvCall (b := b) (w0 := W2) (by (repeat (first | with_reducible assumption | with_reducible exact Mv.refl (by assumption) (by assumption) | with_reducible apply Mv.alloc | with_reducible apply Mv.drew | with_reducible apply Mv.drewN | ((with_reducible apply Mv.setCell); rotate_left; (first | (dsimp only; omega) | omega | (simp; omega)); (first | (dsimp only; omega) | omega | (simp; omega))) | ((with_reducible apply Mv.below); rotate_left; (with_reducible assumption)) | ((with_reducible apply Mv.trans); rotate_left; (with_reducible assumption))))) (k2 _ _)).mono ?_); rintro e w1 ⟨rfl, hM, HM⟩)
          (try go_wp2_with (fail))
          refine hK.out _ _ ⟨(by first | exact mv_cell hM (by first | (dsimp only; omega) | (simp; omega)) hOld.1 | exact cell_later hM hOld.1 | exact HT.cb | exact HT.cc | (simp (maxDischargeDepth := 6) [go_sem, *]; done)), (by first | exact mv_cell hM (by first | (dsimp only; omega) | (simp; omega)) hOld.2.1 | exact cell_later hM hOld.2.1 | exact HT.cb | exact HT.cc | (simp (maxDischargeDepth := 6) [go_sem, *]; done)), (by first | exact mv_cell hM (by first | (dsimp only; omega) | (simp; omega)) hOld.2.2.1 | exact cell_later hM hOld.2.2.1 | exact HT.cb | exact HT.cc | (simp (maxDischargeDepth := 6) [go_sem, *]; done)), (by first | exact mv_cell hM (by first | (dsimp only; omega) | (simp; omega)) hOld.2.2.2.1 | exact cell_later hM hOld.2.2.2.1 | exact HT.cb | exact HT.cc | (simp (maxDischargeDepth := 6) [go_sem, *]; done)), (by first | exact mv_cell hM (by first | (dsimp only; omega) | (simp; omega)) hOld.2.2.2.2 | exact cell_later hM hOld.2.2.2.2 | exact HT.cb | exact HT.cc | (simp (maxDischargeDepth := 6) [go_sem, *]; done))⟩ (fun hHeld => ?_)
          clear hK K hOld
          try simp only [Act.put, List.setIfInBounds_toArray, List.set_cons_zero, List.set_cons_succ]
          refine wpAnyH_ready (rs := [13]) (by kernel_rfl) (by simp) ?_
          refine AllReadyH.cons rfl (fun K hK => ?_) AllReadyH.nil
          have hOld := hHeld; clear hHeld
          go_simp
          (go_at_call 13; (with_reducible refine (mvCall (b := b) (w0 := W2) (by (repeat (first | with_reducible assumption | with_reducible exact Mv.refl (by assumption) (by assumption) | with_reducible apply Mv.alloc | with_reducible apply Mv.drew | with_reducible apply Mv.drewN | ((with_reducible apply Mv.setCell); rotate_left; (first | (dsimp only; omega) | omega | (simp; omega)); (first | (dsimp only; omega) | omega | (simp; omega))) | ((with_reducible apply Mv.below); rotate_left; (with_reducible assumption)) | ((with_reducible apply Mv.trans); rotate_left; (with_reducible assumption))))) (k3 _ _)).mono ?_); rintro e w1 ⟨rfl, hM, HM⟩)
          (try go_wp2_with (fail))
          refine hK.out _ _ ⟨(by first | exact mv_cell hM (by first | (dsimp only; omega) | (simp; omega)) hOld.1 | exact cell_later hM hOld.1 | exact HT.cb | exact HT.cc | (simp (maxDischargeDepth := 6) [go_sem, *]; done)), (by first | exact mv_cell hM (by first | (dsimp only; omega) | (simp; omega)) hOld.2.1 | exact cell_later hM hOld.2.1 | exact HT.cb | exact HT.cc | (simp (maxDischargeDepth := 6) [go_sem, *]; done)), (by first | exact mv_cell hM (by first | (dsimp only; omega) | (simp; omega)) hOld.2.2.1 | exact cell_later hM hOld.2.2.1 | exact HT.cb | exact HT.cc | (simp (maxDischargeDepth := 6) [go_sem, *]; done)), (by first | exact mv_cell hM (by first | (dsimp only; omega) | (simp; omega)) hOld.2.2.2.1 | exact cell_later hM hOld.2.2.2.1 | exact HT.cb | exact HT.cc | (simp (maxDischargeDepth := 6) [go_sem, *]; done)), (by first | exact mv_cell hM (by first | (dsimp only; omega) | (simp; omega)) hOld.2.2.2.2 | exact cell_later hM hOld.2.2.2.2 | exact HT.cb | exact HT.cc | (simp (maxDischargeDepth := 6) [go_sem, *]; done))⟩ (fun hHeld => ?_)
          clear hK K hOld
          try simp only [Act.put, List.setIfInBounds_toArray, List.set_cons_zero, List.set_cons_succ]
          refine wpAnyH_take (i := 14) (v := ?_) (by simp only [List.getElem?_toArray, List.getElem?_cons_succ, List.getElem?_cons_zero]; rfl) (by kernel_rfl) (by kernel_rfl) (by kernel_rfl) (fun _ _ _ h => h) (Or.inl ⟨by rfl, ?_⟩) (by assumption) ?_
          rotate_left
          · intro w hSw; (try dsimp only at hSw); go_simp; try with_reducible rfl
          try simp only [Act.put, List.setIfInBounds_toArray, List.set_cons_zero, List.set_cons_succ]
          refine wpAnyH_done (by kernel_rfl) ?_ _
          (try refine NoPanic.normal ?_); (try refine Only.normal ?_)
          (try clear q0); (try clear q1); (try clear q2); (try clear q3); (try clear q4); obtain ⟨q0, q1, q2, q3, q4⟩ := hHeld
          gi_wp2
          gi_meet
          exact ⟨rfl, HM⟩
        case rest =>
          obtain ⟨rfl, HM3⟩ := hcut
          have hZ3 := hZ2.mv HM3 hb
          have hM3 := hM2.trans HM3
          have e8 := hZ3.r.cell
          have ef := hZ3.r.frozen
          have hKK := (below_keeps hB2).trans (HM3.keeps hM2.cell)
          have hKb := (below_kb (b := b) hB2 hl0).trans (HM3.kb hM2.size)
          have ho' : (o || lo me i (pre ++ [x])) = (o || lo me i pre || !fa || !fb || !fc) := by
            rw [ho]; cases o <;> cases lo me i pre <;> cases fa <;> cases fb <;> cases fc <;> rfl
          by_cases hds : ds < 103079215104
          · have hv' : lv me i (pre ++ [x]) = true := by rw [hv]; simp [hds]
            gi_wp2
            refine ⟨(hKK.trans (KeepsOthers.setCell _ _ _)).from _, hKb.trans ⟨by simp [World.setCell], fun k hk _ => Below.heap_setCell _ _ _ _ (by dsimp only; omega)⟩, ?_, ?_⟩
            · rw [hv']; exact hZ3.put
            · rw [ho']; exact hM3.setCell (p := ⟨w.heap.size + 1 + 1 + 1, 0, none⟩) (by dsimp only; omega) (by dsimp only; omega) (.bool true)
          · have hv' : lv me i (pre ++ [x]) = lv me i pre := by rw [hv]; simp [hds]
            gi_wp2
            refine ⟨hKK.from _, hKb, ?_, ?_⟩
            · rw [hv']; exact hZ3
            · rw [ho']; exact hM3
  case done =>
    rintro D ys W hD rfl ⟨hZ, hM⟩ hK
    have cS := hZ.r.cell
    gi_wp2
    refine ⟨by simp, .inl ⟨_, _, rfl, run_takeDeferred hK, ?_⟩⟩
    have hBD := belowK_b (n₀ := w.heap.size + 5) (w := W0) (by omega) W D _ (.deferred none) (by omega) hK rfl rfl
    exact ⟨_, results_tmp rfl _ _ _, rfl, hM.belowN hBD (by omega) hb⟩
  case stop =>
    rintro D c pre W _ _ h _
    exact h.elim
end Go.Proofs.Ytbicnpiifpcnjaa
