/- Which flag each car sees. -/
import Derived.Test.YtbicnpiifpcnjaaG3
import Derived.Maps.AppendAt
import Derived.RangeFuncBox
import Derived.Laws.AppendOwn
import Derived.OwnWalk
import Derived.Laws.Cover3
import Derived.Deep.CutBlock
set_option linter.unusedSimpArgs false
set_option linter.unusedVariables false
namespace Go.Proofs.Ytbicnpiifpcnjaa
open Go.RowKit
theorem wpList_ld {ops : Array Oper} {Q : Exit → Act → World → Prop} {a : Act} {w : World} {rest : List Oper} {o : Oper} (hw : Region.wanted o (yielded ops a.tmps) = true)
    (x : Operand) (ho : o.op = .load 46 x) (q : Addr) (f : Nat → Int) (g : Nat → Bool) (hx : a.eval x = .pointer (some q)) (hq : Qs q f g w)
    (h : wpList Try.prog ops Q rest (a.put o.dst (.agg (sc f g))) w) : wpList Try.prog ops Q (o :: rest) a w := by
  refine BigFrame.wpList_want hw fun K hK => ?_
  unfold Oper.wp execOp
  rw [ho]
  simp only [hx, Instr.loadAt, Instr.sureAddr, Sem.run_bind, Sem.run_pure, Result.andThen_ok, run_ld hq]
  exact hK _ _ h
theorem Mv.grownBy {b : Nat} {o : Bool} {w w1 : World} (h : Mv b o w w1) : w.grownBy w1 (some b) :=
  ⟨h.os, h.tape, h.output, h.size, fun k hk hne => h.other k hk (fun e => hne (by rw [e]))⟩
theorem own_mv {b : Nat} {o : Bool} {W w1 : World} {base : Nat} {e : TypeId} {sz : Nat} {v : Value} {n : Nat} {xs : List Value} (h : W.ownsRow base e sz v n xs) (hM : Mv b o W w1) (hb : b < base) : w1.ownsRow base e sz v n xs := by
  refine h.kept hM.grownBy ?_
  cases hv : v.ownBlock with
  | none => exact Or.inl rfl
  | some g => exact Or.inr (fun e => by have := (h.lt g hv).1; injection e with e; omega)
theorem own_below {W w1 : World} {base : Nat} {e : TypeId} {sz : Nat} {v : Value} {n : Nat} {xs : List Value} (h : W.ownsRow base e sz v n xs) (hB : Below W.heap.size W w1) : w1.ownsRow base e sz v n xs := by
  refine h.kept (row := none) ⟨hB.os, hB.tape, hB.output, hB.size, fun k hk _ => hB.block k hk⟩ ?_
  cases hv : v.ownBlock with
  | none => exact Or.inl rfl
  | some g => exact Or.inr (fun e => by cases e)
theorem Mv.grown {b : Nat} {o : Bool} {w W w1 : World} {row : Option Nat} (h : Mv b o w W) (hg : W.grownBy w1 row) (hrow : ∀ k, row = some k → w.heap.size ≤ k) (hb : b < w.heap.size) : Mv b o w w1 := by
  have hne : ∀ k, k < w.heap.size → some k ≠ row := fun k hk e => by have := hrow k e.symm; omega
  have hbW := lt_of_cell h.cell
  have e := hg.block b hbW (hne b hb)
  exact ⟨hg.os.trans h.os, hg.tape.trans h.tape, hg.output.trans h.output, Nat.le_trans h.size hg.size, by rw [World.cell?_of_block (w := W) e]; exact h.cell, by rw [World.frozen?_of_block (w := W) e]; exact h.free,
    fun k hk hkb => (hg.block k (Nat.lt_of_lt_of_le hk h.size) (hne k hk)).trans (h.other k hk hkb)⟩
@[simp] theorem eqnil (a : Option Addr) (n c : Nat) (w : World) : (binOp .eql 26 (.slice a n c) (.slice none 0 0)).run Try.prog w = .ok (.bool a.isNone) w := by
  simp only [binOp]
  simp [run_equal_slice_nil w _ _ a n c Try.underlying26]
theorem own_base {W : World} {base base' : Nat} {e : TypeId} {sz : Nat} {v : Value} {n : Nat} {xs : List Value} (h : W.ownsRow base e sz v n xs) (hb : base' ≤ base) : W.ownsRow base' e sz v n xs := by
  refine ⟨h.1, ?_⟩
  rcases h.2 with h | ⟨g, cap, cur, h1, h2, h3⟩
  · exact Or.inl h
  · exact Or.inr ⟨g, cap, cur, h1, by omega, h3⟩
/-- The flag that a car sees, and all flags so far. -/
def fl (n : Int) (S : Nat → Car) (len i : Nat) : Int :=
  if (S i).g 39 = true then 4 else if ((S i).g 32 && !(S i).g 33 && decide (240 < (S i).f 37)) = true then 3 else if lv (S i) i (rl S len) = true then 2
  else if 0 ≤ zn n (S i).f (S i).g then zv n (rl S len) (zn n (S i).f (S i).g).toNat else 0
def fls (n : Int) (S : Nat → Car) (len k : Nat) : List Value := (List.range k).map fun i => .int .i64 (fl n S len i)
theorem fls_succ (n : Int) (S : Nat → Car) (len k : Nat) : fls n S len (k + 1) = fls n S len k ++ [.int .i64 (fl n S len k)] := by simp [fls, List.range_succ]
/-- Did something not fit so far? -/
def flo (S : Nat → Car) (len : Nat) : Nat → Bool
  | 0 => false
  | k + 1 => flo S len k || lo (S k) k (rl S len)
set_option maxHeartbeats 8000000 in
set_option maxRecDepth 20000 in
theorem cCars (n : Nat) (p : Option Addr) (len cap : Nat) (S : Nat → Car) (b : Nat) (o : Bool) (w : World) (h1 : 1 ≤ n) (h2 : n ≤ 16) (hl : len ≤ 1000) (hS : Sl w.heap.size b p len cap S w) (hc : w.cell? ⟨b, 0, none⟩ = some (.bool o)) (hf : w.frozen? ⟨b, 0, none⟩ = false) :
    Calls Try.prog 5 #[.pointer (some ⟨b, 0, none⟩), .int .i64 n, .slice p len cap] w fun e w' =>
      ∃ v, e = .returned v ∧ w'.ownsRow w.heap.size 3 1 v len (fls n S len len) ∧ Mv b (o || zo n (rl S len) || flo S len len) w w' := by
  have hb := lt_of_cell hc
  have k1 := cZones n p len cap S b o w h1 h2 hS hc hf
  obtain ⟨i0, hi, hz0, hz1, hz2⟩ := info_parts info_int
  have hinf := Lib.hid (And.intro hi (And.intro hz0 (And.intro hz1 hz2)))
  clear hi hz0 hz1 hz2 hc hf
  go_enter Try.func5, Try.ntmps5
  go_wp2_with (go_at_call 7; refine k1.mono ?_; rintro e W1 ⟨B, rfl, hB0, hrow0, hM1⟩; clear k1)
  go_loopw [8, 22] (fun s i wx => ∃ k : Nat, i = .int .i64 k ∧ k ≤ len ∧ wx.ownsRow W1.heap.size 3 1 s k (fls n S len k) ∧ wx.rowIs B 3 n (fun i => .int .i64 (zv n (rl S len) i)) ∧ Mv b (o || zo n (rl S len) || flo S len k) w wx ∧ W1.heap.size ≤ wx.heap.size) (fun _ i _ => len - (RowKit.intOf i).toNat)
  case atStart => exact ⟨0, rfl, by omega, World.ownsRow_nil _ _ _ _, hrow0, Mv.cast hM1 (by simp [flo]), Nat.le_refl _⟩
  case round =>
    obtain ⟨k, rfl, hk, hown, hrow, HM, hWz⟩ := hrel
    by_cases hlt : k < len
    · obtain ⟨a, rfl, hl2, ha1, ha2, hSs⟩ : ∃ a, p = some a ∧ len ≤ 9223372036854775807 ∧ a.block < w.heap.size ∧ a.block ≠ b ∧ Ss a len S w := by
        rcases hS with ⟨_, h0, _⟩ | ⟨a, g1, g2, g3, g4⟩
        · omega
        · exact ⟨a, g1, g2, (g3 (by omega)).1, (g3 (by omega)).2, g4⟩
      have hw1 := hM1.size
      have hrl := hrow.lt
      have hq := (hSs.eq (HM.other _ ha1 ha2)) k hlt
      have hb2 := Sb.new (S k).f (S k).g wr
      have hbq := hb2.qs
      have kZ := fun W => cZone (n : Int) (S k).f (S k).g W (by omega) (by omega) (S k).bd
      have hZn := zn_lt (n : Int) (S k).f (S k).g (by omega)
      have hBW := hrow0.lt
      go_upto_block 2 with (first
        | (refine wpList_ld (by rfl) _ rfl _ _ _ rfl (by assumption) ?_)
        | (go_at_call 8; refine (kZ _).mono ?_; rintro e W2 ⟨rfl, hB2⟩; have hb3 := hb2.later hB2; have HM2 := (HM.alloc (.cells (sc (S k).f (S k).g) 46)).below hB2; have hown2 := own_below (hown.alloc (.cells (sc (S k).f (S k).g) 46)) hB2; have hrow2 := (hrow.alloc (.cells (sc (S k).f (S k).g) 46)).of_block (hB2.block _ (by simp; omega)); have hS2 := hSs.eq (HM2.other _ ha1 ha2))
        | (go_at_call 9; refine (cLapped k a len cap S b _ W2 hlt hl2 ha2 hS2 HM2.cell HM2.free).mono ?_; rintro e W3 ⟨rfl, hM3⟩; have hb4 := hb3.mv hM3 (by have := HM.size; omega); have c39 := (hb4.cell 39).trans (sc_39 _ _); have c32 := (hb4.cell 32).trans (sc_32 _ _); have c33 := (hb4.cell 33).trans (sc_33 _ _); have c37 := (hb4.cell 37).trans (sc_37 _ _); have hown3 := own_mv hown2 hM3 (by omega); have hrow3 := hrow2.of_block (hM3.other _ hrow2.lt (by omega)); have HM3 := HM2.trans hM3; have HW3 : W1.heap.size ≤ W3.heap.size := by have a1 := hM3.size; have a2 := hB2.size; simp at a2; omega))
      have hfl : fl n S len k = fl n S len k := rfl
      conv at hfl => rhs; unfold fl
      clear hbq hq hb2 kZ hb3 hown2 hrow2 HM2 hM3
      go_cut [11, 12, 13] (fun v11 _ _ wx => v11 = .int .i64 (fl n S len k) ∧ wx = W3)
      case first =>
        have hzc : ∀ j : Nat, zn (n : Int) (S k).f (S k).g = j → W3.cell? ⟨B, j, none⟩ = some (.int .i64 (zv n (rl S len) j)) := fun j hj => hrow3.cell (by omega)
        generalize fl n S len k = FL at *
        generalize lv (S k) k (rl S len) = L at *
        by_cases hz : 0 ≤ zn (n : Int) (S k).f (S k).g
        · obtain ⟨j, hj⟩ : ∃ j : Nat, zn (n : Int) (S k).f (S k).g = j := ⟨(zn (n : Int) (S k).f (S k).g).toNat, by omega⟩
          have hcj := hzc j hj
          rw [hj] at hfl hZn ⊢
          have hjn : j < n := by omega
          simp only [Int.toNat_natCast] at hfl
          go_wp2
          all_goals go_meet
          all_goals refine ⟨?_, rfl⟩
          all_goals (rw [hfl]; clear hfl; simp [*])
          all_goals (first | (intro _; exfalso; omega) | ((repeat' split) <;> (first | rfl | (exfalso; omega))))
        · generalize zn (n : Int) (S k).f (S k).g = z at *
          go_wp2
          all_goals go_meet
          all_goals refine ⟨?_, rfl⟩
          all_goals (rw [hfl]; clear hfl; simp [*])
          all_goals (first | (intro _; exfalso; omega) | ((repeat' split) <;> (first | rfl | (exfalso; omega))))
      case rest =>
        obtain ⟨rfl, rfl⟩ := hcut
        have hlt9 := hown3.lt
        obtain ⟨hi, hz0, hz1, hz2⟩ := hinf.out
        have hz9 := HM3.size
        have hz8 := hrow3.lt
        have hz7 : W1.heap.size ≤ wc.heap.size := HW3
        clear hfl
        go_wp2_with (at_builtin; refine wpList_append_own _ rfl _ _ 26 rfl W1.heap.size 3 i0 (.int .i64 0) 1 8 Try.underlying26 hi hz0 hz1 hz2 rfl (by decide) _ _ _ rfl (hown3.alloc _) ⟨wc.heap.size, 0, none⟩ 1 1 [.int .i64 (fl n S len k)] rfl rfl (cell_one_new _ _ _) (fun x hx => by simp at hx; subst hx; rfl) (by unfold maxLen; omega) (by omega) (by simp; omega) ?_; intro v' w3 hown' hgrow hnil)
        refine ⟨⟨k + 1, by go_num, by omega, by rw [fls_succ]; exact hown', ?_, ?_, by have := hgrow.size; simp at this; omega⟩, by simp [RowKit.intOf]; omega⟩
        · refine (hrow3.alloc _).of_block (hgrow.block _ (by have := hrow3.lt; simp; omega) (fun e => ?_))
          have := (hlt9 _ e.symm).1
          omega
        · exact Mv.cast (Mv.grown (Mv.alloc HM3 _) hgrow (fun k hk => by have := (hlt9 k hk).1; omega) hb) (by simp [flo, Bool.or_assoc])
    · obtain rfl : k = len := by omega
      go_wp2
      go_ret
      exact ⟨_, rfl, own_base hown hM1.size, HM⟩
end Go.Proofs.Ytbicnpiifpcnjaa
