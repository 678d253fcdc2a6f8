/- Cars that have not ended, one behind the other: what flags.racing hands back. -/
import Derived.Test.YtbicnpiifpcnjaaG0
import Derived.RangeFuncNested
import Derived.RangeFuncBound
import Derived.RangeFuncCalls
import Derived.RangeFuncLeaves
import Derived.Shelf.Abstract
import Derived.WalkKit
import Derived.OwnWalkIn
import Derived.TacticsInMore
import Derived.LoopNIn
import Derived.LoopIn
set_option linter.unusedSimpArgs false
set_option linter.unusedVariables false
namespace Go.Proofs.Ytbicnpiifpcnjaa
open Go.RowKit Go.Shelf
attribute [local go_sem] Oper.semAt_some
/-- A car: its numbers and its words. -/
structure Car where
  f : Nat → Int
  g : Nat → Bool
  bd : ∀ j, -9223372036854775808 ≤ f j ∧ f j ≤ 9223372036854775807
/-- The cells from a place on hold a state. -/
def Qs (q : Addr) (f : Nat → Int) (g : Nat → Bool) (w : World) : Prop := ∀ j v, (sc f g)[j]? = some v → w.cell? (q.add j) = some v
theorem Qs.all {q : Addr} {f : Nat → Int} {g : Nat → Bool} {w : World} (h : Qs q f g w) : w.cell? q = some (.int .i64 (f 0)) ∧ w.cell? ⟨q.block, q.off + 1, none⟩ = some (.int .i64 (f 1)) ∧ w.cell? ⟨q.block, q.off + 2, none⟩ = some (.int .i64 (f 2)) ∧ w.cell? ⟨q.block, q.off + 3, none⟩ = some (.int .i64 (f 3)) ∧ w.cell? ⟨q.block, q.off + 4, none⟩ = some (.int .i64 (f 4)) ∧ w.cell? ⟨q.block, q.off + 5, none⟩ = some (.int .i64 (f 5)) ∧ w.cell? ⟨q.block, q.off + 6, none⟩ = some (.int .i64 (f 6)) ∧ w.cell? ⟨q.block, q.off + 7, none⟩ = some (.int .i64 (f 7)) ∧ w.cell? ⟨q.block, q.off + 8, none⟩ = some (.int .i64 (f 8)) ∧ w.cell? ⟨q.block, q.off + 9, none⟩ = some (.int .i64 (f 9)) ∧ w.cell? ⟨q.block, q.off + 10, none⟩ = some (.int .i64 (f 10)) ∧ w.cell? ⟨q.block, q.off + 11, none⟩ = some (.int .i64 (f 11)) ∧ w.cell? ⟨q.block, q.off + 12, none⟩ = some (.int .i64 (f 12)) ∧ w.cell? ⟨q.block, q.off + 13, none⟩ = some (.int .i64 (f 13)) ∧ w.cell? ⟨q.block, q.off + 14, none⟩ = some (.int .i64 (f 14)) ∧ w.cell? ⟨q.block, q.off + 15, none⟩ = some (.bool (g 15)) ∧ w.cell? ⟨q.block, q.off + 16, none⟩ = some (.int .i64 (f 16)) ∧ w.cell? ⟨q.block, q.off + 17, none⟩ = some (.int .i64 (f 17)) ∧ w.cell? ⟨q.block, q.off + 18, none⟩ = some (.bool (g 18)) ∧ w.cell? ⟨q.block, q.off + 19, none⟩ = some (.int .i64 (f 19)) ∧ w.cell? ⟨q.block, q.off + 20, none⟩ = some (.int .i64 (f 20)) ∧ w.cell? ⟨q.block, q.off + 21, none⟩ = some (.bool (g 21)) ∧ w.cell? ⟨q.block, q.off + 22, none⟩ = some (.int .i64 (f 22)) ∧ w.cell? ⟨q.block, q.off + 23, none⟩ = some (.int .i64 (f 23)) ∧ w.cell? ⟨q.block, q.off + 24, none⟩ = some (.bool (g 24)) ∧ w.cell? ⟨q.block, q.off + 25, none⟩ = some (.int .i64 (f 25)) ∧ w.cell? ⟨q.block, q.off + 26, none⟩ = some (.bool (g 26)) ∧ w.cell? ⟨q.block, q.off + 27, none⟩ = some (.int .i64 (f 27)) ∧ w.cell? ⟨q.block, q.off + 28, none⟩ = some (.int .i64 (f 28)) ∧ w.cell? ⟨q.block, q.off + 29, none⟩ = some (.int .u32 (f 29)) ∧ w.cell? ⟨q.block, q.off + 30, none⟩ = some (.int .i64 (f 30)) ∧ w.cell? ⟨q.block, q.off + 31, none⟩ = some (.int .i64 (f 31)) ∧ w.cell? ⟨q.block, q.off + 32, none⟩ = some (.bool (g 32)) ∧ w.cell? ⟨q.block, q.off + 33, none⟩ = some (.bool (g 33)) ∧ w.cell? ⟨q.block, q.off + 34, none⟩ = some (.int .i64 (f 34)) ∧ w.cell? ⟨q.block, q.off + 35, none⟩ = some (.int .i64 (f 35)) ∧ w.cell? ⟨q.block, q.off + 36, none⟩ = some (.int .i64 (f 36)) ∧ w.cell? ⟨q.block, q.off + 37, none⟩ = some (.int .i64 (f 37)) ∧ w.cell? ⟨q.block, q.off + 38, none⟩ = some (.int .i64 (f 38)) ∧ w.cell? ⟨q.block, q.off + 39, none⟩ = some (.bool (g 39)) ∧ w.cell? ⟨q.block, q.off + 40, none⟩ = some (.bool (g 40)) :=
  ⟨h 0 _ rfl, h 1 _ rfl, h 2 _ rfl, h 3 _ rfl, h 4 _ rfl, h 5 _ rfl, h 6 _ rfl, h 7 _ rfl, h 8 _ rfl, h 9 _ rfl, h 10 _ rfl, h 11 _ rfl, h 12 _ rfl, h 13 _ rfl, h 14 _ rfl, h 15 _ rfl, h 16 _ rfl, h 17 _ rfl, h 18 _ rfl, h 19 _ rfl, h 20 _ rfl, h 21 _ rfl, h 22 _ rfl, h 23 _ rfl, h 24 _ rfl, h 25 _ rfl, h 26 _ rfl, h 27 _ rfl, h 28 _ rfl, h 29 _ rfl, h 30 _ rfl, h 31 _ rfl, h 32 _ rfl, h 33 _ rfl, h 34 _ rfl, h 35 _ rfl, h 36 _ rfl, h 37 _ rfl, h 38 _ rfl, h 39 _ rfl, h 40 _ rfl⟩

/-- A row of cars. -/
def Ss (a : Addr) (n : Nat) (S : Nat → Car) (w : World) : Prop := ∀ k, k < n → Qs (a.add (k * 41)) (S k).f (S k).g w
theorem addB (a : Addr) (j : Nat) : (a.add j).block = a.block := by unfold Addr.add; split <;> rfl
theorem Ss.eq {a : Addr} {n : Nat} {S : Nat → Car} {w W : World} (h : Ss a n S w) (hb : W.heap[a.block]? = w.heap[a.block]?) : Ss a n S W := fun k hk j v hv => by
  rw [World.cell?_of_block (w := w) (by rw [addB, addB]; exact hb)]
  exact h k hk j v hv
theorem Ss.eq0 {a : Addr} {n : Nat} {S : Nat → Car} {w W : World} (h : Ss a n S w) (hb : 0 < n → W.heap[a.block]? = w.heap[a.block]?) : Ss a n S W := by
  rcases n with _ | n
  · intro k hk; omega
  · exact h.eq (hb (by omega))
/-- What comes of the first k cars. -/
def rl (S : Nat → Car) (k : Nat) : List (Nat × Car) := ((List.range k).map fun j => (j, S j)).filter fun p => !p.2.g 39
theorem rl_succ (S : Nat → Car) (k : Nat) : rl S (k + 1) = rl S k ++ if (S k).g 39 = true then [] else [(k, S k)] := by
  unfold rl
  rw [List.range_succ, List.map_append, List.filter_append]
  congr 1
  cases h : (S k).g 39 <;> simp [h]
theorem rl_len (S : Nat → Car) (k : Nat) : (rl S k).length ≤ k := by
  unfold rl
  have := List.length_filter_le (fun p : Nat × Car => !p.2.g 39) ((List.range k).map fun j => (j, S j))
  simpa using this
def encs (x : Nat × Car) : Array Value := #[.int .i64 (x.1 : Int), .agg (sc x.2.f x.2.g)]
@[simp] theorem sc_size' (f : Nat → Int) (g : Nat → Bool) : (sc f g).size = 41 := rfl
set_option maxRecDepth 100000 in
@[simp] theorem put_new (f : Nat → Int) (g : Nat → Bool) (w : World) : (storeCells ⟨w.heap.size, 0, none⟩ (sc f g).toList 0).run Try.prog (w.alloc (.cells #[.int .i64 0, .int .i64 0, .int .i64 0, .int .i64 0, .int .i64 0, .int .i64 0, .int .i64 0, .int .i64 0, .int .i64 0, .int .i64 0, .int .i64 0, .int .i64 0, .int .i64 0, .int .i64 0, .int .i64 0, .bool false, .int .i64 0, .int .i64 0, .bool false, .int .i64 0, .int .i64 0, .bool false, .int .i64 0, .int .i64 0, .bool false, .int .i64 0, .bool false, .int .i64 0, .int .i64 0, .int .u32 0, .int .i64 0, .int .i64 0, .bool false, .bool false, .int .i64 0, .int .i64 0, .int .i64 0, .int .i64 0, .int .i64 0, .bool false, .bool false] 46)) = .ok () (w.alloc (.cells (sc f g) 46)) :=
  run_storeCells_new w _ _ _ (by kernel_rfl) rfl (sc_one f g)
theorem run_ld {q : Addr} {f : Nat → Int} {g : Nat → Bool} {w : World} (h : Qs q f g w) : (loadVar 46 q).run Try.prog w = .ok (.agg (sc f g)) w := by
  have hl : (loadCells q 41).run Try.prog w = .ok (sc f g) w := run_loadCells_list (P := Try.prog) w q (sc f g).toList (fun j v hv => h j v (by simpa using hv))
  have ha : (isAgg 46).run Try.prog w = .ok true w := by simp [go_sem]
  have hs : (sizeOf 46).run Try.prog w = .ok 41 w := by simp [go_sem]
  unfold loadVar
  simp only [Sem.run_bind, ha, hs, hl, Result.andThen, Sem.run_pure, if_true]
theorem wpListIn_ld {F : Fence} {n : Nat} {ops : Array Oper} {Q : Exit → Act → World → Prop} {a : Act} {w : World} {rest : List Oper} {o : Oper} (hw : Region.wanted o (yielded ops a.tmps) = true)
    (x : Operand) (ho : o.op = .load 46 x) (q : Addr) (f : Nat → Int) (g : Nat → Bool) (hx : a.eval x = .pointer (some q)) (hq : Qs q f g w)
    (h : wpListIn F n Try.prog ops Q rest (a.put o.dst (.agg (sc f g))) w) : wpListIn F n Try.prog ops Q (o :: rest) a w := by
  refine BigFrame.wpListIn_want hw fun K hK => ⟨fun f hf => ?_, ?_⟩
  · simp [Oper.about, ho] at hf
  · rw [Oper.semAt_eq _ _ _ (by simp [ho])]
    unfold execOp
    rw [ho]
    simp only [hx, Instr.loadAt, Instr.sureAddr, Sem.run_bind, Sem.run_pure, Result.andThen_ok, run_ld hq]
    exact hK _ _ h
theorem Sb.qs {B : Nat} {f : Nat → Int} {g : Nat → Bool} {w : World} (h : Sb B f g w) : Qs ⟨B, 0, none⟩ f g w := fun j v hv => by
  rw [show (⟨B, 0, none⟩ : Addr).add j = ⟨B, j, none⟩ by unfold Addr.add; split <;> simp_all, h.cell]; exact hv
/-- What a round keeps: what lay below n₀, but for one block. -/
def Kb (n₀ bb : Nat) (W W' : World) : Prop := W.heap.size ≤ W'.heap.size ∧ ∀ k, k < n₀ → k ≠ bb → W'.heap[k]? = W.heap[k]?
theorem Kb.trans {n₀ bb : Nat} {A B C : World} (h : Kb n₀ bb A B) (k : Kb n₀ bb B C) : Kb n₀ bb A C := ⟨Nat.le_trans h.1 k.1, fun i hi hb => (k.2 i hi hb).trans (h.2 i hi hb)⟩
set_option maxRecDepth 100000 in
set_option maxHeartbeats 2000000 in
/-- The closure of flags.racing, at whatever body keeps what Kb says. -/
theorem race1_in (F : Fence) (n : Nat) (h8 : F.fn 15) (hro : F.round = none) (hn : 1 ≤ n) (l Bs n₀ : Nat) (a : Addr) (len cap : Nat) (S : Nat → Car) (bb : Nat) (hlen : len ≤ 9223372036854775807) (hba : 0 < len → a.block < n₀ ∧ a.block ≠ bb)
    (J Jx : List (Nat × Car) → World → Prop)
    (hY : ∀ pre x W, J pre W → pre.length < len → YieldAt F (n - 1) Try.prog l (encs x) W fun e W' =>
      (e = .returned (.bool true) ∧ J (pre ++ [x]) W' ∧ Kb n₀ bb W W') ∨ (e = .returned (.bool false) ∧ Jx (pre ++ [x]) W'))
    (W : World) (hcB : W.cell? ⟨Bs, 0, none⟩ = some (.slice (some a) len cap)) (hS : Ss a len S W) (h0 : J [] W) (hJ : AbidesFrom W.heap.size J) :
    CallsIn F n Try.prog 15 #[.func (.yield l) #[] #[], .pointer (some ⟨Bs, 0, none⟩)] W fun e W' => (∃ v, e = .returned v) ∧
      ((∃ ys, ys = rl S len ∧ J ys W') ∨ (∃ pre, (∃ k, k ≤ len ∧ pre = rl S k) ∧ Jx pre W')) := by
  refine callsIn_of_wp Try.func15 rfl h8 ?_ hro
  simp only [Try.ntmps15, List.size_toArray, List.length_cons, List.length_nil, Nat.reduceAdd, Nat.reduceSub, Array.replicate_succ, Array.replicate_zero, List.push_toArray, List.append_toArray, List.nil_append, List.cons_append]
  gi_wp2
  gi_loopw [7] (fun i wr => ∃ k : Nat, k ≤ len ∧ i = .int .i64 k ∧ J (rl S k) wr ∧ Ss a len S wr)
    (fun i _ => len - (intOf i).toNat)
  case atStart => exact ⟨0, Nat.zero_le _, rfl, h0, hS⟩
  case round =>
    obtain ⟨k, hk, rfl, hJs, hSr⟩ := hrel
    by_cases hlt : k < len
    · have hq := hSr k hlt
      have hSa : Ss a len S (wr.alloc (.cells (sc (S k).f (S k).g) 46)) := hSr.eq (Below.heap_alloc _ _ _ (by have := hq 0 _ rfl; have := World.block_lt_of_cell? _ _ this; rwa [addB, addB] at this))
      have hJa : J (rl S k) (wr.alloc (.cells (sc (S k).f (S k).g) 46)) := hJ _ _ _ none hJs (World.grownBy_alloc wr _ none) (fun r e => by cases e)
      have hb2 := (Sb.new (S k).f (S k).g wr)
      have hbq := hb2.qs
      have c39 := (hb2.cell 39).trans (sc_39 _ _)
      obtain ⟨fn, tmps, assign, body, hy, hR⟩ := hY _ (k, S k) _ hJa (Nat.lt_of_le_of_lt (rl_len S k) hlt)
      dsimp only [encs] at hy
      have hrl := rl_succ S k
      generalize hqa : a.add (k * 41) = q at *
      generalize (S k).f = f at *
      generalize (S k).g = g at *
      cases he : g 39 with
      | true =>
        rw [he] at c39
        clear hy hR hY
        gi_wp2_with (refine wpListIn_ld rfl _ rfl _ _ _ rfl (by assumption) ?_)
        refine ⟨fun _ h => (by cases h), ?_⟩
        gi_wp2
        go_roundw
        case rel => exact ⟨k + 1, by omega, by simp, by rw [hrl, he]; simpa using hJa, hSa⟩
        case measure => simp [intOf]; omega
      | false =>
        rw [he] at c39
        gi_wp2_with (refine wpListIn_ld rfl _ rfl _ _ _ rfl (by assumption) ?_)
        refine hR.mono ?_
        rintro e W3 (⟨rfl, hJ3, hk3⟩ | ⟨rfl, hJx3⟩)
        · gi_wp2
          go_roundw
          case rel => exact ⟨k + 1, by omega, by simp, by rw [hrl, he]; simpa using hJ3, hSa.eq (hk3.2 _ (hba (by omega)).1 (hba (by omega)).2)⟩
          case measure => simp [intOf]; omega
        · gi_wp2
          refine bodyPost_ret (results_none rfl _ _ _) rfl ?_
          exact ⟨⟨_, rfl⟩, .inr ⟨_, ⟨k + 1, by omega, by rw [hrl, he]; rfl⟩, hJx3⟩⟩
    · obtain rfl : k = len := by omega
      gi_wp2
      go_end0
      exact ⟨⟨_, rfl⟩, .inl ⟨_, rfl, hJs⟩⟩
set_option maxHeartbeats 1000000 in
/-- .. at no cars: no round. -/
theorem race1_nil (F : Fence) (n : Nat) (h8 : F.fn 15) (hro : F.round = none) (l Bs : Nat) (J : List (Nat × Car) → World → Prop) (W : World) (hBs : W.cell? ⟨Bs, 0, none⟩ = some (.slice none 0 0)) (h0 : J [] W) :
    CallsIn F n Try.prog 15 #[.func (.yield l) #[] #[], .pointer (some ⟨Bs, 0, none⟩)] W fun e W' => (∃ v, e = .returned v) ∧ J [] W' := by
  refine callsIn_of_wp Try.func15 rfl h8 ?_ hro
  simp only [Try.ntmps15, List.size_toArray, List.length_cons, List.length_nil, Nat.reduceAdd, Nat.reduceSub, Array.replicate_succ, Array.replicate_zero, List.push_toArray, List.append_toArray, List.nil_append, List.cons_append]
  gi_wp2
  gi_loopw [7] (fun i wr => i = .int .i64 0 ∧ J [] wr) (fun _ _ => 0)
  case atStart => exact ⟨rfl, h0⟩
  case round =>
    obtain ⟨rfl, hJs⟩ := hrel
    gi_wp2
    go_end0
    exact ⟨⟨_, rfl⟩, hJs⟩
set_option maxHeartbeats 1000000 in
/-- flags.racing hands back its closure over the row. -/
theorem racing_in (F : Fence) (n : Nat) (h5 : F.fn 11) (hro : F.round = none) (a : Option Addr) (len cap : Nat) (w : World) :
    CallsIn F n Try.prog 11 #[.slice a len cap] w fun e w' => e = .returned (.func (.func 15) #[] #[.pointer (some ⟨w.heap.size, 0, none⟩)]) ∧ w' = w.alloc (.cells #[.slice a len cap] 22) := by
  refine callsIn_of_wp Try.func11 rfl h5 ?_ hro
  simp only [Try.ntmps11, List.size_toArray, List.length_cons, List.length_nil, Nat.reduceAdd, Nat.reduceSub, Array.replicate_succ, Array.replicate_zero, List.push_toArray, List.append_toArray, List.nil_append, List.cons_append]
  gi_wp2
  go_ret
  exact ⟨rfl, rfl⟩
/-- A slice of cars, as a function is handed it: in a block below n₀ that is not bb. -/
def Sl (n₀ bb : Nat) (p : Option Addr) (n c : Nat) (S : Nat → Car) (w : World) : Prop :=
  (p = none ∧ n = 0 ∧ c = 0) ∨ ∃ a, p = some a ∧ n ≤ 9223372036854775807 ∧ (0 < n → a.block < n₀ ∧ a.block ≠ bb) ∧ Ss a n S w
theorem Sl.kb {n₀ bb : Nat} {p : Option Addr} {n c : Nat} {S : Nat → Car} {w W : World} (h : Sl n₀ bb p n c S w) (hk : ∀ k, k < n₀ → k ≠ bb → W.heap[k]? = w.heap[k]?) : Sl n₀ bb p n c S W := by
  rcases h with h | ⟨a, h1, h2, h3, h5⟩
  · exact Or.inl h
  · exact Or.inr ⟨a, h1, h2, h3, h5.eq0 (fun hn => hk _ (h3 hn).1 (h3 hn).2)⟩
/-- What flags.racing hands back gives all cars that have not ended, in their order. -/
theorem racing_stops (F : Fence) (n : Nat) (h8 : F.fn 15) (hro : F.round = none) (hn : 1 ≤ n) (Bs n₀ bb : Nat) (p : Option Addr) (len cap : Nat) (S : Nat → Car) (w : World) (hBs : Bs < w.heap.size) (hn₀ : n₀ ≤ w.heap.size)
    (hc : w.cell? ⟨Bs, 0, none⟩ = some (.slice p len cap)) (hS : Sl n₀ bb p len cap S w) :
    SeqStopsK F n Try.prog 15 #[.pointer (some ⟨Bs, 0, none⟩)] encs (Kb n₀ bb) (fun ys => ys = rl S len) (fun pre => ∃ k, k ≤ len ∧ pre = rl S k) len w := fun l J Jx W hW hJ hJx hY h0 => by
  have hc' := (hW.cell (p := ⟨Bs, 0, none⟩) hBs).trans hc
  rcases hS with ⟨rfl, rfl, rfl⟩ | ⟨a, rfl, h2, h3, h5⟩
  · exact (race1_nil F n h8 hro l Bs J W hc' h0).mono fun e W' ⟨he, hj⟩ => ⟨he, .inl ⟨_, rfl, hj⟩⟩
  · exact race1_in F n h8 hro hn l Bs n₀ a len cap S bb h2 h3 J Jx hY W hc' (h5.eq0 (fun hn => hW.block _ (by have := (h3 hn).1; omega))) h0 hJ
theorem kb_t {n₀ bb : Nat} {A B C : World} (h : Kb n₀ bb A B) (k : Kb n₀ bb B C) : Kb n₀ bb A C := h.trans k
theorem kb_b {n₀ bb : Nat} {w : World} (hn : n₀ ≤ w.heap.size) (W : World) (l : Nat) (o o' : Obj) (hl : w.heap.size ≤ l) (h : W.heap[l]? = some o) (h1 : o.isCells = false) (h2 : o.isWalk = false) : Kb n₀ bb W (W.putObj l o') := by
  have hB := belowK_b (w := w) hn W l o o' hl h h1 h2
  exact ⟨hB.size, fun k hk _ => hB.block k hk⟩
end Go.Proofs.Ytbicnpiifpcnjaa
