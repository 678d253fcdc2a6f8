/- A car's state as a value; which zone it is in. -/
import Derived.Test.YtbicnpiifpcnjaaM0
import Derived.Test.YtbicnpiifpcnjaaQ0
import Derived.Shelf.SlicesQ.Load
import Derived.Deep.WholeRow
set_option linter.unusedSimpArgs false
set_option linter.unusedVariables false
namespace Go.Proofs.Ytbicnpiifpcnjaa
open Go.RowKit
/-- A state's cells. -/
def sc (f : Nat → Int) (g : Nat → Bool) : Array Value :=
  #[.int .i64 (f 0), .int .i64 (f 1), .int .i64 (f 2), .int .i64 (f 3), .int .i64 (f 4), .int .i64 (f 5), .int .i64 (f 6), .int .i64 (f 7), .int .i64 (f 8), .int .i64 (f 9), .int .i64 (f 10), .int .i64 (f 11), .int .i64 (f 12),
    .int .i64 (f 13), .int .i64 (f 14), .bool (g 15), .int .i64 (f 16), .int .i64 (f 17), .bool (g 18), .int .i64 (f 19), .int .i64 (f 20), .bool (g 21), .int .i64 (f 22), .int .i64 (f 23), .bool (g 24),
    .int .i64 (f 25), .bool (g 26), .int .i64 (f 27), .int .i64 (f 28), .int .u32 (f 29),
    .int .i64 (f 30), .int .i64 (f 31), .bool (g 32), .bool (g 33), .int .i64 (f 34), .int .i64 (f 35), .int .i64 (f 36), .int .i64 (f 37), .int .i64 (f 38), .bool (g 39), .bool (g 40)]
theorem sc_size (f : Nat → Int) (g : Nat → Bool) : (sc f g).size = 41 := rfl
theorem sc_one (f : Nat → Int) (g : Nat → Bool) : (sc f g).all (·.oneCell') = true := by simp [sc, Value.oneCell']
@[simp] theorem sc_0 (f : Nat → Int) (g : Nat → Bool) : (sc f g)[0]? = some (.int .i64 (f 0)) := rfl
@[simp] theorem sc_1 (f : Nat → Int) (g : Nat → Bool) : (sc f g)[1]? = some (.int .i64 (f 1)) := rfl
@[simp] theorem sc_2 (f : Nat → Int) (g : Nat → Bool) : (sc f g)[2]? = some (.int .i64 (f 2)) := rfl
@[simp] theorem sc_3 (f : Nat → Int) (g : Nat → Bool) : (sc f g)[3]? = some (.int .i64 (f 3)) := rfl
@[simp] theorem sc_4 (f : Nat → Int) (g : Nat → Bool) : (sc f g)[4]? = some (.int .i64 (f 4)) := rfl
@[simp] theorem sc_5 (f : Nat → Int) (g : Nat → Bool) : (sc f g)[5]? = some (.int .i64 (f 5)) := rfl
@[simp] theorem sc_6 (f : Nat → Int) (g : Nat → Bool) : (sc f g)[6]? = some (.int .i64 (f 6)) := rfl
@[simp] theorem sc_7 (f : Nat → Int) (g : Nat → Bool) : (sc f g)[7]? = some (.int .i64 (f 7)) := rfl
@[simp] theorem sc_8 (f : Nat → Int) (g : Nat → Bool) : (sc f g)[8]? = some (.int .i64 (f 8)) := rfl
@[simp] theorem sc_9 (f : Nat → Int) (g : Nat → Bool) : (sc f g)[9]? = some (.int .i64 (f 9)) := rfl
@[simp] theorem sc_10 (f : Nat → Int) (g : Nat → Bool) : (sc f g)[10]? = some (.int .i64 (f 10)) := rfl
@[simp] theorem sc_11 (f : Nat → Int) (g : Nat → Bool) : (sc f g)[11]? = some (.int .i64 (f 11)) := rfl
@[simp] theorem sc_12 (f : Nat → Int) (g : Nat → Bool) : (sc f g)[12]? = some (.int .i64 (f 12)) := rfl
@[simp] theorem sc_13 (f : Nat → Int) (g : Nat → Bool) : (sc f g)[13]? = some (.int .i64 (f 13)) := rfl
@[simp] theorem sc_14 (f : Nat → Int) (g : Nat → Bool) : (sc f g)[14]? = some (.int .i64 (f 14)) := rfl
@[simp] theorem sc_15 (f : Nat → Int) (g : Nat → Bool) : (sc f g)[15]? = some (.bool (g 15)) := rfl
@[simp] theorem sc_16 (f : Nat → Int) (g : Nat → Bool) : (sc f g)[16]? = some (.int .i64 (f 16)) := rfl
@[simp] theorem sc_17 (f : Nat → Int) (g : Nat → Bool) : (sc f g)[17]? = some (.int .i64 (f 17)) := rfl
@[simp] theorem sc_18 (f : Nat → Int) (g : Nat → Bool) : (sc f g)[18]? = some (.bool (g 18)) := rfl
@[simp] theorem sc_19 (f : Nat → Int) (g : Nat → Bool) : (sc f g)[19]? = some (.int .i64 (f 19)) := rfl
@[simp] theorem sc_20 (f : Nat → Int) (g : Nat → Bool) : (sc f g)[20]? = some (.int .i64 (f 20)) := rfl
@[simp] theorem sc_21 (f : Nat → Int) (g : Nat → Bool) : (sc f g)[21]? = some (.bool (g 21)) := rfl
@[simp] theorem sc_22 (f : Nat → Int) (g : Nat → Bool) : (sc f g)[22]? = some (.int .i64 (f 22)) := rfl
@[simp] theorem sc_23 (f : Nat → Int) (g : Nat → Bool) : (sc f g)[23]? = some (.int .i64 (f 23)) := rfl
@[simp] theorem sc_24 (f : Nat → Int) (g : Nat → Bool) : (sc f g)[24]? = some (.bool (g 24)) := rfl
@[simp] theorem sc_25 (f : Nat → Int) (g : Nat → Bool) : (sc f g)[25]? = some (.int .i64 (f 25)) := rfl
@[simp] theorem sc_26 (f : Nat → Int) (g : Nat → Bool) : (sc f g)[26]? = some (.bool (g 26)) := rfl
@[simp] theorem sc_27 (f : Nat → Int) (g : Nat → Bool) : (sc f g)[27]? = some (.int .i64 (f 27)) := rfl
@[simp] theorem sc_28 (f : Nat → Int) (g : Nat → Bool) : (sc f g)[28]? = some (.int .i64 (f 28)) := rfl
@[simp] theorem sc_29 (f : Nat → Int) (g : Nat → Bool) : (sc f g)[29]? = some (.int .u32 (f 29)) := rfl
@[simp] theorem sc_30 (f : Nat → Int) (g : Nat → Bool) : (sc f g)[30]? = some (.int .i64 (f 30)) := rfl
@[simp] theorem sc_31 (f : Nat → Int) (g : Nat → Bool) : (sc f g)[31]? = some (.int .i64 (f 31)) := rfl
@[simp] theorem sc_32 (f : Nat → Int) (g : Nat → Bool) : (sc f g)[32]? = some (.bool (g 32)) := rfl
@[simp] theorem sc_33 (f : Nat → Int) (g : Nat → Bool) : (sc f g)[33]? = some (.bool (g 33)) := rfl
@[simp] theorem sc_34 (f : Nat → Int) (g : Nat → Bool) : (sc f g)[34]? = some (.int .i64 (f 34)) := rfl
@[simp] theorem sc_35 (f : Nat → Int) (g : Nat → Bool) : (sc f g)[35]? = some (.int .i64 (f 35)) := rfl
@[simp] theorem sc_36 (f : Nat → Int) (g : Nat → Bool) : (sc f g)[36]? = some (.int .i64 (f 36)) := rfl
@[simp] theorem sc_37 (f : Nat → Int) (g : Nat → Bool) : (sc f g)[37]? = some (.int .i64 (f 37)) := rfl
@[simp] theorem sc_38 (f : Nat → Int) (g : Nat → Bool) : (sc f g)[38]? = some (.int .i64 (f 38)) := rfl
@[simp] theorem sc_39 (f : Nat → Int) (g : Nat → Bool) : (sc f g)[39]? = some (.bool (g 39)) := rfl
@[simp] theorem sc_40 (f : Nat → Int) (g : Nat → Bool) : (sc f g)[40]? = some (.bool (g 40)) := rfl
theorem sc_fold (f : Nat → Int) (g : Nat → Bool) : (#[.int .i64 (f 0), .int .i64 (f 1), .int .i64 (f 2), .int .i64 (f 3), .int .i64 (f 4), .int .i64 (f 5), .int .i64 (f 6), .int .i64 (f 7), .int .i64 (f 8), .int .i64 (f 9), .int .i64 (f 10), .int .i64 (f 11), .int .i64 (f 12), .int .i64 (f 13), .int .i64 (f 14), .bool (g 15), .int .i64 (f 16), .int .i64 (f 17), .bool (g 18), .int .i64 (f 19), .int .i64 (f 20), .bool (g 21), .int .i64 (f 22), .int .i64 (f 23), .bool (g 24), .int .i64 (f 25), .bool (g 26), .int .i64 (f 27), .int .i64 (f 28), .int .u32 (f 29), .int .i64 (f 30), .int .i64 (f 31), .bool (g 32), .bool (g 33), .int .i64 (f 34), .int .i64 (f 35), .int .i64 (f 36), .int .i64 (f 37), .int .i64 (f 38), .bool (g 39), .bool (g 40)] : Array Value) = sc f g := rfl
/-- Which zone a car is in. -/
def zn (n : Int) (f : Nat → Int) (g : Nat → Bool) : Int := if (!g 32 || decide (f 30 < 0) || decide (n ≤ f 30)) = true then -1 else if f 30 = 0 then n - 1 else f 30 - 1
/-- A block that holds a state. -/
def Sb (B : Nat) (f : Nat → Int) (g : Nat → Bool) (w : World) : Prop := w.heap[B]? = some (.cells (sc f g) 46 (0, 0))
theorem Sb.cell {B : Nat} {f : Nat → Int} {g : Nat → Bool} {w : World} (h : Sb B f g w) (j : Nat) : w.cell? ⟨B, j, none⟩ = (sc f g)[j]? := by simp [World.cell?, show w.heap[B]? = _ from h]
theorem Sb.new (f : Nat → Int) (g : Nat → Bool) (w : World) : Sb w.heap.size f g (w.alloc (.cells (sc f g) 46)) := heap_alloc_last w _
theorem Sb.lt {B : Nat} {f : Nat → Int} {g : Nat → Bool} {w : World} (h : Sb B f g w) : B < w.heap.size := (Array.getElem?_eq_some_iff.1 h).1
theorem Sb.later {B : Nat} {f : Nat → Int} {g : Nat → Bool} {w W : World} (h : Sb B f g w) (hB : Below w.heap.size w W) : Sb B f g W := (hB.block B h.lt).trans h
theorem Sb.alloc {B : Nat} {f : Nat → Int} {g : Nat → Bool} {w : World} (h : Sb B f g w) (o : Obj) : Sb B f g (w.alloc o) := h.later ((Below.refl _ _).alloc (Nat.le_refl _) o)
theorem Sb.mv {B b : Nat} {o : Bool} {f : Nat → Int} {g : Nat → Bool} {w W : World} (h : Sb B f g w) (hM : Mv b o w W) (hne : B ≠ b) : Sb B f g W := (hM.other B h.lt hne).trans h
set_option maxHeartbeats 1000000 in
theorem cZone (n : Int) (f : Nat → Int) (g : Nat → Bool) (w : World) (n0 : -9223372036854775808 ≤ n) (n1 : n ≤ 9223372036854775807) (hf : ∀ j, -9223372036854775808 ≤ f j ∧ f j ≤ 9223372036854775807) :
    Calls Try.prog 8 #[.int .i64 n, .agg (sc f g)] w fun e w' => e = .returned (.int .i64 (zn n f g)) ∧ Below w.heap.size w w' := by
  have hS := Sb.new f g w
  have c30 := hS.cell 30
  have c32 := hS.cell 32
  rw [show (sc f g)[30]? = some (.int .i64 (f 30)) from rfl] at c30
  rw [show (sc f g)[32]? = some (.bool (g 32)) from rfl] at c32
  have hb := hf 30
  unfold zn
  generalize f 30 = x at *
  generalize g 32 = r at *
  go_enter Try.func8, Try.ntmps8
  go_wp2
  all_goals simp [bodyPost, results, Try.results8, go_sem]
  all_goals (first | (exfalso; simp_all; done) | (repeat (first | with_reducible assumption | with_reducible exact Below.refl _ _ | ((with_reducible refine Below.setCell ?_ ?_ _); rotate_left; (first | exact Nat.le_refl _ | (dsimp only; omega) | (simp; done) | (simp; omega))) | with_reducible refine below_alloc ?_ _ | with_reducible apply below_drewN | with_reducible apply Below.drew | with_reducible refine below_step ?_ (by assumption))))
/-- How many wheels are down. -/
def dn (g : Nat → Bool) : Nat := (if g 15 = true then 1 else 0) + (if g 18 = true then 1 else 0) + (if g 21 = true then 1 else 0) + (if g 24 = true then 1 else 0)
/-- Is a car in danger? Does its speed fit? -/
def dg (f : Nat → Int) (g : Nat → Bool) : Bool := decide (ln (f 3 * f 3 + f 4 * f 4 + f 5 * f 5) < 17179869184) || decide ((dn g : Int) < 2)
def dgok (f : Nat → Int) : Bool := lnok (f 3 * f 3 + f 4 * f 4 + f 5 * f 5)
set_option maxHeartbeats 2000000 in
theorem cVLen (x0 x1 x2 : Int) (b : Nat) (o : Bool) (w : World) (x0_0 : -9223372036854775808 ≤ x0) (x0_1 : x0 ≤ 9223372036854775807) (x1_0 : -9223372036854775808 ≤ x1) (x1_1 : x1 ≤ 9223372036854775807) (x2_0 : -9223372036854775808 ≤ x2) (x2_1 : x2 ≤ 9223372036854775807) (hc : w.cell? ⟨b, 0, none⟩ = some (.bool o)) (hf : w.frozen? ⟨b, 0, none⟩ = false) :
    Calls Try.prog 16 #[.pointer (some ⟨b, 0, none⟩), .agg #[.int .i64 x0, .int .i64 x1, .int .i64 x2]] w fun e w' =>
      e = .returned (.int .i64 (ln (x0 * x0 + x1 * x1 + x2 * x2))) ∧ Mv b (o || !lnok (x0 * x0 + x1 * x1 + x2 * x2)) w w' := by
  have k1 := fun O W => cLen3 x0 x1 x2 b O W x0_0 x0_1 x1_0 x1_1 x2_0 x2_1
  generalize ln (x0 * x0 + x1 * x1 + x2 * x2) = n at *
  generalize lnok (x0 * x0 + x1 * x1 + x2 * x2) = p at *
  have hb := lt_of_cell hc
  have HM := Mv.refl hc hf
  clear hc hf
  go_enter Try.func16, Try.ntmps16
  go_wp2_with ((go_at_call 23; (with_reducible refine (mvCall (b := b) (w0 := w) (by (repeat (first | with_reducible assumption | with_reducible exact Mv.refl (by assumption) (by assumption) | with_reducible apply Mv.alloc | with_reducible apply Mv.drew | with_reducible apply Mv.drewN | ((with_reducible apply Mv.setCell); rotate_left; (first | (dsimp only; omega) | omega | (simp; omega)); (first | (dsimp only; omega) | omega | (simp; omega))) | ((with_reducible apply Mv.below); rotate_left; (with_reducible assumption)) | ((with_reducible apply Mv.trans); rotate_left; (with_reducible assumption))))) (k1 _ _)).mono ?_); rintro e w1 ⟨rfl, hM, HM⟩))
  go_ret
  exact ⟨rfl, by (repeat (first | with_reducible assumption | with_reducible exact Mv.refl (by assumption) (by assumption) | with_reducible apply Mv.alloc | with_reducible apply Mv.drew | with_reducible apply Mv.drewN | ((with_reducible apply Mv.setCell); rotate_left; (first | (dsimp only; omega) | omega | (simp; omega)); (first | (dsimp only; omega) | omega | (simp; omega))) | ((with_reducible apply Mv.below); rotate_left; (with_reducible assumption)) | ((with_reducible apply Mv.trans); rotate_left; (with_reducible assumption))))⟩
theorem idxSpin (i : Int) (cs : Array Value) (w : World) (h0 : 0 ≤ i) (h1 : i < 4) : (Instr.index 40 (.agg cs) (.int .i64 i)).run Try.prog w = .ok (.agg (cs.extract (i.toNat * 3) (i.toNat * 3 + 3))) w := by
  simp [Instr.index, asIntOf, go_sem, h0, h1]
@[simp] theorem idxSpin0 (a0 a1 a2 a3 a4 a5 a6 a7 a8 a9 a10 a11 : Value) (w : World) : (Instr.index 40 (.agg #[a0, a1, a2, a3, a4, a5, a6, a7, a8, a9, a10, a11]) (.int .i64 0)).run Try.prog w = .ok (.agg #[a0, a1, a2]) w := idxSpin 0 _ w (by decide) (by decide)
@[simp] theorem idxSpin1 (a0 a1 a2 a3 a4 a5 a6 a7 a8 a9 a10 a11 : Value) (w : World) : (Instr.index 40 (.agg #[a0, a1, a2, a3, a4, a5, a6, a7, a8, a9, a10, a11]) (.int .i64 1)).run Try.prog w = .ok (.agg #[a3, a4, a5]) w := idxSpin 1 _ w (by decide) (by decide)
@[simp] theorem idxSpin2 (a0 a1 a2 a3 a4 a5 a6 a7 a8 a9 a10 a11 : Value) (w : World) : (Instr.index 40 (.agg #[a0, a1, a2, a3, a4, a5, a6, a7, a8, a9, a10, a11]) (.int .i64 2)).run Try.prog w = .ok (.agg #[a6, a7, a8]) w := idxSpin 2 _ w (by decide) (by decide)
@[simp] theorem idxSpin3 (a0 a1 a2 a3 a4 a5 a6 a7 a8 a9 a10 a11 : Value) (w : World) : (Instr.index 40 (.agg #[a0, a1, a2, a3, a4, a5, a6, a7, a8, a9, a10, a11]) (.int .i64 3)).run Try.prog w = .ok (.agg #[a9, a10, a11]) w := idxSpin 3 _ w (by decide) (by decide)
set_option maxHeartbeats 4000000 in
theorem cDanger (f : Nat → Int) (g : Nat → Bool) (b : Nat) (o : Bool) (w : World) (hF : ∀ j, -9223372036854775808 ≤ f j ∧ f j ≤ 9223372036854775807) (hc : w.cell? ⟨b, 0, none⟩ = some (.bool o)) (hf : w.frozen? ⟨b, 0, none⟩ = false) :
    Calls Try.prog 12 #[.pointer (some ⟨b, 0, none⟩), .agg (sc f g)] w fun e w' => e = .returned (.bool (dg f g)) ∧ Mv b (o || !dgok f) w w' := by
  have hb := lt_of_cell hc
  have k1 := fun O W => cVLen (f 3) (f 4) (f 5) b O W (hF 3).1 (hF 3).2 (hF 4).1 (hF 4).2 (hF 5).1 (hF 5).2
  have hS := Sb.new f g w
  have c3 := hS.cell 3
  have c4 := hS.cell 4
  have c5 := hS.cell 5
  rw [show (sc f g)[3]? = some (.int .i64 (f 3)) from rfl] at c3
  rw [show (sc f g)[4]? = some (.int .i64 (f 4)) from rfl] at c4
  rw [show (sc f g)[5]? = some (.int .i64 (f 5)) from rfl] at c5
  unfold dg dgok
  generalize ln (f 3 * f 3 + f 4 * f 4 + f 5 * f 5) = n at *
  generalize lnok (f 3 * f 3 + f 4 * f 4 + f 5 * f 5) = p at *
  have HM := Mv.refl hc hf
  clear hc hf
  go_enter Try.func12, Try.ntmps12
  go_upto_block 0 with (fail)
  go_cut [5] (fun a wx => a = .int .i64 (dn g) ∧ Mv b o w wx ∧ Sb w.heap.size f g wx)
  case first =>
    go_wp2_with (fail)
    refine wp_loop_rounds 5 ?_
    iterate 5 (all_goals (rw [rounds_succ]); all_goals go_wp2)
    all_goals go_meet
    all_goals exact ⟨by simp only [dn, *]; rfl, by (repeat (first | with_reducible assumption | with_reducible exact Mv.refl (by assumption) (by assumption) | with_reducible apply Mv.alloc | with_reducible apply Mv.drew | with_reducible apply Mv.drewN | ((with_reducible apply Mv.setCell); rotate_left; (first | (dsimp only; omega) | omega | (simp; omega)); (first | (dsimp only; omega) | omega | (simp; omega))) | ((with_reducible apply Mv.below); rotate_left; (with_reducible assumption)) | ((with_reducible apply Mv.trans); rotate_left; (with_reducible assumption)))), (((hS.alloc _).alloc _).alloc _).alloc _⟩
  case rest =>
    obtain ⟨rfl, HM, hS⟩ := hcut
    have c3 := (hS.cell 3).trans (sc_3 f g)
    have c4 := (hS.cell 4).trans (sc_4 f g)
    have c5 := (hS.cell 5).trans (sc_5 f g)
    go_wp2_with ((go_at_call 16; (with_reducible refine (mvCall (b := b) (w0 := w) (by (repeat (first | with_reducible assumption | with_reducible exact Mv.refl (by assumption) (by assumption) | with_reducible apply Mv.alloc | with_reducible apply Mv.drew | with_reducible apply Mv.drewN | ((with_reducible apply Mv.setCell); rotate_left; (first | (dsimp only; omega) | omega | (simp; omega)); (first | (dsimp only; omega) | omega | (simp; omega))) | ((with_reducible apply Mv.below); rotate_left; (with_reducible assumption)) | ((with_reducible apply Mv.trans); rotate_left; (with_reducible assumption))))) (k1 _ _)).mono ?_); rintro e w1 ⟨rfl, hM, HM⟩))
    all_goals simp [bodyPost, results, Try.results12, go_sem]
    all_goals assumption
end Go.Proofs.Ytbicnpiifpcnjaa
