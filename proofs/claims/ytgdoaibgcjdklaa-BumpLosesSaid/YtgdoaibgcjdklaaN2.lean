/- Contracts of package bump: velocities behind a bump. -/
import Derived.Test.YtgdoaibgcjdklaaN1
set_option linter.unusedSimpArgs false
set_option linter.unusedVariables false
namespace Go.Proofs.Ytgdoaibgcjdklaa
open Go.RowKit
/-- A product as a reckoner keeps it. -/
def ml (a b : Int) : Int := sat (rsh (a * b))
def mlok (a b : Int) : Bool := fx (rsh (a * b))
theorem ml_lo (a b : Int) : -9223372036854775808 ≤ ml a b := sat_lo _
theorem ml_hi (a b : Int) : ml a b ≤ 9223372036854775807 := sat_hi _
theorem cMl (x y : Int) (b : Nat) (o : Bool) (w : World) (x_0 : -9223372036854775808 ≤ x) (x_1 : x ≤ 9223372036854775807) (y_0 : -9223372036854775808 ≤ y) (y_1 : y ≤ 9223372036854775807) (hc : w.cell? ⟨b, 0, none⟩ = some (.bool o)) (hf : w.frozen? ⟨b, 0, none⟩ = false) :
    Calls Try.prog 17 #[.pointer (some ⟨b, 0, none⟩), .int .i64 x, .int .i64 y] w fun e w' => e = .returned (.int .i64 (ml x y)) ∧ Mv b (o || !mlok x y) w w' := cFMul x y b o w x_0 x_1 y_0 y_1 hc hf
theorem rMl (x y : Int) (b : Nat) (o : Bool) (w : World) (x_0 : -9223372036854775808 ≤ x) (x_1 : x ≤ 9223372036854775807) (y_0 : -9223372036854775808 ≤ y) (y_1 : y ≤ 9223372036854775807) (hc : w.cell? ⟨b, 0, none⟩ = some (.bool o)) (hf : w.frozen? ⟨b, 0, none⟩ = false) :
    Calls Try.prog 34 #[.pointer (some ⟨b, 0, none⟩), .int .i64 x, .int .i64 y] w fun e w' => e = .returned (.int .i64 (ml x y)) ∧ Mv b (o || !mlok x y) w w' := rFMul x y b o w x_0 x_1 y_0 y_1 hc hf
/-- Less, or more. -/
def ad (l : Bool) (x y : Int) : Int := if l = true then x - y else x + y
/-- One part of a velocity behind a bump, and whether it fits; n: the push by the mass. -/
def tn (l : Bool) (v u n : Int) : Int := clm (sat (ad l v (ml u n))) (-549755813888) 549755813888
def tnok (l : Bool) (v u n : Int) : Bool := mlok u n && fx (ad l v (ml u n))
set_option maxHeartbeats 4000000 in
theorem cBTurnSub (vx vy mass sh ux uy : Int) (b pm ps pu : Nat) (o : Bool) (w : World) (vx_0 : -9223372036854775808 ≤ vx) (vx_1 : vx ≤ 9223372036854775807) (vy_0 : -9223372036854775808 ≤ vy) (vy_1 : vy ≤ 9223372036854775807) (mass_0 : -9223372036854775808 ≤ mass) (mass_1 : mass ≤ 9223372036854775807) (sh_0 : -9223372036854775808 ≤ sh) (sh_1 : sh ≤ 9223372036854775807) (ux_0 : -9223372036854775808 ≤ ux) (ux_1 : ux ≤ 9223372036854775807) (uy_0 : -9223372036854775808 ≤ uy) (uy_1 : uy ≤ 9223372036854775807) (nm : pm ≠ b) (ns : ps ≠ b) (nu : pu ≠ b)
    (hpm : Bk pm 0 [.pointer (some ⟨b, 0, none⟩)] w) (hps : Bk ps 0 [.int .i64 sh] w) (hpu : Bk pu 0 [.int .i64 ux, .int .i64 uy] w) (hc : w.cell? ⟨b, 0, none⟩ = some (.bool o)) (hf : w.frozen? ⟨b, 0, none⟩ = false) :
    Calls Try.prog 32 #[.agg #[.int .i64 vx, .int .i64 vy], .int .i64 mass, .func (.func 18) #[.pointer (some ⟨b, 0, none⟩)] #[], .pointer (some ⟨pm, 0, none⟩), .pointer (some ⟨ps, 0, none⟩), .pointer (some ⟨pu, 0, none⟩)] w fun e w' =>
      e = .returned (.agg #[.int .i64 (tn true vx ux (ml sh mass)), .int .i64 (tn true vy uy (ml sh mass))]) ∧ Mv b (o || !(mlok sh mass && tnok true vx ux (ml sh mass) && tnok true vy uy (ml sh mass))) w w' := by
  have hb := lt_of_cell hc
  have HM := Mv.refl hc hf
  clear hc hf
  have C_M := hpm; simp only [Bk] at C_M
  have C_S := hps; simp only [Bk] at C_S
  have C_U := hpu; simp only [Bk] at C_U
  have hp1 := World.block_lt_of_cell? w _ hpm.1
  have hp2 := World.block_lt_of_cell? w _ hps.1
  have hp3 := World.block_lt_of_cell? w _ hpu.1
  have k1 := fun O W => cMl sh mass b O W sh_0 sh_1 mass_0 mass_1
  have n0 := ml_lo sh mass; have n1 := ml_hi sh mass
  generalize ml sh mass = n at *
  generalize mlok sh mass = f1 at *
  have k2 := fun O W => cMl ux n b O W ux_0 ux_1 n0 n1
  have k3 := fun O W => cMl uy n b O W uy_0 uy_1 n0 n1
  unfold tn tnok
  have p0 := ml_lo ux n; have p1 := ml_hi ux n; have q0 := ml_lo uy n; have q1 := ml_hi uy n
  simp only [ad, Bool.false_eq_true, if_false, if_true]
  generalize ml ux n = p at *
  generalize mlok ux n = f2 at *
  generalize ml uy n = q at *
  generalize mlok uy n = f3 at *
  have k4 := fun O W => cFSub vx p b O W vx_0 vx_1 p0 p1
  have k5 := fun O W => cFSub vy q b O W vy_0 vy_1 q0 q1
  have k6 := fun W => cLimited (sat (vx - p)) (sat (vy - q)) 549755813888 W (by decide) (by decide)
  generalize clm (sat (vx - p)) (-549755813888) 549755813888 = r1 at *
  generalize clm (sat (vy - q)) (-549755813888) 549755813888 = r2 at *
  generalize sat (vx - p) = s1 at *
  generalize sat (vy - q) = s2 at *
  generalize fx (vx - p) = f4 at *
  generalize fx (vy - q) = f5 at *
  clear n0 n1 p0 p1 q0 q1
  go_enter Try.func32, Try.ntmps32
  go_wp2_with (fail)
  (go_at_call 17; (with_reducible refine (mvCall (b := b) (w0 := w) (by (repeat (first | with_reducible assumption | with_reducible exact Mv.refl (by assumption) (by assumption) | with_reducible apply Mv.alloc | with_reducible apply Mv.drew | with_reducible apply Mv.drewN | ((with_reducible apply Mv.setCell); rotate_left; (first | (dsimp only; omega) | omega | (simp; omega)); (first | (dsimp only; omega) | omega | (simp; omega))) | ((with_reducible apply Mv.below); rotate_left; (with_reducible assumption)) | ((with_reducible apply Mv.trans); rotate_left; (with_reducible assumption))))) (k1 _ _)).mono ?_); rintro e9 w1 ⟨rfl, hM, HM⟩)
  have A : Bk (w.heap.size) 0 [.int .i64 vx, .int .i64 vy] w1 := Bk.mv hM (by omega) (by simp [Bk, go_sem]; done)
  have R : Bk (w.heap.size + 1) 0 [.int .i64 0, .int .i64 0] w1 := Bk.mv hM (by omega) (by simp [Bk, go_sem]; done)
  have M : Bk pm 0 [.pointer (some ⟨b, 0, none⟩)] w1 := by (repeat (first | with_reducible assumption | with_reducible apply Bk.drew | with_reducible apply Bk.alloc | with_reducible apply Bk.later (hB := hR) | with_reducible apply Bk.later (hB := hM) | ((with_reducible apply Bk.mv hM); (focus omega)) | ((with_reducible apply Bk.later); rotate_left; (with_reducible assumption)) | ((with_reducible apply Bk.put); rotate_left; (first | (dsimp only; omega)))))
  have U : Bk pu 0 [.int .i64 ux, .int .i64 uy] w1 := by (repeat (first | with_reducible assumption | with_reducible apply Bk.drew | with_reducible apply Bk.alloc | with_reducible apply Bk.later (hB := hR) | with_reducible apply Bk.later (hB := hM) | ((with_reducible apply Bk.mv hM); (focus omega)) | ((with_reducible apply Bk.later); rotate_left; (with_reducible assumption)) | ((with_reducible apply Bk.put); rotate_left; (first | (dsimp only; omega)))))
  have C_A := A; simp only [Bk] at C_A
  have C_R := R; simp only [Bk] at C_R
  have C_M := M; simp only [Bk] at C_M
  have C_U := U; simp only [Bk] at C_U
  clear hM k1
  go_upto_region 2 with (fail)
  (try refine wp_region_noPanic ?_)
  refine wp_region_held_drew (S := (fun (w' : World) => w'.cell? ⟨w.heap.size, 0, none⟩ = some (.int .i64 vx) ∧ w'.cell? ⟨w.heap.size, 1, none⟩ = some (.int .i64 vy) ∧ w'.cell? ⟨pm, 0, none⟩ = some (.pointer (some ⟨b, 0, none⟩)) ∧ w'.cell? ⟨pu, 0, none⟩ = some (.int .i64 ux) ∧ w'.cell? ⟨pu, 1, none⟩ = some (.int .i64 uy))) (by kernel_rfl) ⟨(by first | (simp (maxDischargeDepth := 6) [go_sem, *]; done)), (by first | (simp (maxDischargeDepth := 6) [go_sem, *]; done)), (by first | (simp (maxDischargeDepth := 6) [go_sem, *]; done)), (by first | (simp (maxDischargeDepth := 6) [go_sem, *]; done)), (by first | (simp (maxDischargeDepth := 6) [go_sem, *]; done))⟩ (fun hHeld => ?_)
  refine wpAnyH_take (i := 0) (v := ?_) (by simp only [List.getElem?_toArray, List.getElem?_cons_succ, List.getElem?_cons_zero]; rfl) (by kernel_rfl) (by kernel_rfl) (by kernel_rfl) (fun _ _ _ h => h) (Or.inl ⟨by rfl, ?_⟩) (by assumption) ?_
  rotate_left
  · intro w hSw; (try dsimp only at hSw); go_simp; try with_reducible rfl
  try simp only [Act.put, List.setIfInBounds_toArray, List.set_cons_zero, List.set_cons_succ]
  refine wpAnyH_take (i := 1) (v := ?_) (by simp only [List.getElem?_toArray, List.getElem?_cons_succ, List.getElem?_cons_zero]; rfl) (by kernel_rfl) (by kernel_rfl) (by kernel_rfl) (fun _ _ _ h => h) (Or.inl ⟨by rfl, ?_⟩) (by assumption) ?_
  rotate_left
  · intro w hSw; (try dsimp only at hSw); go_simp; try with_reducible rfl
  try simp only [Act.put, List.setIfInBounds_toArray, List.set_cons_zero, List.set_cons_succ]
  refine wpAnyH_take (i := 4) (v := ?_) (by simp only [List.getElem?_toArray, List.getElem?_cons_succ, List.getElem?_cons_zero]; rfl) (by kernel_rfl) (by kernel_rfl) (by kernel_rfl) (fun _ _ _ h => h) (Or.inl ⟨by rfl, ?_⟩) (by assumption) ?_
  rotate_left
  · intro w hSw; (try dsimp only at hSw); go_simp; try with_reducible rfl
  try simp only [Act.put, List.setIfInBounds_toArray, List.set_cons_zero, List.set_cons_succ]
  refine wpAnyH_take (i := 6) (v := ?_) (by simp only [List.getElem?_toArray, List.getElem?_cons_succ, List.getElem?_cons_zero]; rfl) (by kernel_rfl) (by kernel_rfl) (by kernel_rfl) (fun _ _ _ h => h) (Or.inl ⟨by rfl, ?_⟩) (by assumption) ?_
  rotate_left
  · intro w hSw; (try dsimp only at hSw); go_simp; try with_reducible rfl
  try simp only [Act.put, List.setIfInBounds_toArray, List.set_cons_zero, List.set_cons_succ]
  refine wpAnyH_take (i := 9) (v := ?_) (by simp only [List.getElem?_toArray, List.getElem?_cons_succ, List.getElem?_cons_zero]; rfl) (by kernel_rfl) (by kernel_rfl) (by kernel_rfl) (fun _ _ _ h => h) (Or.inl ⟨by rfl, ?_⟩) (by assumption) ?_
  rotate_left
  · intro w hSw; (try dsimp only at hSw); go_simp; try with_reducible rfl
  try simp only [Act.put, List.setIfInBounds_toArray, List.set_cons_zero, List.set_cons_succ]
  refine wpAnyH_take (i := 10) (v := ?_) (by simp only [List.getElem?_toArray, List.getElem?_cons_succ, List.getElem?_cons_zero]; rfl) (by kernel_rfl) (by kernel_rfl) (by kernel_rfl) (fun _ _ _ h => h) (Or.inl ⟨by rfl, ?_⟩) (by assumption) ?_
  rotate_left
  · intro w hSw; (try dsimp only at hSw); go_simp; try with_reducible rfl
  try simp only [Act.put, List.setIfInBounds_toArray, List.set_cons_zero, List.set_cons_succ]
  refine wpAnyH_take (i := 13) (v := ?_) (by simp only [List.getElem?_toArray, List.getElem?_cons_succ, List.getElem?_cons_zero]; rfl) (by kernel_rfl) (by kernel_rfl) (by kernel_rfl) (fun _ _ _ h => h) (Or.inl ⟨by rfl, ?_⟩) (by assumption) ?_
  rotate_left
  · intro w hSw; (try dsimp only at hSw); go_simp; try with_reducible rfl
  try simp only [Act.put, List.setIfInBounds_toArray, List.set_cons_zero, List.set_cons_succ]
  refine wpAnyH_take (i := 15) (v := ?_) (by simp only [List.getElem?_toArray, List.getElem?_cons_succ, List.getElem?_cons_zero]; rfl) (by kernel_rfl) (by kernel_rfl) (by kernel_rfl) (fun _ _ _ h => h) (Or.inl ⟨by rfl, ?_⟩) (by assumption) ?_
  rotate_left
  · intro w hSw; (try dsimp only at hSw); go_simp; try with_reducible rfl
  try simp only [Act.put, List.setIfInBounds_toArray, List.set_cons_zero, List.set_cons_succ]
  refine wpAnyH_take (i := 2) (v := ?_) (by simp only [List.getElem?_toArray, List.getElem?_cons_succ, List.getElem?_cons_zero]; rfl) (by kernel_rfl) (by kernel_rfl) (by kernel_rfl) (fun _ _ _ h => h) (Or.inl ⟨by rfl, ?_⟩) (by assumption) ?_
  rotate_left
  · intro w hSw; (try dsimp only at hSw); go_simp; try with_reducible rfl
  try simp only [Act.put, List.setIfInBounds_toArray, List.set_cons_zero, List.set_cons_succ]
  refine wpAnyH_take (i := 3) (v := ?_) (by simp only [List.getElem?_toArray, List.getElem?_cons_succ, List.getElem?_cons_zero]; rfl) (by kernel_rfl) (by kernel_rfl) (by kernel_rfl) (fun _ _ _ h => h) (Or.inl ⟨by rfl, ?_⟩) (by assumption) ?_
  rotate_left
  · intro w hSw; (try dsimp only at hSw); go_simp; try with_reducible rfl
  try simp only [Act.put, List.setIfInBounds_toArray, List.set_cons_zero, List.set_cons_succ]
  refine wpAnyH_take (i := 5) (v := ?_) (by simp only [List.getElem?_toArray, List.getElem?_cons_succ, List.getElem?_cons_zero]; rfl) (by kernel_rfl) (by kernel_rfl) (by kernel_rfl) (fun _ _ _ h => h) (Or.inl ⟨by rfl, ?_⟩) (by assumption) ?_
  rotate_left
  · intro w hSw; (try dsimp only at hSw); go_simp; try with_reducible rfl
  try simp only [Act.put, List.setIfInBounds_toArray, List.set_cons_zero, List.set_cons_succ]
  refine wpAnyH_take (i := 11) (v := ?_) (by simp only [List.getElem?_toArray, List.getElem?_cons_succ, List.getElem?_cons_zero]; rfl) (by kernel_rfl) (by kernel_rfl) (by kernel_rfl) (fun _ _ _ h => h) (Or.inl ⟨by rfl, ?_⟩) (by assumption) ?_
  rotate_left
  · intro w hSw; (try dsimp only at hSw); go_simp; try with_reducible rfl
  try simp only [Act.put, List.setIfInBounds_toArray, List.set_cons_zero, List.set_cons_succ]
  refine wpAnyH_take (i := 12) (v := ?_) (by simp only [List.getElem?_toArray, List.getElem?_cons_succ, List.getElem?_cons_zero]; rfl) (by kernel_rfl) (by kernel_rfl) (by kernel_rfl) (fun _ _ _ h => h) (Or.inl ⟨by rfl, ?_⟩) (by assumption) ?_
  rotate_left
  · intro w hSw; (try dsimp only at hSw); go_simp; try with_reducible rfl
  try simp only [Act.put, List.setIfInBounds_toArray, List.set_cons_zero, List.set_cons_succ]
  refine wpAnyH_take (i := 14) (v := ?_) (by simp only [List.getElem?_toArray, List.getElem?_cons_succ, List.getElem?_cons_zero]; rfl) (by kernel_rfl) (by kernel_rfl) (by kernel_rfl) (fun _ _ _ h => h) (Or.inl ⟨by rfl, ?_⟩) (by assumption) ?_
  rotate_left
  · intro w hSw; (try dsimp only at hSw); go_simp; try with_reducible rfl
  try simp only [Act.put, List.setIfInBounds_toArray, List.set_cons_zero, List.set_cons_succ]
  refine wpAnyH_ready (rs := [7]) (by kernel_rfl) (by simp) ?_
  refine AllReadyH.cons rfl (fun K hK => ?_) AllReadyH.nil
  have hOld := hHeld; clear hHeld
  go_simp
  (go_at_call 17; (with_reducible refine (mvCall (b := b) (w0 := w) (by (repeat (first | with_reducible assumption | with_reducible exact Mv.refl (by assumption) (by assumption) | with_reducible apply Mv.alloc | with_reducible apply Mv.drew | with_reducible apply Mv.drewN | ((with_reducible apply Mv.setCell); rotate_left; (first | (dsimp only; omega) | omega | (simp; omega)); (first | (dsimp only; omega) | omega | (simp; omega))) | ((with_reducible apply Mv.below); rotate_left; (with_reducible assumption)) | ((with_reducible apply Mv.trans); rotate_left; (with_reducible assumption))))) (k2 _ _)).mono ?_); rintro e w1 ⟨rfl, hM, HM⟩; have hr := mv_cell (a := ⟨w.heap.size + 1, 0, none⟩) (v := .int .i64 0) hM (by first | (dsimp only; omega) | (simp; omega)) (by first | assumption | (simp (maxDischargeDepth := 6) [go_sem, *]; done)); have hg := mv_frozen (a := ⟨w.heap.size + 1, 0, none⟩) (v := .int .i64 0) hM (by first | (dsimp only; omega) | (simp; omega)) (by first | assumption | (simp (maxDischargeDepth := 6) [go_sem, *]; done)) (by first | assumption | (simp (maxDischargeDepth := 6) [go_sem, *]; done)); have hr := mv_cell (a := ⟨w.heap.size + 1, 1, none⟩) (v := .int .i64 0) hM (by first | (dsimp only; omega) | (simp; omega)) (by first | assumption | (simp (maxDischargeDepth := 6) [go_sem, *]; done)); have hg := mv_frozen (a := ⟨w.heap.size + 1, 1, none⟩) (v := .int .i64 0) hM (by first | (dsimp only; omega) | (simp; omega)) (by first | assumption | (simp (maxDischargeDepth := 6) [go_sem, *]; done)) (by first | assumption | (simp (maxDischargeDepth := 6) [go_sem, *]; done)))
  (try go_wp2_with (fail))
  refine hK.out _ _ ⟨(by first | exact mv_cell hM (by first | (dsimp only; omega) | (simp; omega)) hOld.1 | exact cell_later hM hOld.1 | exact HT.cb | exact HT.cc | (simp (maxDischargeDepth := 6) [go_sem, *]; done)), (by first | exact mv_cell hM (by first | (dsimp only; omega) | (simp; omega)) hOld.2.1 | exact cell_later hM hOld.2.1 | exact HT.cb | exact HT.cc | (simp (maxDischargeDepth := 6) [go_sem, *]; done)), (by first | exact mv_cell hM (by first | (dsimp only; omega) | (simp; omega)) hOld.2.2.1 | exact cell_later hM hOld.2.2.1 | exact HT.cb | exact HT.cc | (simp (maxDischargeDepth := 6) [go_sem, *]; done)), (by first | exact mv_cell hM (by first | (dsimp only; omega) | (simp; omega)) hOld.2.2.2.1 | exact cell_later hM hOld.2.2.2.1 | exact HT.cb | exact HT.cc | (simp (maxDischargeDepth := 6) [go_sem, *]; done)), (by first | exact mv_cell hM (by first | (dsimp only; omega) | (simp; omega)) hOld.2.2.2.2 | exact cell_later hM hOld.2.2.2.2 | exact HT.cb | exact HT.cc | (simp (maxDischargeDepth := 6) [go_sem, *]; done))⟩ (fun hHeld => ?_)
  clear hK K hOld
  try simp only [Act.put, List.setIfInBounds_toArray, List.set_cons_zero, List.set_cons_succ]
  refine wpAnyH_ready (rs := [8]) (by kernel_rfl) (by simp) ?_
  refine AllReadyH.cons rfl (fun K hK => ?_) AllReadyH.nil
  have hOld := hHeld; clear hHeld
  go_simp
  (go_at_call 18; (with_reducible refine (mvCall (b := b) (w0 := w) (by (repeat (first | with_reducible assumption | with_reducible exact Mv.refl (by assumption) (by assumption) | with_reducible apply Mv.alloc | with_reducible apply Mv.drew | with_reducible apply Mv.drewN | ((with_reducible apply Mv.setCell); rotate_left; (first | (dsimp only; omega) | omega | (simp; omega)); (first | (dsimp only; omega) | omega | (simp; omega))) | ((with_reducible apply Mv.below); rotate_left; (with_reducible assumption)) | ((with_reducible apply Mv.trans); rotate_left; (with_reducible assumption))))) (k4 _ _)).mono ?_); rintro e w1 ⟨rfl, hM, HM⟩; have hr := mv_cell (a := ⟨w.heap.size + 1, 0, none⟩) (v := .int .i64 0) hM (by first | (dsimp only; omega) | (simp; omega)) (by first | assumption | (simp (maxDischargeDepth := 6) [go_sem, *]; done)); have hg := mv_frozen (a := ⟨w.heap.size + 1, 0, none⟩) (v := .int .i64 0) hM (by first | (dsimp only; omega) | (simp; omega)) (by first | assumption | (simp (maxDischargeDepth := 6) [go_sem, *]; done)) (by first | assumption | (simp (maxDischargeDepth := 6) [go_sem, *]; done)); have hr := mv_cell (a := ⟨w.heap.size + 1, 1, none⟩) (v := .int .i64 0) hM (by first | (dsimp only; omega) | (simp; omega)) (by first | assumption | (simp (maxDischargeDepth := 6) [go_sem, *]; done)); have hg := mv_frozen (a := ⟨w.heap.size + 1, 1, none⟩) (v := .int .i64 0) hM (by first | (dsimp only; omega) | (simp; omega)) (by first | assumption | (simp (maxDischargeDepth := 6) [go_sem, *]; done)) (by first | assumption | (simp (maxDischargeDepth := 6) [go_sem, *]; done)))
  (try go_wp2_with (fail))
  refine hK.out _ _ ⟨(by first | exact mv_cell hM (by first | (dsimp only; omega) | (simp; omega)) hOld.1 | exact cell_later hM hOld.1 | exact HT.cb | exact HT.cc | (simp (maxDischargeDepth := 6) [go_sem, *]; done)), (by first | exact mv_cell hM (by first | (dsimp only; omega) | (simp; omega)) hOld.2.1 | exact cell_later hM hOld.2.1 | exact HT.cb | exact HT.cc | (simp (maxDischargeDepth := 6) [go_sem, *]; done)), (by first | exact mv_cell hM (by first | (dsimp only; omega) | (simp; omega)) hOld.2.2.1 | exact cell_later hM hOld.2.2.1 | exact HT.cb | exact HT.cc | (simp (maxDischargeDepth := 6) [go_sem, *]; done)), (by first | exact mv_cell hM (by first | (dsimp only; omega) | (simp; omega)) hOld.2.2.2.1 | exact cell_later hM hOld.2.2.2.1 | exact HT.cb | exact HT.cc | (simp (maxDischargeDepth := 6) [go_sem, *]; done)), (by first | exact mv_cell hM (by first | (dsimp only; omega) | (simp; omega)) hOld.2.2.2.2 | exact cell_later hM hOld.2.2.2.2 | exact HT.cb | exact HT.cc | (simp (maxDischargeDepth := 6) [go_sem, *]; done))⟩ (fun hHeld => ?_)
  clear hK K hOld
  try simp only [Act.put, List.setIfInBounds_toArray, List.set_cons_zero, List.set_cons_succ]
  refine wpAnyH_ready (rs := [16]) (by kernel_rfl) (by simp) ?_
  refine AllReadyH.cons rfl (fun K hK => ?_) AllReadyH.nil
  have hOld := hHeld; clear hHeld
  go_simp
  (go_at_call 17; (with_reducible refine (mvCall (b := b) (w0 := w) (by (repeat (first | with_reducible assumption | with_reducible exact Mv.refl (by assumption) (by assumption) | with_reducible apply Mv.alloc | with_reducible apply Mv.drew | with_reducible apply Mv.drewN | ((with_reducible apply Mv.setCell); rotate_left; (first | (dsimp only; omega) | omega | (simp; omega)); (first | (dsimp only; omega) | omega | (simp; omega))) | ((with_reducible apply Mv.below); rotate_left; (with_reducible assumption)) | ((with_reducible apply Mv.trans); rotate_left; (with_reducible assumption))))) (k3 _ _)).mono ?_); rintro e w1 ⟨rfl, hM, HM⟩; have hr := mv_cell (a := ⟨w.heap.size + 1, 0, none⟩) (v := .int .i64 0) hM (by first | (dsimp only; omega) | (simp; omega)) (by first | assumption | (simp (maxDischargeDepth := 6) [go_sem, *]; done)); have hg := mv_frozen (a := ⟨w.heap.size + 1, 0, none⟩) (v := .int .i64 0) hM (by first | (dsimp only; omega) | (simp; omega)) (by first | assumption | (simp (maxDischargeDepth := 6) [go_sem, *]; done)) (by first | assumption | (simp (maxDischargeDepth := 6) [go_sem, *]; done)); have hr := mv_cell (a := ⟨w.heap.size + 1, 1, none⟩) (v := .int .i64 0) hM (by first | (dsimp only; omega) | (simp; omega)) (by first | assumption | (simp (maxDischargeDepth := 6) [go_sem, *]; done)); have hg := mv_frozen (a := ⟨w.heap.size + 1, 1, none⟩) (v := .int .i64 0) hM (by first | (dsimp only; omega) | (simp; omega)) (by first | assumption | (simp (maxDischargeDepth := 6) [go_sem, *]; done)) (by first | assumption | (simp (maxDischargeDepth := 6) [go_sem, *]; done)))
  (try go_wp2_with (fail))
  refine hK.out _ _ ⟨(by first | exact mv_cell hM (by first | (dsimp only; omega) | (simp; omega)) hOld.1 | exact cell_later hM hOld.1 | exact HT.cb | exact HT.cc | (simp (maxDischargeDepth := 6) [go_sem, *]; done)), (by first | exact mv_cell hM (by first | (dsimp only; omega) | (simp; omega)) hOld.2.1 | exact cell_later hM hOld.2.1 | exact HT.cb | exact HT.cc | (simp (maxDischargeDepth := 6) [go_sem, *]; done)), (by first | exact mv_cell hM (by first | (dsimp only; omega) | (simp; omega)) hOld.2.2.1 | exact cell_later hM hOld.2.2.1 | exact HT.cb | exact HT.cc | (simp (maxDischargeDepth := 6) [go_sem, *]; done)), (by first | exact mv_cell hM (by first | (dsimp only; omega) | (simp; omega)) hOld.2.2.2.1 | exact cell_later hM hOld.2.2.2.1 | exact HT.cb | exact HT.cc | (simp (maxDischargeDepth := 6) [go_sem, *]; done)), (by first | exact mv_cell hM (by first | (dsimp only; omega) | (simp; omega)) hOld.2.2.2.2 | exact cell_later hM hOld.2.2.2.2 | exact HT.cb | exact HT.cc | (simp (maxDischargeDepth := 6) [go_sem, *]; done))⟩ (fun hHeld => ?_)
  clear hK K hOld
  try simp only [Act.put, List.setIfInBounds_toArray, List.set_cons_zero, List.set_cons_succ]
  refine wpAnyH_ready (rs := [17]) (by kernel_rfl) (by simp) ?_
  refine AllReadyH.cons rfl (fun K hK => ?_) AllReadyH.nil
  have hOld := hHeld; clear hHeld
  go_simp
  (go_at_call 18; (with_reducible refine (mvCall (b := b) (w0 := w) (by (repeat (first | with_reducible assumption | with_reducible exact Mv.refl (by assumption) (by assumption) | with_reducible apply Mv.alloc | with_reducible apply Mv.drew | with_reducible apply Mv.drewN | ((with_reducible apply Mv.setCell); rotate_left; (first | (dsimp only; omega) | omega | (simp; omega)); (first | (dsimp only; omega) | omega | (simp; omega))) | ((with_reducible apply Mv.below); rotate_left; (with_reducible assumption)) | ((with_reducible apply Mv.trans); rotate_left; (with_reducible assumption))))) (k5 _ _)).mono ?_); rintro e w1 ⟨rfl, hM, HM⟩; have hr := mv_cell (a := ⟨w.heap.size + 1, 0, none⟩) (v := .int .i64 0) hM (by first | (dsimp only; omega) | (simp; omega)) (by first | assumption | (simp (maxDischargeDepth := 6) [go_sem, *]; done)); have hg := mv_frozen (a := ⟨w.heap.size + 1, 0, none⟩) (v := .int .i64 0) hM (by first | (dsimp only; omega) | (simp; omega)) (by first | assumption | (simp (maxDischargeDepth := 6) [go_sem, *]; done)) (by first | assumption | (simp (maxDischargeDepth := 6) [go_sem, *]; done)); have hr := mv_cell (a := ⟨w.heap.size + 1, 1, none⟩) (v := .int .i64 0) hM (by first | (dsimp only; omega) | (simp; omega)) (by first | assumption | (simp (maxDischargeDepth := 6) [go_sem, *]; done)); have hg := mv_frozen (a := ⟨w.heap.size + 1, 1, none⟩) (v := .int .i64 0) hM (by first | (dsimp only; omega) | (simp; omega)) (by first | assumption | (simp (maxDischargeDepth := 6) [go_sem, *]; done)) (by first | assumption | (simp (maxDischargeDepth := 6) [go_sem, *]; done)))
  (try go_wp2_with (fail))
  refine hK.out _ _ ⟨(by first | exact mv_cell hM (by first | (dsimp only; omega) | (simp; omega)) hOld.1 | exact cell_later hM hOld.1 | exact HT.cb | exact HT.cc | (simp (maxDischargeDepth := 6) [go_sem, *]; done)), (by first | exact mv_cell hM (by first | (dsimp only; omega) | (simp; omega)) hOld.2.1 | exact cell_later hM hOld.2.1 | exact HT.cb | exact HT.cc | (simp (maxDischargeDepth := 6) [go_sem, *]; done)), (by first | exact mv_cell hM (by first | (dsimp only; omega) | (simp; omega)) hOld.2.2.1 | exact cell_later hM hOld.2.2.1 | exact HT.cb | exact HT.cc | (simp (maxDischargeDepth := 6) [go_sem, *]; done)), (by first | exact mv_cell hM (by first | (dsimp only; omega) | (simp; omega)) hOld.2.2.2.1 | exact cell_later hM hOld.2.2.2.1 | exact HT.cb | exact HT.cc | (simp (maxDischargeDepth := 6) [go_sem, *]; done)), (by first | exact mv_cell hM (by first | (dsimp only; omega) | (simp; omega)) hOld.2.2.2.2 | exact cell_later hM hOld.2.2.2.2 | exact HT.cb | exact HT.cc | (simp (maxDischargeDepth := 6) [go_sem, *]; done))⟩ (fun hHeld => ?_)
  clear hK K hOld
  try simp only [Act.put, List.setIfInBounds_toArray, List.set_cons_zero, List.set_cons_succ]
  refine wpAnyH_take (i := 18) (v := ?_) (by simp only [List.getElem?_toArray, List.getElem?_cons_succ, List.getElem?_cons_zero]; rfl) (by kernel_rfl) (by kernel_rfl) (by kernel_rfl) (fun _ _ _ h => h) (Or.inl ⟨by rfl, ?_⟩) (by assumption) ?_
  rotate_left
  · intro w hSw; (try dsimp only at hSw); go_simp; try with_reducible rfl
  try simp only [Act.put, List.setIfInBounds_toArray, List.set_cons_zero, List.set_cons_succ]
  refine wpAnyH_ready (rs := [19]) (by kernel_rfl) (by simp) ?_
  refine AllReadyH.cons rfl (fun K hK => ?_) AllReadyH.nil
  have hOld := hHeld; clear hHeld
  go_simp
  (go_at_call 33; (with_reducible refine (k6 _).mono ?_); rintro e w1 ⟨rfl, hM⟩; have hr := cell_later (a := ⟨w.heap.size + 1, 0, none⟩) (v := .int .i64 0) hM (by first | assumption | (simp (maxDischargeDepth := 6) [go_sem, *]; done)); have hg := frozen_later (a := ⟨w.heap.size + 1, 0, none⟩) (v := .int .i64 0) hM (by first | assumption | (simp (maxDischargeDepth := 6) [go_sem, *]; done)) (by first | assumption | (simp (maxDischargeDepth := 6) [go_sem, *]; done)); have hr := cell_later (a := ⟨w.heap.size + 1, 1, none⟩) (v := .int .i64 0) hM (by first | assumption | (simp (maxDischargeDepth := 6) [go_sem, *]; done)); have hg := frozen_later (a := ⟨w.heap.size + 1, 1, none⟩) (v := .int .i64 0) hM (by first | assumption | (simp (maxDischargeDepth := 6) [go_sem, *]; done)) (by first | assumption | (simp (maxDischargeDepth := 6) [go_sem, *]; done)))
  (try go_wp2_with (fail))
  refine hK.out _ _ ⟨(by first | exact mv_cell hM (by first | (dsimp only; omega) | (simp; omega)) hOld.1 | exact cell_later hM hOld.1 | exact HT.cb | exact HT.cc | (simp (maxDischargeDepth := 6) [go_sem, *]; done)), (by first | exact mv_cell hM (by first | (dsimp only; omega) | (simp; omega)) hOld.2.1 | exact cell_later hM hOld.2.1 | exact HT.cb | exact HT.cc | (simp (maxDischargeDepth := 6) [go_sem, *]; done)), (by first | exact mv_cell hM (by first | (dsimp only; omega) | (simp; omega)) hOld.2.2.1 | exact cell_later hM hOld.2.2.1 | exact HT.cb | exact HT.cc | (simp (maxDischargeDepth := 6) [go_sem, *]; done)), (by first | exact mv_cell hM (by first | (dsimp only; omega) | (simp; omega)) hOld.2.2.2.1 | exact cell_later hM hOld.2.2.2.1 | exact HT.cb | exact HT.cc | (simp (maxDischargeDepth := 6) [go_sem, *]; done)), (by first | exact mv_cell hM (by first | (dsimp only; omega) | (simp; omega)) hOld.2.2.2.2 | exact cell_later hM hOld.2.2.2.2 | exact HT.cb | exact HT.cc | (simp (maxDischargeDepth := 6) [go_sem, *]; done))⟩ (fun hHeld => ?_)
  clear hK K hOld
  try simp only [Act.put, List.setIfInBounds_toArray, List.set_cons_zero, List.set_cons_succ]
  refine wpAnyH_ready (rs := [20]) (by kernel_rfl) (by simp) ?_
  refine AllReadyH.cons rfl (fun K hK => ?_) AllReadyH.nil
  have hOld := hHeld; clear hHeld
  go_simp
  (try go_wp2_with (fail))
  refine hK.out _ _ ⟨(by first | exact mv_cell hM (by first | (dsimp only; omega) | (simp; omega)) hOld.1 | exact cell_later hM hOld.1 | exact HT.cb | exact HT.cc | (simp (maxDischargeDepth := 6) [go_sem, *]; done)), (by first | exact mv_cell hM (by first | (dsimp only; omega) | (simp; omega)) hOld.2.1 | exact cell_later hM hOld.2.1 | exact HT.cb | exact HT.cc | (simp (maxDischargeDepth := 6) [go_sem, *]; done)), (by first | exact mv_cell hM (by first | (dsimp only; omega) | (simp; omega)) hOld.2.2.1 | exact cell_later hM hOld.2.2.1 | exact HT.cb | exact HT.cc | (simp (maxDischargeDepth := 6) [go_sem, *]; done)), (by first | exact mv_cell hM (by first | (dsimp only; omega) | (simp; omega)) hOld.2.2.2.1 | exact cell_later hM hOld.2.2.2.1 | exact HT.cb | exact HT.cc | (simp (maxDischargeDepth := 6) [go_sem, *]; done)), (by first | exact mv_cell hM (by first | (dsimp only; omega) | (simp; omega)) hOld.2.2.2.2 | exact cell_later hM hOld.2.2.2.2 | exact HT.cb | exact HT.cc | (simp (maxDischargeDepth := 6) [go_sem, *]; done))⟩ (fun hHeld => ?_)
  clear hK K hOld
  try simp only [Act.put, List.setIfInBounds_toArray, List.set_cons_zero, List.set_cons_succ]
  refine wpAnyH_done (by kernel_rfl) ?_ _
  (try refine NoPanic.normal ?_)
  (try clear q0); (try clear q1); (try clear q2); (try clear q3); (try clear q4); obtain ⟨q0, q1, q2, q3, q4⟩ := hHeld
  go_wp2
  simp (maxDischargeDepth := 8) [bodyPost, results, Try.results32, go_sem, *]
  exact Mv.cast (by (repeat (first | with_reducible assumption | with_reducible exact Mv.refl (by assumption) (by assumption) | with_reducible apply Mv.alloc | with_reducible apply Mv.drew | with_reducible apply Mv.drewN | ((with_reducible apply Mv.setCell); rotate_left; (first | (dsimp only; omega) | omega | (simp; omega)); (first | (dsimp only; omega) | omega | (simp; omega))) | ((with_reducible apply Mv.below); rotate_left; (with_reducible assumption)) | ((with_reducible apply Mv.trans); rotate_left; (with_reducible assumption))))) (by cases o <;> cases f1 <;> cases f2 <;> cases f3 <;> cases f4 <;> cases f5 <;> rfl)
set_option maxHeartbeats 4000000 in
theorem cBTurnAdd (vx vy mass sh ux uy : Int) (b pm ps pu : Nat) (o : Bool) (w : World) (vx_0 : -9223372036854775808 ≤ vx) (vx_1 : vx ≤ 9223372036854775807) (vy_0 : -9223372036854775808 ≤ vy) (vy_1 : vy ≤ 9223372036854775807) (mass_0 : -9223372036854775808 ≤ mass) (mass_1 : mass ≤ 9223372036854775807) (sh_0 : -9223372036854775808 ≤ sh) (sh_1 : sh ≤ 9223372036854775807) (ux_0 : -9223372036854775808 ≤ ux) (ux_1 : ux ≤ 9223372036854775807) (uy_0 : -9223372036854775808 ≤ uy) (uy_1 : uy ≤ 9223372036854775807) (nm : pm ≠ b) (ns : ps ≠ b) (nu : pu ≠ b)
    (hpm : Bk pm 0 [.pointer (some ⟨b, 0, none⟩)] w) (hps : Bk ps 0 [.int .i64 sh] w) (hpu : Bk pu 0 [.int .i64 ux, .int .i64 uy] w) (hc : w.cell? ⟨b, 0, none⟩ = some (.bool o)) (hf : w.frozen? ⟨b, 0, none⟩ = false) :
    Calls Try.prog 32 #[.agg #[.int .i64 vx, .int .i64 vy], .int .i64 mass, .func (.func 16) #[.pointer (some ⟨b, 0, none⟩)] #[], .pointer (some ⟨pm, 0, none⟩), .pointer (some ⟨ps, 0, none⟩), .pointer (some ⟨pu, 0, none⟩)] w fun e w' =>
      e = .returned (.agg #[.int .i64 (tn false vx ux (ml sh mass)), .int .i64 (tn false vy uy (ml sh mass))]) ∧ Mv b (o || !(mlok sh mass && tnok false vx ux (ml sh mass) && tnok false vy uy (ml sh mass))) w w' := by
  have hb := lt_of_cell hc
  have HM := Mv.refl hc hf
  clear hc hf
  have C_M := hpm; simp only [Bk] at C_M
  have C_S := hps; simp only [Bk] at C_S
  have C_U := hpu; simp only [Bk] at C_U
  have hp1 := World.block_lt_of_cell? w _ hpm.1
  have hp2 := World.block_lt_of_cell? w _ hps.1
  have hp3 := World.block_lt_of_cell? w _ hpu.1
  have k1 := fun O W => cMl sh mass b O W sh_0 sh_1 mass_0 mass_1
  have n0 := ml_lo sh mass; have n1 := ml_hi sh mass
  generalize ml sh mass = n at *
  generalize mlok sh mass = f1 at *
  have k2 := fun O W => cMl ux n b O W ux_0 ux_1 n0 n1
  have k3 := fun O W => cMl uy n b O W uy_0 uy_1 n0 n1
  unfold tn tnok
  have p0 := ml_lo ux n; have p1 := ml_hi ux n; have q0 := ml_lo uy n; have q1 := ml_hi uy n
  simp only [ad, Bool.false_eq_true, if_false, if_true]
  generalize ml ux n = p at *
  generalize mlok ux n = f2 at *
  generalize ml uy n = q at *
  generalize mlok uy n = f3 at *
  have k4 := fun O W => cFAdd vx p b O W vx_0 vx_1 p0 p1
  have k5 := fun O W => cFAdd vy q b O W vy_0 vy_1 q0 q1
  have k6 := fun W => cLimited (sat (vx + p)) (sat (vy + q)) 549755813888 W (by decide) (by decide)
  generalize clm (sat (vx + p)) (-549755813888) 549755813888 = r1 at *
  generalize clm (sat (vy + q)) (-549755813888) 549755813888 = r2 at *
  generalize sat (vx + p) = s1 at *
  generalize sat (vy + q) = s2 at *
  generalize fx (vx + p) = f4 at *
  generalize fx (vy + q) = f5 at *
  clear n0 n1 p0 p1 q0 q1
  go_enter Try.func32, Try.ntmps32
  go_wp2_with (fail)
  (go_at_call 17; (with_reducible refine (mvCall (b := b) (w0 := w) (by (repeat (first | with_reducible assumption | with_reducible exact Mv.refl (by assumption) (by assumption) | with_reducible apply Mv.alloc | with_reducible apply Mv.drew | with_reducible apply Mv.drewN | ((with_reducible apply Mv.setCell); rotate_left; (first | (dsimp only; omega) | omega | (simp; omega)); (first | (dsimp only; omega) | omega | (simp; omega))) | ((with_reducible apply Mv.below); rotate_left; (with_reducible assumption)) | ((with_reducible apply Mv.trans); rotate_left; (with_reducible assumption))))) (k1 _ _)).mono ?_); rintro e9 w1 ⟨rfl, hM, HM⟩)
  have A : Bk (w.heap.size) 0 [.int .i64 vx, .int .i64 vy] w1 := Bk.mv hM (by omega) (by simp [Bk, go_sem]; done)
  have R : Bk (w.heap.size + 1) 0 [.int .i64 0, .int .i64 0] w1 := Bk.mv hM (by omega) (by simp [Bk, go_sem]; done)
  have M : Bk pm 0 [.pointer (some ⟨b, 0, none⟩)] w1 := by (repeat (first | with_reducible assumption | with_reducible apply Bk.drew | with_reducible apply Bk.alloc | with_reducible apply Bk.later (hB := hR) | with_reducible apply Bk.later (hB := hM) | ((with_reducible apply Bk.mv hM); (focus omega)) | ((with_reducible apply Bk.later); rotate_left; (with_reducible assumption)) | ((with_reducible apply Bk.put); rotate_left; (first | (dsimp only; omega)))))
  have U : Bk pu 0 [.int .i64 ux, .int .i64 uy] w1 := by (repeat (first | with_reducible assumption | with_reducible apply Bk.drew | with_reducible apply Bk.alloc | with_reducible apply Bk.later (hB := hR) | with_reducible apply Bk.later (hB := hM) | ((with_reducible apply Bk.mv hM); (focus omega)) | ((with_reducible apply Bk.later); rotate_left; (with_reducible assumption)) | ((with_reducible apply Bk.put); rotate_left; (first | (dsimp only; omega)))))
  have C_A := A; simp only [Bk] at C_A
  have C_R := R; simp only [Bk] at C_R
  have C_M := M; simp only [Bk] at C_M
  have C_U := U; simp only [Bk] at C_U
  clear hM k1
  go_upto_region 2 with (fail)
  (try refine wp_region_noPanic ?_)
  refine wp_region_held_drew (S := (fun (w' : World) => w'.cell? ⟨w.heap.size, 0, none⟩ = some (.int .i64 vx) ∧ w'.cell? ⟨w.heap.size, 1, none⟩ = some (.int .i64 vy) ∧ w'.cell? ⟨pm, 0, none⟩ = some (.pointer (some ⟨b, 0, none⟩)) ∧ w'.cell? ⟨pu, 0, none⟩ = some (.int .i64 ux) ∧ w'.cell? ⟨pu, 1, none⟩ = some (.int .i64 uy))) (by kernel_rfl) ⟨(by first | (simp (maxDischargeDepth := 6) [go_sem, *]; done)), (by first | (simp (maxDischargeDepth := 6) [go_sem, *]; done)), (by first | (simp (maxDischargeDepth := 6) [go_sem, *]; done)), (by first | (simp (maxDischargeDepth := 6) [go_sem, *]; done)), (by first | (simp (maxDischargeDepth := 6) [go_sem, *]; done))⟩ (fun hHeld => ?_)
  refine wpAnyH_take (i := 0) (v := ?_) (by simp only [List.getElem?_toArray, List.getElem?_cons_succ, List.getElem?_cons_zero]; rfl) (by kernel_rfl) (by kernel_rfl) (by kernel_rfl) (fun _ _ _ h => h) (Or.inl ⟨by rfl, ?_⟩) (by assumption) ?_
  rotate_left
  · intro w hSw; (try dsimp only at hSw); go_simp; try with_reducible rfl
  try simp only [Act.put, List.setIfInBounds_toArray, List.set_cons_zero, List.set_cons_succ]
  refine wpAnyH_take (i := 1) (v := ?_) (by simp only [List.getElem?_toArray, List.getElem?_cons_succ, List.getElem?_cons_zero]; rfl) (by kernel_rfl) (by kernel_rfl) (by kernel_rfl) (fun _ _ _ h => h) (Or.inl ⟨by rfl, ?_⟩) (by assumption) ?_
  rotate_left
  · intro w hSw; (try dsimp only at hSw); go_simp; try with_reducible rfl
  try simp only [Act.put, List.setIfInBounds_toArray, List.set_cons_zero, List.set_cons_succ]
  refine wpAnyH_take (i := 4) (v := ?_) (by simp only [List.getElem?_toArray, List.getElem?_cons_succ, List.getElem?_cons_zero]; rfl) (by kernel_rfl) (by kernel_rfl) (by kernel_rfl) (fun _ _ _ h => h) (Or.inl ⟨by rfl, ?_⟩) (by assumption) ?_
  rotate_left
  · intro w hSw; (try dsimp only at hSw); go_simp; try with_reducible rfl
  try simp only [Act.put, List.setIfInBounds_toArray, List.set_cons_zero, List.set_cons_succ]
  refine wpAnyH_take (i := 6) (v := ?_) (by simp only [List.getElem?_toArray, List.getElem?_cons_succ, List.getElem?_cons_zero]; rfl) (by kernel_rfl) (by kernel_rfl) (by kernel_rfl) (fun _ _ _ h => h) (Or.inl ⟨by rfl, ?_⟩) (by assumption) ?_
  rotate_left
  · intro w hSw; (try dsimp only at hSw); go_simp; try with_reducible rfl
  try simp only [Act.put, List.setIfInBounds_toArray, List.set_cons_zero, List.set_cons_succ]
  refine wpAnyH_take (i := 9) (v := ?_) (by simp only [List.getElem?_toArray, List.getElem?_cons_succ, List.getElem?_cons_zero]; rfl) (by kernel_rfl) (by kernel_rfl) (by kernel_rfl) (fun _ _ _ h => h) (Or.inl ⟨by rfl, ?_⟩) (by assumption) ?_
  rotate_left
  · intro w hSw; (try dsimp only at hSw); go_simp; try with_reducible rfl
  try simp only [Act.put, List.setIfInBounds_toArray, List.set_cons_zero, List.set_cons_succ]
  refine wpAnyH_take (i := 10) (v := ?_) (by simp only [List.getElem?_toArray, List.getElem?_cons_succ, List.getElem?_cons_zero]; rfl) (by kernel_rfl) (by kernel_rfl) (by kernel_rfl) (fun _ _ _ h => h) (Or.inl ⟨by rfl, ?_⟩) (by assumption) ?_
  rotate_left
  · intro w hSw; (try dsimp only at hSw); go_simp; try with_reducible rfl
  try simp only [Act.put, List.setIfInBounds_toArray, List.set_cons_zero, List.set_cons_succ]
  refine wpAnyH_take (i := 13) (v := ?_) (by simp only [List.getElem?_toArray, List.getElem?_cons_succ, List.getElem?_cons_zero]; rfl) (by kernel_rfl) (by kernel_rfl) (by kernel_rfl) (fun _ _ _ h => h) (Or.inl ⟨by rfl, ?_⟩) (by assumption) ?_
  rotate_left
  · intro w hSw; (try dsimp only at hSw); go_simp; try with_reducible rfl
  try simp only [Act.put, List.setIfInBounds_toArray, List.set_cons_zero, List.set_cons_succ]
  refine wpAnyH_take (i := 15) (v := ?_) (by simp only [List.getElem?_toArray, List.getElem?_cons_succ, List.getElem?_cons_zero]; rfl) (by kernel_rfl) (by kernel_rfl) (by kernel_rfl) (fun _ _ _ h => h) (Or.inl ⟨by rfl, ?_⟩) (by assumption) ?_
  rotate_left
  · intro w hSw; (try dsimp only at hSw); go_simp; try with_reducible rfl
  try simp only [Act.put, List.setIfInBounds_toArray, List.set_cons_zero, List.set_cons_succ]
  refine wpAnyH_take (i := 2) (v := ?_) (by simp only [List.getElem?_toArray, List.getElem?_cons_succ, List.getElem?_cons_zero]; rfl) (by kernel_rfl) (by kernel_rfl) (by kernel_rfl) (fun _ _ _ h => h) (Or.inl ⟨by rfl, ?_⟩) (by assumption) ?_
  rotate_left
  · intro w hSw; (try dsimp only at hSw); go_simp; try with_reducible rfl
  try simp only [Act.put, List.setIfInBounds_toArray, List.set_cons_zero, List.set_cons_succ]
  refine wpAnyH_take (i := 3) (v := ?_) (by simp only [List.getElem?_toArray, List.getElem?_cons_succ, List.getElem?_cons_zero]; rfl) (by kernel_rfl) (by kernel_rfl) (by kernel_rfl) (fun _ _ _ h => h) (Or.inl ⟨by rfl, ?_⟩) (by assumption) ?_
  rotate_left
  · intro w hSw; (try dsimp only at hSw); go_simp; try with_reducible rfl
  try simp only [Act.put, List.setIfInBounds_toArray, List.set_cons_zero, List.set_cons_succ]
  refine wpAnyH_take (i := 5) (v := ?_) (by simp only [List.getElem?_toArray, List.getElem?_cons_succ, List.getElem?_cons_zero]; rfl) (by kernel_rfl) (by kernel_rfl) (by kernel_rfl) (fun _ _ _ h => h) (Or.inl ⟨by rfl, ?_⟩) (by assumption) ?_
  rotate_left
  · intro w hSw; (try dsimp only at hSw); go_simp; try with_reducible rfl
  try simp only [Act.put, List.setIfInBounds_toArray, List.set_cons_zero, List.set_cons_succ]
  refine wpAnyH_take (i := 11) (v := ?_) (by simp only [List.getElem?_toArray, List.getElem?_cons_succ, List.getElem?_cons_zero]; rfl) (by kernel_rfl) (by kernel_rfl) (by kernel_rfl) (fun _ _ _ h => h) (Or.inl ⟨by rfl, ?_⟩) (by assumption) ?_
  rotate_left
  · intro w hSw; (try dsimp only at hSw); go_simp; try with_reducible rfl
  try simp only [Act.put, List.setIfInBounds_toArray, List.set_cons_zero, List.set_cons_succ]
  refine wpAnyH_take (i := 12) (v := ?_) (by simp only [List.getElem?_toArray, List.getElem?_cons_succ, List.getElem?_cons_zero]; rfl) (by kernel_rfl) (by kernel_rfl) (by kernel_rfl) (fun _ _ _ h => h) (Or.inl ⟨by rfl, ?_⟩) (by assumption) ?_
  rotate_left
  · intro w hSw; (try dsimp only at hSw); go_simp; try with_reducible rfl
  try simp only [Act.put, List.setIfInBounds_toArray, List.set_cons_zero, List.set_cons_succ]
  refine wpAnyH_take (i := 14) (v := ?_) (by simp only [List.getElem?_toArray, List.getElem?_cons_succ, List.getElem?_cons_zero]; rfl) (by kernel_rfl) (by kernel_rfl) (by kernel_rfl) (fun _ _ _ h => h) (Or.inl ⟨by rfl, ?_⟩) (by assumption) ?_
  rotate_left
  · intro w hSw; (try dsimp only at hSw); go_simp; try with_reducible rfl
  try simp only [Act.put, List.setIfInBounds_toArray, List.set_cons_zero, List.set_cons_succ]
  refine wpAnyH_ready (rs := [7]) (by kernel_rfl) (by simp) ?_
  refine AllReadyH.cons rfl (fun K hK => ?_) AllReadyH.nil
  have hOld := hHeld; clear hHeld
  go_simp
  (go_at_call 17; (with_reducible refine (mvCall (b := b) (w0 := w) (by (repeat (first | with_reducible assumption | with_reducible exact Mv.refl (by assumption) (by assumption) | with_reducible apply Mv.alloc | with_reducible apply Mv.drew | with_reducible apply Mv.drewN | ((with_reducible apply Mv.setCell); rotate_left; (first | (dsimp only; omega) | omega | (simp; omega)); (first | (dsimp only; omega) | omega | (simp; omega))) | ((with_reducible apply Mv.below); rotate_left; (with_reducible assumption)) | ((with_reducible apply Mv.trans); rotate_left; (with_reducible assumption))))) (k2 _ _)).mono ?_); rintro e w1 ⟨rfl, hM, HM⟩; have hr := mv_cell (a := ⟨w.heap.size + 1, 0, none⟩) (v := .int .i64 0) hM (by first | (dsimp only; omega) | (simp; omega)) (by first | assumption | (simp (maxDischargeDepth := 6) [go_sem, *]; done)); have hg := mv_frozen (a := ⟨w.heap.size + 1, 0, none⟩) (v := .int .i64 0) hM (by first | (dsimp only; omega) | (simp; omega)) (by first | assumption | (simp (maxDischargeDepth := 6) [go_sem, *]; done)) (by first | assumption | (simp (maxDischargeDepth := 6) [go_sem, *]; done)); have hr := mv_cell (a := ⟨w.heap.size + 1, 1, none⟩) (v := .int .i64 0) hM (by first | (dsimp only; omega) | (simp; omega)) (by first | assumption | (simp (maxDischargeDepth := 6) [go_sem, *]; done)); have hg := mv_frozen (a := ⟨w.heap.size + 1, 1, none⟩) (v := .int .i64 0) hM (by first | (dsimp only; omega) | (simp; omega)) (by first | assumption | (simp (maxDischargeDepth := 6) [go_sem, *]; done)) (by first | assumption | (simp (maxDischargeDepth := 6) [go_sem, *]; done)))
  (try go_wp2_with (fail))
  refine hK.out _ _ ⟨(by first | exact mv_cell hM (by first | (dsimp only; omega) | (simp; omega)) hOld.1 | exact cell_later hM hOld.1 | exact HT.cb | exact HT.cc | (simp (maxDischargeDepth := 6) [go_sem, *]; done)), (by first | exact mv_cell hM (by first | (dsimp only; omega) | (simp; omega)) hOld.2.1 | exact cell_later hM hOld.2.1 | exact HT.cb | exact HT.cc | (simp (maxDischargeDepth := 6) [go_sem, *]; done)), (by first | exact mv_cell hM (by first | (dsimp only; omega) | (simp; omega)) hOld.2.2.1 | exact cell_later hM hOld.2.2.1 | exact HT.cb | exact HT.cc | (simp (maxDischargeDepth := 6) [go_sem, *]; done)), (by first | exact mv_cell hM (by first | (dsimp only; omega) | (simp; omega)) hOld.2.2.2.1 | exact cell_later hM hOld.2.2.2.1 | exact HT.cb | exact HT.cc | (simp (maxDischargeDepth := 6) [go_sem, *]; done)), (by first | exact mv_cell hM (by first | (dsimp only; omega) | (simp; omega)) hOld.2.2.2.2 | exact cell_later hM hOld.2.2.2.2 | exact HT.cb | exact HT.cc | (simp (maxDischargeDepth := 6) [go_sem, *]; done))⟩ (fun hHeld => ?_)
  clear hK K hOld
  try simp only [Act.put, List.setIfInBounds_toArray, List.set_cons_zero, List.set_cons_succ]
  refine wpAnyH_ready (rs := [8]) (by kernel_rfl) (by simp) ?_
  refine AllReadyH.cons rfl (fun K hK => ?_) AllReadyH.nil
  have hOld := hHeld; clear hHeld
  go_simp
  (go_at_call 16; (with_reducible refine (mvCall (b := b) (w0 := w) (by (repeat (first | with_reducible assumption | with_reducible exact Mv.refl (by assumption) (by assumption) | with_reducible apply Mv.alloc | with_reducible apply Mv.drew | with_reducible apply Mv.drewN | ((with_reducible apply Mv.setCell); rotate_left; (first | (dsimp only; omega) | omega | (simp; omega)); (first | (dsimp only; omega) | omega | (simp; omega))) | ((with_reducible apply Mv.below); rotate_left; (with_reducible assumption)) | ((with_reducible apply Mv.trans); rotate_left; (with_reducible assumption))))) (k4 _ _)).mono ?_); rintro e w1 ⟨rfl, hM, HM⟩; have hr := mv_cell (a := ⟨w.heap.size + 1, 0, none⟩) (v := .int .i64 0) hM (by first | (dsimp only; omega) | (simp; omega)) (by first | assumption | (simp (maxDischargeDepth := 6) [go_sem, *]; done)); have hg := mv_frozen (a := ⟨w.heap.size + 1, 0, none⟩) (v := .int .i64 0) hM (by first | (dsimp only; omega) | (simp; omega)) (by first | assumption | (simp (maxDischargeDepth := 6) [go_sem, *]; done)) (by first | assumption | (simp (maxDischargeDepth := 6) [go_sem, *]; done)); have hr := mv_cell (a := ⟨w.heap.size + 1, 1, none⟩) (v := .int .i64 0) hM (by first | (dsimp only; omega) | (simp; omega)) (by first | assumption | (simp (maxDischargeDepth := 6) [go_sem, *]; done)); have hg := mv_frozen (a := ⟨w.heap.size + 1, 1, none⟩) (v := .int .i64 0) hM (by first | (dsimp only; omega) | (simp; omega)) (by first | assumption | (simp (maxDischargeDepth := 6) [go_sem, *]; done)) (by first | assumption | (simp (maxDischargeDepth := 6) [go_sem, *]; done)))
  (try go_wp2_with (fail))
  refine hK.out _ _ ⟨(by first | exact mv_cell hM (by first | (dsimp only; omega) | (simp; omega)) hOld.1 | exact cell_later hM hOld.1 | exact HT.cb | exact HT.cc | (simp (maxDischargeDepth := 6) [go_sem, *]; done)), (by first | exact mv_cell hM (by first | (dsimp only; omega) | (simp; omega)) hOld.2.1 | exact cell_later hM hOld.2.1 | exact HT.cb | exact HT.cc | (simp (maxDischargeDepth := 6) [go_sem, *]; done)), (by first | exact mv_cell hM (by first | (dsimp only; omega) | (simp; omega)) hOld.2.2.1 | exact cell_later hM hOld.2.2.1 | exact HT.cb | exact HT.cc | (simp (maxDischargeDepth := 6) [go_sem, *]; done)), (by first | exact mv_cell hM (by first | (dsimp only; omega) | (simp; omega)) hOld.2.2.2.1 | exact cell_later hM hOld.2.2.2.1 | exact HT.cb | exact HT.cc | (simp (maxDischargeDepth := 6) [go_sem, *]; done)), (by first | exact mv_cell hM (by first | (dsimp only; omega) | (simp; omega)) hOld.2.2.2.2 | exact cell_later hM hOld.2.2.2.2 | exact HT.cb | exact HT.cc | (simp (maxDischargeDepth := 6) [go_sem, *]; done))⟩ (fun hHeld => ?_)
  clear hK K hOld
  try simp only [Act.put, List.setIfInBounds_toArray, List.set_cons_zero, List.set_cons_succ]
  refine wpAnyH_ready (rs := [16]) (by kernel_rfl) (by simp) ?_
  refine AllReadyH.cons rfl (fun K hK => ?_) AllReadyH.nil
  have hOld := hHeld; clear hHeld
  go_simp
  (go_at_call 17; (with_reducible refine (mvCall (b := b) (w0 := w) (by (repeat (first | with_reducible assumption | with_reducible exact Mv.refl (by assumption) (by assumption) | with_reducible apply Mv.alloc | with_reducible apply Mv.drew | with_reducible apply Mv.drewN | ((with_reducible apply Mv.setCell); rotate_left; (first | (dsimp only; omega) | omega | (simp; omega)); (first | (dsimp only; omega) | omega | (simp; omega))) | ((with_reducible apply Mv.below); rotate_left; (with_reducible assumption)) | ((with_reducible apply Mv.trans); rotate_left; (with_reducible assumption))))) (k3 _ _)).mono ?_); rintro e w1 ⟨rfl, hM, HM⟩; have hr := mv_cell (a := ⟨w.heap.size + 1, 0, none⟩) (v := .int .i64 0) hM (by first | (dsimp only; omega) | (simp; omega)) (by first | assumption | (simp (maxDischargeDepth := 6) [go_sem, *]; done)); have hg := mv_frozen (a := ⟨w.heap.size + 1, 0, none⟩) (v := .int .i64 0) hM (by first | (dsimp only; omega) | (simp; omega)) (by first | assumption | (simp (maxDischargeDepth := 6) [go_sem, *]; done)) (by first | assumption | (simp (maxDischargeDepth := 6) [go_sem, *]; done)); have hr := mv_cell (a := ⟨w.heap.size + 1, 1, none⟩) (v := .int .i64 0) hM (by first | (dsimp only; omega) | (simp; omega)) (by first | assumption | (simp (maxDischargeDepth := 6) [go_sem, *]; done)); have hg := mv_frozen (a := ⟨w.heap.size + 1, 1, none⟩) (v := .int .i64 0) hM (by first | (dsimp only; omega) | (simp; omega)) (by first | assumption | (simp (maxDischargeDepth := 6) [go_sem, *]; done)) (by first | assumption | (simp (maxDischargeDepth := 6) [go_sem, *]; done)))
  (try go_wp2_with (fail))
  refine hK.out _ _ ⟨(by first | exact mv_cell hM (by first | (dsimp only; omega) | (simp; omega)) hOld.1 | exact cell_later hM hOld.1 | exact HT.cb | exact HT.cc | (simp (maxDischargeDepth := 6) [go_sem, *]; done)), (by first | exact mv_cell hM (by first | (dsimp only; omega) | (simp; omega)) hOld.2.1 | exact cell_later hM hOld.2.1 | exact HT.cb | exact HT.cc | (simp (maxDischargeDepth := 6) [go_sem, *]; done)), (by first | exact mv_cell hM (by first | (dsimp only; omega) | (simp; omega)) hOld.2.2.1 | exact cell_later hM hOld.2.2.1 | exact HT.cb | exact HT.cc | (simp (maxDischargeDepth := 6) [go_sem, *]; done)), (by first | exact mv_cell hM (by first | (dsimp only; omega) | (simp; omega)) hOld.2.2.2.1 | exact cell_later hM hOld.2.2.2.1 | exact HT.cb | exact HT.cc | (simp (maxDischargeDepth := 6) [go_sem, *]; done)), (by first | exact mv_cell hM (by first | (dsimp only; omega) | (simp; omega)) hOld.2.2.2.2 | exact cell_later hM hOld.2.2.2.2 | exact HT.cb | exact HT.cc | (simp (maxDischargeDepth := 6) [go_sem, *]; done))⟩ (fun hHeld => ?_)
  clear hK K hOld
  try simp only [Act.put, List.setIfInBounds_toArray, List.set_cons_zero, List.set_cons_succ]
  refine wpAnyH_ready (rs := [17]) (by kernel_rfl) (by simp) ?_
  refine AllReadyH.cons rfl (fun K hK => ?_) AllReadyH.nil
  have hOld := hHeld; clear hHeld
  go_simp
  (go_at_call 16; (with_reducible refine (mvCall (b := b) (w0 := w) (by (repeat (first | with_reducible assumption | with_reducible exact Mv.refl (by assumption) (by assumption) | with_reducible apply Mv.alloc | with_reducible apply Mv.drew | with_reducible apply Mv.drewN | ((with_reducible apply Mv.setCell); rotate_left; (first | (dsimp only; omega) | omega | (simp; omega)); (first | (dsimp only; omega) | omega | (simp; omega))) | ((with_reducible apply Mv.below); rotate_left; (with_reducible assumption)) | ((with_reducible apply Mv.trans); rotate_left; (with_reducible assumption))))) (k5 _ _)).mono ?_); rintro e w1 ⟨rfl, hM, HM⟩; have hr := mv_cell (a := ⟨w.heap.size + 1, 0, none⟩) (v := .int .i64 0) hM (by first | (dsimp only; omega) | (simp; omega)) (by first | assumption | (simp (maxDischargeDepth := 6) [go_sem, *]; done)); have hg := mv_frozen (a := ⟨w.heap.size + 1, 0, none⟩) (v := .int .i64 0) hM (by first | (dsimp only; omega) | (simp; omega)) (by first | assumption | (simp (maxDischargeDepth := 6) [go_sem, *]; done)) (by first | assumption | (simp (maxDischargeDepth := 6) [go_sem, *]; done)); have hr := mv_cell (a := ⟨w.heap.size + 1, 1, none⟩) (v := .int .i64 0) hM (by first | (dsimp only; omega) | (simp; omega)) (by first | assumption | (simp (maxDischargeDepth := 6) [go_sem, *]; done)); have hg := mv_frozen (a := ⟨w.heap.size + 1, 1, none⟩) (v := .int .i64 0) hM (by first | (dsimp only; omega) | (simp; omega)) (by first | assumption | (simp (maxDischargeDepth := 6) [go_sem, *]; done)) (by first | assumption | (simp (maxDischargeDepth := 6) [go_sem, *]; done)))
  (try go_wp2_with (fail))
  refine hK.out _ _ ⟨(by first | exact mv_cell hM (by first | (dsimp only; omega) | (simp; omega)) hOld.1 | exact cell_later hM hOld.1 | exact HT.cb | exact HT.cc | (simp (maxDischargeDepth := 6) [go_sem, *]; done)), (by first | exact mv_cell hM (by first | (dsimp only; omega) | (simp; omega)) hOld.2.1 | exact cell_later hM hOld.2.1 | exact HT.cb | exact HT.cc | (simp (maxDischargeDepth := 6) [go_sem, *]; done)), (by first | exact mv_cell hM (by first | (dsimp only; omega) | (simp; omega)) hOld.2.2.1 | exact cell_later hM hOld.2.2.1 | exact HT.cb | exact HT.cc | (simp (maxDischargeDepth := 6) [go_sem, *]; done)), (by first | exact mv_cell hM (by first | (dsimp only; omega) | (simp; omega)) hOld.2.2.2.1 | exact cell_later hM hOld.2.2.2.1 | exact HT.cb | exact HT.cc | (simp (maxDischargeDepth := 6) [go_sem, *]; done)), (by first | exact mv_cell hM (by first | (dsimp only; omega) | (simp; omega)) hOld.2.2.2.2 | exact cell_later hM hOld.2.2.2.2 | exact HT.cb | exact HT.cc | (simp (maxDischargeDepth := 6) [go_sem, *]; done))⟩ (fun hHeld => ?_)
  clear hK K hOld
  try simp only [Act.put, List.setIfInBounds_toArray, List.set_cons_zero, List.set_cons_succ]
  refine wpAnyH_take (i := 18) (v := ?_) (by simp only [List.getElem?_toArray, List.getElem?_cons_succ, List.getElem?_cons_zero]; rfl) (by kernel_rfl) (by kernel_rfl) (by kernel_rfl) (fun _ _ _ h => h) (Or.inl ⟨by rfl, ?_⟩) (by assumption) ?_
  rotate_left
  · intro w hSw; (try dsimp only at hSw); go_simp; try with_reducible rfl
  try simp only [Act.put, List.setIfInBounds_toArray, List.set_cons_zero, List.set_cons_succ]
  refine wpAnyH_ready (rs := [19]) (by kernel_rfl) (by simp) ?_
  refine AllReadyH.cons rfl (fun K hK => ?_) AllReadyH.nil
  have hOld := hHeld; clear hHeld
  go_simp
  (go_at_call 33; (with_reducible refine (k6 _).mono ?_); rintro e w1 ⟨rfl, hM⟩; have hr := cell_later (a := ⟨w.heap.size + 1, 0, none⟩) (v := .int .i64 0) hM (by first | assumption | (simp (maxDischargeDepth := 6) [go_sem, *]; done)); have hg := frozen_later (a := ⟨w.heap.size + 1, 0, none⟩) (v := .int .i64 0) hM (by first | assumption | (simp (maxDischargeDepth := 6) [go_sem, *]; done)) (by first | assumption | (simp (maxDischargeDepth := 6) [go_sem, *]; done)); have hr := cell_later (a := ⟨w.heap.size + 1, 1, none⟩) (v := .int .i64 0) hM (by first | assumption | (simp (maxDischargeDepth := 6) [go_sem, *]; done)); have hg := frozen_later (a := ⟨w.heap.size + 1, 1, none⟩) (v := .int .i64 0) hM (by first | assumption | (simp (maxDischargeDepth := 6) [go_sem, *]; done)) (by first | assumption | (simp (maxDischargeDepth := 6) [go_sem, *]; done)))
  (try go_wp2_with (fail))
  refine hK.out _ _ ⟨(by first | exact mv_cell hM (by first | (dsimp only; omega) | (simp; omega)) hOld.1 | exact cell_later hM hOld.1 | exact HT.cb | exact HT.cc | (simp (maxDischargeDepth := 6) [go_sem, *]; done)), (by first | exact mv_cell hM (by first | (dsimp only; omega) | (simp; omega)) hOld.2.1 | exact cell_later hM hOld.2.1 | exact HT.cb | exact HT.cc | (simp (maxDischargeDepth := 6) [go_sem, *]; done)), (by first | exact mv_cell hM (by first | (dsimp only; omega) | (simp; omega)) hOld.2.2.1 | exact cell_later hM hOld.2.2.1 | exact HT.cb | exact HT.cc | (simp (maxDischargeDepth := 6) [go_sem, *]; done)), (by first | exact mv_cell hM (by first | (dsimp only; omega) | (simp; omega)) hOld.2.2.2.1 | exact cell_later hM hOld.2.2.2.1 | exact HT.cb | exact HT.cc | (simp (maxDischargeDepth := 6) [go_sem, *]; done)), (by first | exact mv_cell hM (by first | (dsimp only; omega) | (simp; omega)) hOld.2.2.2.2 | exact cell_later hM hOld.2.2.2.2 | exact HT.cb | exact HT.cc | (simp (maxDischargeDepth := 6) [go_sem, *]; done))⟩ (fun hHeld => ?_)
  clear hK K hOld
  try simp only [Act.put, List.setIfInBounds_toArray, List.set_cons_zero, List.set_cons_succ]
  refine wpAnyH_ready (rs := [20]) (by kernel_rfl) (by simp) ?_
  refine AllReadyH.cons rfl (fun K hK => ?_) AllReadyH.nil
  have hOld := hHeld; clear hHeld
  go_simp
  (try go_wp2_with (fail))
  refine hK.out _ _ ⟨(by first | exact mv_cell hM (by first | (dsimp only; omega) | (simp; omega)) hOld.1 | exact cell_later hM hOld.1 | exact HT.cb | exact HT.cc | (simp (maxDischargeDepth := 6) [go_sem, *]; done)), (by first | exact mv_cell hM (by first | (dsimp only; omega) | (simp; omega)) hOld.2.1 | exact cell_later hM hOld.2.1 | exact HT.cb | exact HT.cc | (simp (maxDischargeDepth := 6) [go_sem, *]; done)), (by first | exact mv_cell hM (by first | (dsimp only; omega) | (simp; omega)) hOld.2.2.1 | exact cell_later hM hOld.2.2.1 | exact HT.cb | exact HT.cc | (simp (maxDischargeDepth := 6) [go_sem, *]; done)), (by first | exact mv_cell hM (by first | (dsimp only; omega) | (simp; omega)) hOld.2.2.2.1 | exact cell_later hM hOld.2.2.2.1 | exact HT.cb | exact HT.cc | (simp (maxDischargeDepth := 6) [go_sem, *]; done)), (by first | exact mv_cell hM (by first | (dsimp only; omega) | (simp; omega)) hOld.2.2.2.2 | exact cell_later hM hOld.2.2.2.2 | exact HT.cb | exact HT.cc | (simp (maxDischargeDepth := 6) [go_sem, *]; done))⟩ (fun hHeld => ?_)
  clear hK K hOld
  try simp only [Act.put, List.setIfInBounds_toArray, List.set_cons_zero, List.set_cons_succ]
  refine wpAnyH_done (by kernel_rfl) ?_ _
  (try refine NoPanic.normal ?_)
  (try clear q0); (try clear q1); (try clear q2); (try clear q3); (try clear q4); obtain ⟨q0, q1, q2, q3, q4⟩ := hHeld
  go_wp2
  simp (maxDischargeDepth := 8) [bodyPost, results, Try.results32, go_sem, *]
  exact Mv.cast (by (repeat (first | with_reducible assumption | with_reducible exact Mv.refl (by assumption) (by assumption) | with_reducible apply Mv.alloc | with_reducible apply Mv.drew | with_reducible apply Mv.drewN | ((with_reducible apply Mv.setCell); rotate_left; (first | (dsimp only; omega) | omega | (simp; omega)); (first | (dsimp only; omega) | omega | (simp; omega))) | ((with_reducible apply Mv.below); rotate_left; (with_reducible assumption)) | ((with_reducible apply Mv.trans); rotate_left; (with_reducible assumption))))) (by cases o <;> cases f1 <;> cases f2 <;> cases f3 <;> cases f4 <;> cases f5 <;> rfl)
end Go.Proofs.Ytgdoaibgcjdklaa
