/- Contracts of package bump: discs that may be; how two lie. -/
import Derived.Test.YtgdoaibgcjdklaaN0
set_option linter.unusedSimpArgs false
set_option linter.unusedVariables false
namespace Go.Proofs.Ytgdoaibgcjdklaa
open Go.RowKit
set_option maxHeartbeats 4000000 in
theorem cBRight (ax ay vx vy s m : Int) (w : World) (s_0 : -9223372036854775808 ≤ s) (s_1 : s ≤ 9223372036854775807) (m_0 : -9223372036854775808 ≤ m) (m_1 : m ≤ 9223372036854775807) :
    Calls Try.prog 10 #[.agg #[.int .i64 ax, .int .i64 ay, .int .i64 vx, .int .i64 vy, .int .i64 s, .int .i64 m]] w fun e w' => e = .returned (.int .i64 (drn ax ay vx vy s m)) ∧ Below w.heap.size w w' := by
  have k1 := fun W => cWithinB ax ay 281474976710656 W (by decide) (by decide)
  have k2 := fun W => cWithinB vx vy 549755813888 W (by decide) (by decide)
  have k3 := fun W => cFClampB s 2147483648 17179869184 W
  have k4 := fun W => cFClampB m 274877906944 35184372088832 W
  have E : drn ax ay vx vy s m = if ((inn ax 281474976710656 && inn ay 281474976710656) && (inn vx 549755813888 && inn vy 549755813888) && (decide (2147483648 ≤ s ∧ s ≤ 17179869184) && decide (274877906944 ≤ m ∧ m ≤ 35184372088832))) = true then 0 else 40 := rfl
  generalize drn ax ay vx vy s m = V at *
  generalize (inn ax 281474976710656 && inn ay 281474976710656) = a1 at *
  generalize (inn vx 549755813888 && inn vy 549755813888) = a2 at *
  have HE := Lib.hid E
  clear E
  obtain ⟨p, hp⟩ : ∃ p, clm s 2147483648 17179869184 = p := ⟨_, rfl⟩
  obtain ⟨q, hq⟩ : ∃ q, clm m 274877906944 35184372088832 = q := ⟨_, rfl⟩
  rw [hp] at k3; rw [hq] at k4
  have gp : (2147483648 ≤ s ∧ s ≤ 17179869184) ↔ p = s := by rw [← hp]; unfold clm; split <;> (try split) <;> omega
  have gq : (274877906944 ≤ m ∧ m ≤ 35184372088832) ↔ q = m := by rw [← hq]; unfold clm; split <;> (try split) <;> omega
  have HG := Lib.hid (And.intro gp gq)
  clear hp hq gp gq
  cases a1 with
  | false =>
    have EV : Hid (V = 40) := Lib.hid (by rw [HE.out]; rfl)
    go_enter Try.func10, Try.ntmps10
    go_wp2_with (first | (go_at_call 28; (with_reducible refine (k1 _).mono ?_); rintro e w1 ⟨rfl, hM⟩))
    go_ret
    exact ⟨by rw [EV.out] <;> rfl, by (repeat (first | with_reducible assumption | with_reducible exact Below.refl _ _ | ((with_reducible refine Below.setCell ?_ ?_ _); rotate_left; (first | exact Nat.le_refl _ | (dsimp only; omega) | (simp; done) | (simp; omega))) | with_reducible refine below_alloc ?_ _ | with_reducible apply below_drewN | with_reducible apply Below.drew | with_reducible refine below_step ?_ (by assumption)))⟩
  | true =>
  cases a2 with
  | false =>
    have EV : Hid (V = 40) := Lib.hid (by rw [HE.out]; rfl)
    go_enter Try.func10, Try.ntmps10
    go_wp2_with (fail)
    (go_at_call 28; (with_reducible refine (k1 _).mono ?_); rintro e w1 ⟨rfl, hM⟩)
    have B0 : Bk (w.heap.size) 0 [.int .i64 ax, .int .i64 ay, .int .i64 vx, .int .i64 vy, .int .i64 s, .int .i64 m] w1 := Bk.later (by simp [Bk, go_sem]; done) hM
    have HB : Below w.heap.size w w1 := by (repeat (first | with_reducible assumption | with_reducible exact Below.refl _ _ | ((with_reducible refine Below.setCell ?_ ?_ _); rotate_left; (first | exact Nat.le_refl _ | (dsimp only; omega) | (simp; done) | (simp; omega))) | with_reducible refine below_alloc ?_ _ | with_reducible apply below_drewN | with_reducible apply Below.drew | with_reducible refine below_step ?_ (by assumption)))
    have C_B0 := B0; simp only [Bk] at C_B0
    go_wp2_with (first | (go_at_call 28; (with_reducible refine (k2 _).mono ?_); rintro e9 w1 ⟨rfl, hM⟩; (first | have HB : Below w.heap.size w _ := below_step HB hM | have HB : Below w.heap.size w _ := below_step (W := _) (by (repeat (first | with_reducible assumption | with_reducible exact Below.refl _ _ | ((with_reducible refine Below.setCell ?_ ?_ _); rotate_left; (first | exact Nat.le_refl _ | (dsimp only; omega) | (simp; done) | (simp; omega))) | with_reducible refine below_alloc ?_ _ | with_reducible apply below_drewN | with_reducible apply Below.drew | with_reducible refine below_step ?_ (by assumption)))) hM); (first | have B0 := Bk.later B0 hM | have B0 := Bk.later (Bk.alloc B0 _) hM | have B0 := Bk.later (Bk.alloc (Bk.alloc B0 _) _) hM); have C_B0 := B0; simp only [Bk] at C_B0))
    go_ret
    exact ⟨by rw [EV.out] <;> rfl, by first | exact HB | (repeat (first | with_reducible assumption | with_reducible exact Below.refl _ _ | ((with_reducible refine Below.setCell ?_ ?_ _); rotate_left; (first | exact Nat.le_refl _ | (dsimp only; omega) | (simp; done) | (simp; omega))) | with_reducible refine below_alloc ?_ _ | with_reducible apply below_drewN | with_reducible apply Below.drew | with_reducible refine below_step ?_ (by assumption)))⟩
  | true =>
    go_enter Try.func10, Try.ntmps10
    go_wp2_with (fail)
    (go_at_call 28; (with_reducible refine (k1 _).mono ?_); rintro e w1 ⟨rfl, hM⟩)
    have B0 : Bk (w.heap.size) 0 [.int .i64 ax, .int .i64 ay, .int .i64 vx, .int .i64 vy, .int .i64 s, .int .i64 m] w1 := Bk.later (by simp [Bk, go_sem]; done) hM
    have HB : Below w.heap.size w w1 := by (repeat (first | with_reducible assumption | with_reducible exact Below.refl _ _ | ((with_reducible refine Below.setCell ?_ ?_ _); rotate_left; (first | exact Nat.le_refl _ | (dsimp only; omega) | (simp; done) | (simp; omega))) | with_reducible refine below_alloc ?_ _ | with_reducible apply below_drewN | with_reducible apply Below.drew | with_reducible refine below_step ?_ (by assumption)))
    have C_B0 := B0; simp only [Bk] at C_B0
    go_upto_region 4 with (first | (go_at_call 28; (with_reducible refine (k2 _).mono ?_); rintro e9 w1 ⟨rfl, hM⟩; (first | have HB : Below w.heap.size w _ := below_step HB hM | have HB : Below w.heap.size w _ := below_step (W := _) (by (repeat (first | with_reducible assumption | with_reducible exact Below.refl _ _ | ((with_reducible refine Below.setCell ?_ ?_ _); rotate_left; (first | exact Nat.le_refl _ | (dsimp only; omega) | (simp; done) | (simp; omega))) | with_reducible refine below_alloc ?_ _ | with_reducible apply below_drewN | with_reducible apply Below.drew | with_reducible refine below_step ?_ (by assumption)))) hM); (first | have B0 := Bk.later B0 hM | have B0 := Bk.later (Bk.alloc B0 _) hM | have B0 := Bk.later (Bk.alloc (Bk.alloc B0 _) _) hM); have C_B0 := B0; simp only [Bk] at C_B0))
    by_cases h1 : p = s
    · by_cases h2 : q = m
      · have EV : Hid (V = 0) := Lib.hid (by rw [HE.out, decide_eq_true (HG.out.1.2 h1), decide_eq_true (HG.out.2.2 h2)]; rfl)
        subst h1; subst h2
        (try refine wp_region_noPanic ?_)
        refine wp_region_held_drew (S := (fun (w' : World) => w'.cell? ⟨w.heap.size, 4, none⟩ = some (.int .i64 p) ∧ w'.cell? ⟨w.heap.size, 5, none⟩ = some (.int .i64 q))) (by kernel_rfl) ⟨(by first | (simp (maxDischargeDepth := 6) [go_sem, *]; done)), (by first | (simp (maxDischargeDepth := 6) [go_sem, *]; done))⟩ (fun hHeld => ?_)
        refine wpAnyH_take (i := 0) (v := ?_) (by simp only [List.getElem?_toArray, List.getElem?_cons_succ, List.getElem?_cons_zero]; rfl) (by kernel_rfl) (by kernel_rfl) (by kernel_rfl) (fun _ _ _ h => h) (Or.inl ⟨by rfl, ?_⟩) (by assumption) ?_
        rotate_left
        · intro w hSw; (try dsimp only at hSw); go_simp; try with_reducible rfl
        try simp only [Act.put, List.setIfInBounds_toArray, List.set_cons_zero, List.set_cons_succ]
        refine wpAnyH_take (i := 3) (v := ?_) (by simp only [List.getElem?_toArray, List.getElem?_cons_succ, List.getElem?_cons_zero]; rfl) (by kernel_rfl) (by kernel_rfl) (by kernel_rfl) (fun _ _ _ h => h) (Or.inl ⟨by rfl, ?_⟩) (by assumption) ?_
        rotate_left
        · intro w hSw; (try dsimp only at hSw); go_simp; try with_reducible rfl
        try simp only [Act.put, List.setIfInBounds_toArray, List.set_cons_zero, List.set_cons_succ]
        refine wpAnyH_take (i := 1) (v := ?_) (by simp only [List.getElem?_toArray, List.getElem?_cons_succ, List.getElem?_cons_zero]; rfl) (by kernel_rfl) (by kernel_rfl) (by kernel_rfl) (fun _ _ _ h => h) (Or.inl ⟨by rfl, ?_⟩) (by assumption) ?_
        rotate_left
        · intro w hSw; (try dsimp only at hSw); go_simp; try with_reducible rfl
        try simp only [Act.put, List.setIfInBounds_toArray, List.set_cons_zero, List.set_cons_succ]
        refine wpAnyH_take (i := 4) (v := ?_) (by simp only [List.getElem?_toArray, List.getElem?_cons_succ, List.getElem?_cons_zero]; rfl) (by kernel_rfl) (by kernel_rfl) (by kernel_rfl) (fun _ _ _ h => h) (Or.inl ⟨by rfl, ?_⟩) (by assumption) ?_
        rotate_left
        · intro w hSw; (try dsimp only at hSw); go_simp; try with_reducible rfl
        try simp only [Act.put, List.setIfInBounds_toArray, List.set_cons_zero, List.set_cons_succ]
        have hOld := hHeld; clear hHeld
        refine wpAnyH_ready (rs := [2]) (by kernel_rfl) (by simp) (AllReadyH.cons rfl (fun K hK => ?_) AllReadyH.nil)
        go_simp
        (go_at_call 29; (with_reducible refine (k3 _).mono ?_); rintro e w1 ⟨rfl, hM⟩)
        (try go_wp2_with (fail))
        refine hK.out _ _ ⟨(by first | exact mv_cell hM (by first | (dsimp only; omega) | (simp; omega)) hOld.1 | exact cell_later hM hOld.1 | exact HT.cb | exact HT.cc | (simp (maxDischargeDepth := 6) [go_sem, *]; done)), (by first | exact mv_cell hM (by first | (dsimp only; omega) | (simp; omega)) hOld.2 | exact cell_later hM hOld.2 | exact HT.cb | exact HT.cc | (simp (maxDischargeDepth := 6) [go_sem, *]; done))⟩ (fun hHeld => ?_)
        clear hK K hOld
        try simp only [Act.put, List.setIfInBounds_toArray, List.set_cons_zero, List.set_cons_succ]
        have HB : Below w.heap.size w _ := below_step (W := _) (by (repeat (first | with_reducible assumption | with_reducible exact Below.refl _ _ | ((with_reducible refine Below.setCell ?_ ?_ _); rotate_left; (first | exact Nat.le_refl _ | (dsimp only; omega) | (simp; done) | (simp; omega))) | with_reducible refine below_alloc ?_ _ | with_reducible apply below_drewN | with_reducible apply Below.drew | with_reducible refine below_step ?_ (by assumption)))) hM
        refine wpAnyH_take (i := 5) (v := ?_) (by simp only [List.getElem?_toArray, List.getElem?_cons_succ, List.getElem?_cons_zero]; rfl) (by kernel_rfl) (by kernel_rfl) (by kernel_rfl) (fun _ _ _ h => h) (Or.inl ⟨by rfl, ?_⟩) (by assumption) ?_
        rotate_left
        · intro w hSw; (try dsimp only at hSw); go_simp; try with_reducible rfl
        try simp only [Act.put, List.setIfInBounds_toArray, List.set_cons_zero, List.set_cons_succ]
        refine wpAnyH_take (i := 6) (v := ?_) (by simp only [List.getElem?_toArray, List.getElem?_cons_succ, List.getElem?_cons_zero]; rfl) (by kernel_rfl) (by kernel_rfl) (by kernel_rfl) (fun _ _ _ h => h) (Or.inl ⟨by rfl, ?_⟩) (by assumption) ?_
        rotate_left
        · intro w hSw; (try dsimp only at hSw); go_simp; try with_reducible rfl
        try simp only [Act.put, List.setIfInBounds_toArray, List.set_cons_zero, List.set_cons_succ]
        refine wpAnyH_done (by kernel_rfl) ?_ _
        (try refine NoPanic.normal ?_)
        (try clear q0); (try clear q1); obtain ⟨q0, q1⟩ := hHeld
        go_upto_region 5 with (fail)
        (try refine wp_region_noPanic ?_)
        refine wp_region_held_drew (S := (fun (w' : World) => w'.cell? ⟨w.heap.size, 4, none⟩ = some (.int .i64 p) ∧ w'.cell? ⟨w.heap.size, 5, none⟩ = some (.int .i64 q))) (by kernel_rfl) ⟨(by first | (simp (maxDischargeDepth := 6) [go_sem, *]; done)), (by first | (simp (maxDischargeDepth := 6) [go_sem, *]; done))⟩ (fun hHeld => ?_)
        refine wpAnyH_take (i := 0) (v := ?_) (by simp only [List.getElem?_toArray, List.getElem?_cons_succ, List.getElem?_cons_zero]; rfl) (by kernel_rfl) (by kernel_rfl) (by kernel_rfl) (fun _ _ _ h => h) (Or.inl ⟨by rfl, ?_⟩) (by assumption) ?_
        rotate_left
        · intro w hSw; (try dsimp only at hSw); go_simp; try with_reducible rfl
        try simp only [Act.put, List.setIfInBounds_toArray, List.set_cons_zero, List.set_cons_succ]
        refine wpAnyH_take (i := 3) (v := ?_) (by simp only [List.getElem?_toArray, List.getElem?_cons_succ, List.getElem?_cons_zero]; rfl) (by kernel_rfl) (by kernel_rfl) (by kernel_rfl) (fun _ _ _ h => h) (Or.inl ⟨by rfl, ?_⟩) (by assumption) ?_
        rotate_left
        · intro w hSw; (try dsimp only at hSw); go_simp; try with_reducible rfl
        try simp only [Act.put, List.setIfInBounds_toArray, List.set_cons_zero, List.set_cons_succ]
        refine wpAnyH_take (i := 1) (v := ?_) (by simp only [List.getElem?_toArray, List.getElem?_cons_succ, List.getElem?_cons_zero]; rfl) (by kernel_rfl) (by kernel_rfl) (by kernel_rfl) (fun _ _ _ h => h) (Or.inl ⟨by rfl, ?_⟩) (by assumption) ?_
        rotate_left
        · intro w hSw; (try dsimp only at hSw); go_simp; try with_reducible rfl
        try simp only [Act.put, List.setIfInBounds_toArray, List.set_cons_zero, List.set_cons_succ]
        refine wpAnyH_take (i := 4) (v := ?_) (by simp only [List.getElem?_toArray, List.getElem?_cons_succ, List.getElem?_cons_zero]; rfl) (by kernel_rfl) (by kernel_rfl) (by kernel_rfl) (fun _ _ _ h => h) (Or.inl ⟨by rfl, ?_⟩) (by assumption) ?_
        rotate_left
        · intro w hSw; (try dsimp only at hSw); go_simp; try with_reducible rfl
        try simp only [Act.put, List.setIfInBounds_toArray, List.set_cons_zero, List.set_cons_succ]
        have hOld := hHeld; clear hHeld
        refine wpAnyH_ready (rs := [2]) (by kernel_rfl) (by simp) (AllReadyH.cons rfl (fun K hK => ?_) AllReadyH.nil)
        go_simp
        (go_at_call 29; (with_reducible refine (k4 _).mono ?_); rintro e w1 ⟨rfl, hM⟩)
        (try go_wp2_with (fail))
        refine hK.out _ _ ⟨(by first | exact mv_cell hM (by first | (dsimp only; omega) | (simp; omega)) hOld.1 | exact cell_later hM hOld.1 | exact HT.cb | exact HT.cc | (simp (maxDischargeDepth := 6) [go_sem, *]; done)), (by first | exact mv_cell hM (by first | (dsimp only; omega) | (simp; omega)) hOld.2 | exact cell_later hM hOld.2 | exact HT.cb | exact HT.cc | (simp (maxDischargeDepth := 6) [go_sem, *]; done))⟩ (fun hHeld => ?_)
        clear hK K hOld
        try simp only [Act.put, List.setIfInBounds_toArray, List.set_cons_zero, List.set_cons_succ]
        have HB : Below w.heap.size w _ := below_step (W := _) (by (repeat (first | with_reducible assumption | with_reducible exact Below.refl _ _ | ((with_reducible refine Below.setCell ?_ ?_ _); rotate_left; (first | exact Nat.le_refl _ | (dsimp only; omega) | (simp; done) | (simp; omega))) | with_reducible refine below_alloc ?_ _ | with_reducible apply below_drewN | with_reducible apply Below.drew | with_reducible refine below_step ?_ (by assumption)))) hM
        refine wpAnyH_take (i := 5) (v := ?_) (by simp only [List.getElem?_toArray, List.getElem?_cons_succ, List.getElem?_cons_zero]; rfl) (by kernel_rfl) (by kernel_rfl) (by kernel_rfl) (fun _ _ _ h => h) (Or.inl ⟨by rfl, ?_⟩) (by assumption) ?_
        rotate_left
        · intro w hSw; (try dsimp only at hSw); go_simp; try with_reducible rfl
        try simp only [Act.put, List.setIfInBounds_toArray, List.set_cons_zero, List.set_cons_succ]
        refine wpAnyH_take (i := 6) (v := ?_) (by simp only [List.getElem?_toArray, List.getElem?_cons_succ, List.getElem?_cons_zero]; rfl) (by kernel_rfl) (by kernel_rfl) (by kernel_rfl) (fun _ _ _ h => h) (Or.inl ⟨by rfl, ?_⟩) (by assumption) ?_
        rotate_left
        · intro w hSw; (try dsimp only at hSw); go_simp; try with_reducible rfl
        try simp only [Act.put, List.setIfInBounds_toArray, List.set_cons_zero, List.set_cons_succ]
        refine wpAnyH_done (by kernel_rfl) ?_ _
        (try refine NoPanic.normal ?_)
        (try clear q0); (try clear q1); obtain ⟨q0, q1⟩ := hHeld
        go_wp2
        go_ret
        exact ⟨by rw [EV.out] <;> rfl, by first | exact HB | (repeat (first | with_reducible assumption | with_reducible exact Below.refl _ _ | ((with_reducible refine Below.setCell ?_ ?_ _); rotate_left; (first | exact Nat.le_refl _ | (dsimp only; omega) | (simp; done) | (simp; omega))) | with_reducible refine below_alloc ?_ _ | with_reducible apply below_drewN | with_reducible apply Below.drew | with_reducible refine below_step ?_ (by assumption)))⟩
      · have EV : Hid (V = 40) := Lib.hid (by rw [HE.out, decide_eq_false (fun h => h2 (HG.out.2.1 h)), Bool.and_false, Bool.and_false]; rfl)
        subst h1
        (try refine wp_region_noPanic ?_)
        refine wp_region_held_drew (S := (fun (w' : World) => w'.cell? ⟨w.heap.size, 4, none⟩ = some (.int .i64 p) ∧ w'.cell? ⟨w.heap.size, 5, none⟩ = some (.int .i64 m))) (by kernel_rfl) ⟨(by first | (simp (maxDischargeDepth := 6) [go_sem, *]; done)), (by first | (simp (maxDischargeDepth := 6) [go_sem, *]; done))⟩ (fun hHeld => ?_)
        refine wpAnyH_take (i := 0) (v := ?_) (by simp only [List.getElem?_toArray, List.getElem?_cons_succ, List.getElem?_cons_zero]; rfl) (by kernel_rfl) (by kernel_rfl) (by kernel_rfl) (fun _ _ _ h => h) (Or.inl ⟨by rfl, ?_⟩) (by assumption) ?_
        rotate_left
        · intro w hSw; (try dsimp only at hSw); go_simp; try with_reducible rfl
        try simp only [Act.put, List.setIfInBounds_toArray, List.set_cons_zero, List.set_cons_succ]
        refine wpAnyH_take (i := 3) (v := ?_) (by simp only [List.getElem?_toArray, List.getElem?_cons_succ, List.getElem?_cons_zero]; rfl) (by kernel_rfl) (by kernel_rfl) (by kernel_rfl) (fun _ _ _ h => h) (Or.inl ⟨by rfl, ?_⟩) (by assumption) ?_
        rotate_left
        · intro w hSw; (try dsimp only at hSw); go_simp; try with_reducible rfl
        try simp only [Act.put, List.setIfInBounds_toArray, List.set_cons_zero, List.set_cons_succ]
        refine wpAnyH_take (i := 1) (v := ?_) (by simp only [List.getElem?_toArray, List.getElem?_cons_succ, List.getElem?_cons_zero]; rfl) (by kernel_rfl) (by kernel_rfl) (by kernel_rfl) (fun _ _ _ h => h) (Or.inl ⟨by rfl, ?_⟩) (by assumption) ?_
        rotate_left
        · intro w hSw; (try dsimp only at hSw); go_simp; try with_reducible rfl
        try simp only [Act.put, List.setIfInBounds_toArray, List.set_cons_zero, List.set_cons_succ]
        refine wpAnyH_take (i := 4) (v := ?_) (by simp only [List.getElem?_toArray, List.getElem?_cons_succ, List.getElem?_cons_zero]; rfl) (by kernel_rfl) (by kernel_rfl) (by kernel_rfl) (fun _ _ _ h => h) (Or.inl ⟨by rfl, ?_⟩) (by assumption) ?_
        rotate_left
        · intro w hSw; (try dsimp only at hSw); go_simp; try with_reducible rfl
        try simp only [Act.put, List.setIfInBounds_toArray, List.set_cons_zero, List.set_cons_succ]
        have hOld := hHeld; clear hHeld
        refine wpAnyH_ready (rs := [2]) (by kernel_rfl) (by simp) (AllReadyH.cons rfl (fun K hK => ?_) AllReadyH.nil)
        go_simp
        (go_at_call 29; (with_reducible refine (k3 _).mono ?_); rintro e w1 ⟨rfl, hM⟩)
        (try go_wp2_with (fail))
        refine hK.out _ _ ⟨(by first | exact mv_cell hM (by first | (dsimp only; omega) | (simp; omega)) hOld.1 | exact cell_later hM hOld.1 | exact HT.cb | exact HT.cc | (simp (maxDischargeDepth := 6) [go_sem, *]; done)), (by first | exact mv_cell hM (by first | (dsimp only; omega) | (simp; omega)) hOld.2 | exact cell_later hM hOld.2 | exact HT.cb | exact HT.cc | (simp (maxDischargeDepth := 6) [go_sem, *]; done))⟩ (fun hHeld => ?_)
        clear hK K hOld
        try simp only [Act.put, List.setIfInBounds_toArray, List.set_cons_zero, List.set_cons_succ]
        have HB : Below w.heap.size w _ := below_step (W := _) (by (repeat (first | with_reducible assumption | with_reducible exact Below.refl _ _ | ((with_reducible refine Below.setCell ?_ ?_ _); rotate_left; (first | exact Nat.le_refl _ | (dsimp only; omega) | (simp; done) | (simp; omega))) | with_reducible refine below_alloc ?_ _ | with_reducible apply below_drewN | with_reducible apply Below.drew | with_reducible refine below_step ?_ (by assumption)))) hM
        refine wpAnyH_take (i := 5) (v := ?_) (by simp only [List.getElem?_toArray, List.getElem?_cons_succ, List.getElem?_cons_zero]; rfl) (by kernel_rfl) (by kernel_rfl) (by kernel_rfl) (fun _ _ _ h => h) (Or.inl ⟨by rfl, ?_⟩) (by assumption) ?_
        rotate_left
        · intro w hSw; (try dsimp only at hSw); go_simp; try with_reducible rfl
        try simp only [Act.put, List.setIfInBounds_toArray, List.set_cons_zero, List.set_cons_succ]
        refine wpAnyH_take (i := 6) (v := ?_) (by simp only [List.getElem?_toArray, List.getElem?_cons_succ, List.getElem?_cons_zero]; rfl) (by kernel_rfl) (by kernel_rfl) (by kernel_rfl) (fun _ _ _ h => h) (Or.inl ⟨by rfl, ?_⟩) (by assumption) ?_
        rotate_left
        · intro w hSw; (try dsimp only at hSw); go_simp; try with_reducible rfl
        try simp only [Act.put, List.setIfInBounds_toArray, List.set_cons_zero, List.set_cons_succ]
        refine wpAnyH_done (by kernel_rfl) ?_ _
        (try refine NoPanic.normal ?_)
        (try clear q0); (try clear q1); obtain ⟨q0, q1⟩ := hHeld
        go_upto_region 5 with (fail)
        (try refine wp_region_noPanic ?_)
        refine wp_region_held_drew (S := (fun (w' : World) => w'.cell? ⟨w.heap.size, 4, none⟩ = some (.int .i64 p) ∧ w'.cell? ⟨w.heap.size, 5, none⟩ = some (.int .i64 m))) (by kernel_rfl) ⟨(by first | (simp (maxDischargeDepth := 6) [go_sem, *]; done)), (by first | (simp (maxDischargeDepth := 6) [go_sem, *]; done))⟩ (fun hHeld => ?_)
        refine wpAnyH_take (i := 0) (v := ?_) (by simp only [List.getElem?_toArray, List.getElem?_cons_succ, List.getElem?_cons_zero]; rfl) (by kernel_rfl) (by kernel_rfl) (by kernel_rfl) (fun _ _ _ h => h) (Or.inl ⟨by rfl, ?_⟩) (by assumption) ?_
        rotate_left
        · intro w hSw; (try dsimp only at hSw); go_simp; try with_reducible rfl
        try simp only [Act.put, List.setIfInBounds_toArray, List.set_cons_zero, List.set_cons_succ]
        refine wpAnyH_take (i := 3) (v := ?_) (by simp only [List.getElem?_toArray, List.getElem?_cons_succ, List.getElem?_cons_zero]; rfl) (by kernel_rfl) (by kernel_rfl) (by kernel_rfl) (fun _ _ _ h => h) (Or.inl ⟨by rfl, ?_⟩) (by assumption) ?_
        rotate_left
        · intro w hSw; (try dsimp only at hSw); go_simp; try with_reducible rfl
        try simp only [Act.put, List.setIfInBounds_toArray, List.set_cons_zero, List.set_cons_succ]
        refine wpAnyH_take (i := 1) (v := ?_) (by simp only [List.getElem?_toArray, List.getElem?_cons_succ, List.getElem?_cons_zero]; rfl) (by kernel_rfl) (by kernel_rfl) (by kernel_rfl) (fun _ _ _ h => h) (Or.inl ⟨by rfl, ?_⟩) (by assumption) ?_
        rotate_left
        · intro w hSw; (try dsimp only at hSw); go_simp; try with_reducible rfl
        try simp only [Act.put, List.setIfInBounds_toArray, List.set_cons_zero, List.set_cons_succ]
        refine wpAnyH_take (i := 4) (v := ?_) (by simp only [List.getElem?_toArray, List.getElem?_cons_succ, List.getElem?_cons_zero]; rfl) (by kernel_rfl) (by kernel_rfl) (by kernel_rfl) (fun _ _ _ h => h) (Or.inl ⟨by rfl, ?_⟩) (by assumption) ?_
        rotate_left
        · intro w hSw; (try dsimp only at hSw); go_simp; try with_reducible rfl
        try simp only [Act.put, List.setIfInBounds_toArray, List.set_cons_zero, List.set_cons_succ]
        have hOld := hHeld; clear hHeld
        refine wpAnyH_ready (rs := [2]) (by kernel_rfl) (by simp) (AllReadyH.cons rfl (fun K hK => ?_) AllReadyH.nil)
        go_simp
        (go_at_call 29; (with_reducible refine (k4 _).mono ?_); rintro e w1 ⟨rfl, hM⟩)
        (try go_wp2_with (fail))
        refine hK.out _ _ ⟨(by first | exact mv_cell hM (by first | (dsimp only; omega) | (simp; omega)) hOld.1 | exact cell_later hM hOld.1 | exact HT.cb | exact HT.cc | (simp (maxDischargeDepth := 6) [go_sem, *]; done)), (by first | exact mv_cell hM (by first | (dsimp only; omega) | (simp; omega)) hOld.2 | exact cell_later hM hOld.2 | exact HT.cb | exact HT.cc | (simp (maxDischargeDepth := 6) [go_sem, *]; done))⟩ (fun hHeld => ?_)
        clear hK K hOld
        try simp only [Act.put, List.setIfInBounds_toArray, List.set_cons_zero, List.set_cons_succ]
        have HB : Below w.heap.size w _ := below_step (W := _) (by (repeat (first | with_reducible assumption | with_reducible exact Below.refl _ _ | ((with_reducible refine Below.setCell ?_ ?_ _); rotate_left; (first | exact Nat.le_refl _ | (dsimp only; omega) | (simp; done) | (simp; omega))) | with_reducible refine below_alloc ?_ _ | with_reducible apply below_drewN | with_reducible apply Below.drew | with_reducible refine below_step ?_ (by assumption)))) hM
        refine wpAnyH_take (i := 5) (v := ?_) (by simp only [List.getElem?_toArray, List.getElem?_cons_succ, List.getElem?_cons_zero]; rfl) (by kernel_rfl) (by kernel_rfl) (by kernel_rfl) (fun _ _ _ h => h) (Or.inl ⟨by rfl, ?_⟩) (by assumption) ?_
        rotate_left
        · intro w hSw; (try dsimp only at hSw); go_simp; try with_reducible rfl
        try simp only [Act.put, List.setIfInBounds_toArray, List.set_cons_zero, List.set_cons_succ]
        refine wpAnyH_take (i := 6) (v := ?_) (by simp only [List.getElem?_toArray, List.getElem?_cons_succ, List.getElem?_cons_zero]; rfl) (by kernel_rfl) (by kernel_rfl) (by kernel_rfl) (fun _ _ _ h => h) (Or.inl ⟨by rfl, ?_⟩) (by assumption) ?_
        rotate_left
        · intro w hSw; (try dsimp only at hSw); go_simp; try with_reducible rfl
        try simp only [Act.put, List.setIfInBounds_toArray, List.set_cons_zero, List.set_cons_succ]
        refine wpAnyH_done (by kernel_rfl) ?_ _
        (try refine NoPanic.normal ?_)
        (try clear q0); (try clear q1); obtain ⟨q0, q1⟩ := hHeld
        go_wp2
        go_ret
        exact ⟨by rw [EV.out] <;> rfl, by first | exact HB | (repeat (first | with_reducible assumption | with_reducible exact Below.refl _ _ | ((with_reducible refine Below.setCell ?_ ?_ _); rotate_left; (first | exact Nat.le_refl _ | (dsimp only; omega) | (simp; done) | (simp; omega))) | with_reducible refine below_alloc ?_ _ | with_reducible apply below_drewN | with_reducible apply Below.drew | with_reducible refine below_step ?_ (by assumption)))⟩
    · have EV : Hid (V = 40) := Lib.hid (by rw [HE.out, decide_eq_false (fun h => h1 (HG.out.1.1 h)), Bool.false_and, Bool.and_false]; rfl)
      (try refine wp_region_noPanic ?_)
      refine wp_region_held_drew (S := (fun (w' : World) => w'.cell? ⟨w.heap.size, 4, none⟩ = some (.int .i64 s) ∧ w'.cell? ⟨w.heap.size, 5, none⟩ = some (.int .i64 m))) (by kernel_rfl) ⟨(by first | (simp (maxDischargeDepth := 6) [go_sem, *]; done)), (by first | (simp (maxDischargeDepth := 6) [go_sem, *]; done))⟩ (fun hHeld => ?_)
      refine wpAnyH_take (i := 0) (v := ?_) (by simp only [List.getElem?_toArray, List.getElem?_cons_succ, List.getElem?_cons_zero]; rfl) (by kernel_rfl) (by kernel_rfl) (by kernel_rfl) (fun _ _ _ h => h) (Or.inl ⟨by rfl, ?_⟩) (by assumption) ?_
      rotate_left
      · intro w hSw; (try dsimp only at hSw); go_simp; try with_reducible rfl
      try simp only [Act.put, List.setIfInBounds_toArray, List.set_cons_zero, List.set_cons_succ]
      refine wpAnyH_take (i := 3) (v := ?_) (by simp only [List.getElem?_toArray, List.getElem?_cons_succ, List.getElem?_cons_zero]; rfl) (by kernel_rfl) (by kernel_rfl) (by kernel_rfl) (fun _ _ _ h => h) (Or.inl ⟨by rfl, ?_⟩) (by assumption) ?_
      rotate_left
      · intro w hSw; (try dsimp only at hSw); go_simp; try with_reducible rfl
      try simp only [Act.put, List.setIfInBounds_toArray, List.set_cons_zero, List.set_cons_succ]
      refine wpAnyH_take (i := 1) (v := ?_) (by simp only [List.getElem?_toArray, List.getElem?_cons_succ, List.getElem?_cons_zero]; rfl) (by kernel_rfl) (by kernel_rfl) (by kernel_rfl) (fun _ _ _ h => h) (Or.inl ⟨by rfl, ?_⟩) (by assumption) ?_
      rotate_left
      · intro w hSw; (try dsimp only at hSw); go_simp; try with_reducible rfl
      try simp only [Act.put, List.setIfInBounds_toArray, List.set_cons_zero, List.set_cons_succ]
      refine wpAnyH_take (i := 4) (v := ?_) (by simp only [List.getElem?_toArray, List.getElem?_cons_succ, List.getElem?_cons_zero]; rfl) (by kernel_rfl) (by kernel_rfl) (by kernel_rfl) (fun _ _ _ h => h) (Or.inl ⟨by rfl, ?_⟩) (by assumption) ?_
      rotate_left
      · intro w hSw; (try dsimp only at hSw); go_simp; try with_reducible rfl
      try simp only [Act.put, List.setIfInBounds_toArray, List.set_cons_zero, List.set_cons_succ]
      have hOld := hHeld; clear hHeld
      refine wpAnyH_ready (rs := [2]) (by kernel_rfl) (by simp) (AllReadyH.cons rfl (fun K hK => ?_) AllReadyH.nil)
      go_simp
      (go_at_call 29; (with_reducible refine (k3 _).mono ?_); rintro e w1 ⟨rfl, hM⟩)
      (try go_wp2_with (fail))
      refine hK.out _ _ ⟨(by first | exact mv_cell hM (by first | (dsimp only; omega) | (simp; omega)) hOld.1 | exact cell_later hM hOld.1 | exact HT.cb | exact HT.cc | (simp (maxDischargeDepth := 6) [go_sem, *]; done)), (by first | exact mv_cell hM (by first | (dsimp only; omega) | (simp; omega)) hOld.2 | exact cell_later hM hOld.2 | exact HT.cb | exact HT.cc | (simp (maxDischargeDepth := 6) [go_sem, *]; done))⟩ (fun hHeld => ?_)
      clear hK K hOld
      try simp only [Act.put, List.setIfInBounds_toArray, List.set_cons_zero, List.set_cons_succ]
      have HB : Below w.heap.size w _ := below_step (W := _) (by (repeat (first | with_reducible assumption | with_reducible exact Below.refl _ _ | ((with_reducible refine Below.setCell ?_ ?_ _); rotate_left; (first | exact Nat.le_refl _ | (dsimp only; omega) | (simp; done) | (simp; omega))) | with_reducible refine below_alloc ?_ _ | with_reducible apply below_drewN | with_reducible apply Below.drew | with_reducible refine below_step ?_ (by assumption)))) hM
      refine wpAnyH_take (i := 5) (v := ?_) (by simp only [List.getElem?_toArray, List.getElem?_cons_succ, List.getElem?_cons_zero]; rfl) (by kernel_rfl) (by kernel_rfl) (by kernel_rfl) (fun _ _ _ h => h) (Or.inl ⟨by rfl, ?_⟩) (by assumption) ?_
      rotate_left
      · intro w hSw; (try dsimp only at hSw); go_simp; try with_reducible rfl
      try simp only [Act.put, List.setIfInBounds_toArray, List.set_cons_zero, List.set_cons_succ]
      refine wpAnyH_take (i := 6) (v := ?_) (by simp only [List.getElem?_toArray, List.getElem?_cons_succ, List.getElem?_cons_zero]; rfl) (by kernel_rfl) (by kernel_rfl) (by kernel_rfl) (fun _ _ _ h => h) (Or.inl ⟨by rfl, ?_⟩) (by assumption) ?_
      rotate_left
      · intro w hSw; (try dsimp only at hSw); go_simp; try with_reducible rfl
      try simp only [Act.put, List.setIfInBounds_toArray, List.set_cons_zero, List.set_cons_succ]
      refine wpAnyH_done (by kernel_rfl) ?_ _
      (try refine NoPanic.normal ?_)
      (try clear q0); (try clear q1); obtain ⟨q0, q1⟩ := hHeld
      go_wp2
      go_ret
      exact ⟨by rw [EV.out] <;> rfl, by first | exact HB | (repeat (first | with_reducible assumption | with_reducible exact Below.refl _ _ | ((with_reducible refine Below.setCell ?_ ?_ _); rotate_left; (first | exact Nat.le_refl _ | (dsimp only; omega) | (simp; done) | (simp; omega))) | with_reducible refine below_alloc ?_ _ | with_reducible apply below_drewN | with_reducible apply Below.drew | with_reducible refine below_step ?_ (by assumption)))⟩
/-- Whether two discs touch; whether all fits. -/
def tou (n s1 s2 : Int) : Bool := decide (0 < n) && decide (n < sat (s1 + s2))
def tok (n s1 s2 : Int) : Bool := !decide (0 < n) || fx (s1 + s2)
def sqs (X Y : Int) : Int := ln (X * X + Y * Y)
def apok (ax ay bx bY s1 s2 : Int) : Bool := fx (bx - ax) && fx (bY - ay) && lnok (sat (bx - ax) * sat (bx - ax) + sat (bY - ay) * sat (bY - ay)) && uok (sat (bx - ax)) (sqs (sat (bx - ax)) (sat (bY - ay))) && uok (sat (bY - ay)) (sqs (sat (bx - ax)) (sat (bY - ay))) && tok (sqs (sat (bx - ax)) (sat (bY - ay))) s1 s2
theorem apok_o (o f1 f2 l u1 u2 t : Bool) : (o || !f1 || !f2 || !l || !u1 || !u2 || !l || !t) = (o || !(f1 && f2 && l && u1 && u2 && t)) := by cases o <;> cases f1 <;> cases f2 <;> cases l <;> cases u1 <;> cases u2 <;> cases t <;> rfl
set_option maxHeartbeats 8000000 in
theorem cApart (ax ay vx vy s1 m1 bx bY wx wy s2 m2 : Int) (b : Nat) (o : Bool) (w : World) (ax_0 : -9223372036854775808 ≤ ax) (ax_1 : ax ≤ 9223372036854775807) (ay_0 : -9223372036854775808 ≤ ay) (ay_1 : ay ≤ 9223372036854775807) (bx_0 : -9223372036854775808 ≤ bx) (bx_1 : bx ≤ 9223372036854775807) (bY_0 : -9223372036854775808 ≤ bY) (bY_1 : bY ≤ 9223372036854775807) (s1_0 : -9223372036854775808 ≤ s1) (s1_1 : s1 ≤ 9223372036854775807) (s2_0 : -9223372036854775808 ≤ s2) (s2_1 : s2 ≤ 9223372036854775807) (hc : w.cell? ⟨b, 0, none⟩ = some (.bool o)) (hf : w.frozen? ⟨b, 0, none⟩ = false) :
    Calls Try.prog 7 #[.pointer (some ⟨b, 0, none⟩), .agg #[.int .i64 ax, .int .i64 ay, .int .i64 vx, .int .i64 vy, .int .i64 s1, .int .i64 m1], .agg #[.int .i64 bx, .int .i64 bY, .int .i64 wx, .int .i64 wy, .int .i64 s2, .int .i64 m2]] w fun e w' =>
      e = .returned (.tuple #[.agg #[.int .i64 (uq (sat (bx - ax)) (sqs (sat (bx - ax)) (sat (bY - ay)))), .int .i64 (uq (sat (bY - ay)) (sqs (sat (bx - ax)) (sat (bY - ay))))], .int .i64 (sqs (sat (bx - ax)) (sat (bY - ay))), .bool (tou (sqs (sat (bx - ax)) (sat (bY - ay))) s1 s2)]) ∧ Mv b (o || !apok ax ay bx bY s1 s2) w w' := by
  have hb := lt_of_cell hc
  have HM := Mv.refl hc hf
  clear hc hf
  have k1 := fun O W => cBLess bx bY ax ay b O W bx_0 bx_1 bY_0 bY_1 ax_0 ax_1 ay_0 ay_1
  have x0 := sat_lo (bx - ax); have x1 := sat_hi (bx - ax); have y0 := sat_lo (bY - ay); have y1 := sat_hi (bY - ay)
  unfold apok
  generalize sat (bx - ax) = X at *
  generalize sat (bY - ay) = Y at *
  generalize fx (bx - ax) = f1 at *
  generalize fx (bY - ay) = f2 at *
  have k2 := fun O W => cUnit2 X Y b O W x0 x1 y0 y1
  have k3 := fun O W => cLen2 X Y b O W x0 x1 y0 y1
  have k4 := fun O W => cFAdd s1 s2 b O W s1_0 s1_1 s2_0 s2_1
  rw [← apok_o]
  unfold sqs tou tok
  generalize lnok (X * X + Y * Y) = l at *
  generalize ln (X * X + Y * Y) = n at *
  generalize uq X n = ux at *
  generalize uq Y n = uy at *
  generalize uok X n = o1 at *
  generalize uok Y n = o2 at *
  generalize (!decide (n = 0)) = tz at *
  generalize sat (s1 + s2) = S at *
  generalize fx (s1 + s2) = fS at *
  clear x0 x1 y0 y1
  go_enter Try.func7, Try.ntmps7
  go_wp2_with (fail)
  (go_at_call 21; (with_reducible refine (mvCall (b := b) (w0 := w) (by (repeat (first | with_reducible assumption | with_reducible exact Mv.refl (by assumption) (by assumption) | with_reducible apply Mv.alloc | with_reducible apply Mv.drew | with_reducible apply Mv.drewN | ((with_reducible apply Mv.setCell); rotate_left; (first | (dsimp only; omega) | omega | (simp; omega)); (first | (dsimp only; omega) | omega | (simp; omega))) | ((with_reducible apply Mv.below); rotate_left; (with_reducible assumption)) | ((with_reducible apply Mv.trans); rotate_left; (with_reducible assumption))))) (k1 _ _)).mono ?_); rintro e w1 ⟨rfl, hM, HM⟩)
  have A : Bk (w.heap.size) 0 [.int .i64 ax, .int .i64 ay, .int .i64 vx, .int .i64 vy, .int .i64 s1, .int .i64 m1] w1 := Bk.mv hM (by omega) (by simp [Bk, go_sem]; done)
  have B : Bk (w.heap.size + 1) 0 [.int .i64 bx, .int .i64 bY, .int .i64 wx, .int .i64 wy, .int .i64 s2, .int .i64 m2] w1 := Bk.mv hM (by omega) (by simp [Bk, go_sem]; done)
  have R : Bk (w.heap.size + 1 + 1) 0 [.int .i64 0, .int .i64 0] w1 := Bk.mv hM (by omega) (by simp [Bk, go_sem]; done)
  have hz := World.block_lt_of_cell? w1 _ R.1
  rename World => wa
  clear hM k1
  go_wp2_with (fail)
  (go_at_call 22; (with_reducible refine (mvCall (b := b) (w0 := w) (by (repeat (first | with_reducible assumption | with_reducible exact Mv.refl (by assumption) (by assumption) | with_reducible apply Mv.alloc | with_reducible apply Mv.drew | with_reducible apply Mv.drewN | ((with_reducible apply Mv.setCell); rotate_left; (first | (dsimp only; omega) | omega | (simp; omega)); (first | (dsimp only; omega) | omega | (simp; omega))) | ((with_reducible apply Mv.below); rotate_left; (with_reducible assumption)) | ((with_reducible apply Mv.trans); rotate_left; (with_reducible assumption))))) (k2 _ _)).mono ?_); rintro e9 w1 ⟨rfl, hM, HM⟩; (first | have A := Bk.mv hM (by omega) A | have A := Bk.mv hM (by omega) (Bk.drew A) | have A := Bk.mv hM (by omega) (Bk.alloc A _) | have A := Bk.mv hM (by omega) (Bk.alloc (Bk.alloc A _) _)); have C_A := A; simp only [Bk] at C_A; (first | have B := Bk.mv hM (by omega) B | have B := Bk.mv hM (by omega) (Bk.drew B) | have B := Bk.mv hM (by omega) (Bk.alloc B _) | have B := Bk.mv hM (by omega) (Bk.alloc (Bk.alloc B _) _)); have C_B := B; simp only [Bk] at C_B; (first | have R := Bk.mv hM (by omega) R | have R := Bk.mv hM (by omega) (Bk.drew R) | have R := Bk.mv hM (by omega) (Bk.alloc R _) | have R := Bk.mv hM (by omega) (Bk.alloc (Bk.alloc R _) _)); have C_R := R; simp only [Bk] at C_R)
  have G : Bk wa.heap.size 0 [.int .i64 X, .int .i64 Y] w1 := Bk.mv hM (by omega) (by simp [Bk, go_sem]; done)
  have C_G := G; simp only [Bk] at C_G
  clear hM k2
  go_wp2_with (fail)
  (go_at_call 23; (with_reducible refine (mvCall (b := b) (w0 := w) (by (repeat (first | with_reducible assumption | with_reducible exact Mv.refl (by assumption) (by assumption) | with_reducible apply Mv.alloc | with_reducible apply Mv.drew | with_reducible apply Mv.drewN | ((with_reducible apply Mv.setCell); rotate_left; (first | (dsimp only; omega) | omega | (simp; omega)); (first | (dsimp only; omega) | omega | (simp; omega))) | ((with_reducible apply Mv.below); rotate_left; (with_reducible assumption)) | ((with_reducible apply Mv.trans); rotate_left; (with_reducible assumption))))) (k3 _ _)).mono ?_); rintro e9 w1 ⟨rfl, hM, HM⟩)
  have A : Bk (w.heap.size) 0 [.int .i64 ax, .int .i64 ay, .int .i64 vx, .int .i64 vy, .int .i64 s1, .int .i64 m1] w1 := by (repeat (first | with_reducible assumption | with_reducible apply Bk.drew | with_reducible apply Bk.alloc | with_reducible apply Bk.later (hB := hR) | with_reducible apply Bk.later (hB := hM) | ((with_reducible apply Bk.mv hM); (focus omega)) | ((with_reducible apply Bk.later); rotate_left; (with_reducible assumption)) | ((with_reducible apply Bk.put); rotate_left; (first | (dsimp only; omega)))))
  have B : Bk (w.heap.size + 1) 0 [.int .i64 bx, .int .i64 bY, .int .i64 wx, .int .i64 wy, .int .i64 s2, .int .i64 m2] w1 := by (repeat (first | with_reducible assumption | with_reducible apply Bk.drew | with_reducible apply Bk.alloc | with_reducible apply Bk.later (hB := hR) | with_reducible apply Bk.later (hB := hM) | ((with_reducible apply Bk.mv hM); (focus omega)) | ((with_reducible apply Bk.later); rotate_left; (with_reducible assumption)) | ((with_reducible apply Bk.put); rotate_left; (first | (dsimp only; omega)))))
  have R : Bk (w.heap.size + 1 + 1) 0 [.int .i64 ux, .int .i64 uy] w1 := Bk.mv hM (by omega) (by simp [Bk, go_sem, *]; done)
  have C_A := A; simp only [Bk] at C_A
  have C_B := B; simp only [Bk] at C_B
  have C_R := R; simp only [Bk] at C_R
  clear hM k3 C_G G
  go_upto_region 4 with (fail)
  by_cases hn : 0 < n
  · have dn := decide_eq_true hn
    (try refine wp_region_noPanic ?_)
    refine wp_region_held_drew (S := (fun (w' : World) => w'.cell? ⟨w.heap.size + 1 + 1, 0, none⟩ = some (.int .i64 ux) ∧ w'.cell? ⟨w.heap.size + 1 + 1, 1, none⟩ = some (.int .i64 uy) ∧ w'.cell? ⟨w.heap.size, 4, none⟩ = some (.int .i64 s1) ∧ w'.cell? ⟨w.heap.size + 1, 4, none⟩ = some (.int .i64 s2))) (by kernel_rfl) ⟨(by first | (simp (maxDischargeDepth := 6) [go_sem, *]; done)), (by first | (simp (maxDischargeDepth := 6) [go_sem, *]; done)), (by first | (simp (maxDischargeDepth := 6) [go_sem, *]; done)), (by first | (simp (maxDischargeDepth := 6) [go_sem, *]; done))⟩ (fun hHeld => ?_)
    refine wpAnyH_take (i := 1) (v := ?_) (by simp only [List.getElem?_toArray, List.getElem?_cons_succ, List.getElem?_cons_zero]; rfl) (by kernel_rfl) (by kernel_rfl) (by kernel_rfl) (fun _ _ _ h => h) (Or.inl ⟨by rfl, ?_⟩) (by assumption) ?_
    rotate_left
    · intro w hSw; (try dsimp only at hSw); go_simp; try with_reducible rfl
    try simp only [Act.put, List.setIfInBounds_toArray, List.set_cons_zero, List.set_cons_succ]
    refine wpAnyH_take (i := 2) (v := ?_) (by simp only [List.getElem?_toArray, List.getElem?_cons_succ, List.getElem?_cons_zero]; rfl) (by kernel_rfl) (by kernel_rfl) (by kernel_rfl) (fun _ _ _ h => h) (Or.inl ⟨by rfl, ?_⟩) (by assumption) ?_
    rotate_left
    · intro w hSw; (try dsimp only at hSw); go_simp; try with_reducible rfl
    try simp only [Act.put, List.setIfInBounds_toArray, List.set_cons_zero, List.set_cons_succ]
    refine wpAnyH_take (i := 3) (v := ?_) (by simp only [List.getElem?_toArray, List.getElem?_cons_succ, List.getElem?_cons_zero]; rfl) (by kernel_rfl) (by kernel_rfl) (by kernel_rfl) (fun _ _ _ h => h) (Or.inl ⟨by rfl, ?_⟩) (by assumption) ?_
    rotate_left
    · intro w hSw; (try dsimp only at hSw); go_simp; try with_reducible rfl
    try simp only [Act.put, List.setIfInBounds_toArray, List.set_cons_zero, List.set_cons_succ]
    refine wpAnyH_take (i := 4) (v := ?_) (by simp only [List.getElem?_toArray, List.getElem?_cons_succ, List.getElem?_cons_zero]; rfl) (by kernel_rfl) (by kernel_rfl) (by kernel_rfl) (fun _ _ _ h => h) (Or.inl ⟨by rfl, ?_⟩) (by assumption) ?_
    rotate_left
    · intro w hSw; (try dsimp only at hSw); go_simp; try with_reducible rfl
    try simp only [Act.put, List.setIfInBounds_toArray, List.set_cons_zero, List.set_cons_succ]
    refine wpAnyH_take (i := 5) (v := ?_) (by simp only [List.getElem?_toArray, List.getElem?_cons_succ, List.getElem?_cons_zero]; rfl) (by kernel_rfl) (by kernel_rfl) (by kernel_rfl) (fun _ _ _ h => h) (Or.inl ⟨by rfl, ?_⟩) (by assumption) ?_
    rotate_left
    · intro w hSw; (try dsimp only at hSw); go_simp; try with_reducible rfl
    try simp only [Act.put, List.setIfInBounds_toArray, List.set_cons_zero, List.set_cons_succ]
    refine wpAnyH_take (i := 6) (v := ?_) (by simp only [List.getElem?_toArray, List.getElem?_cons_succ, List.getElem?_cons_zero]; rfl) (by kernel_rfl) (by kernel_rfl) (by kernel_rfl) (fun _ _ _ h => h) (Or.inl ⟨by rfl, ?_⟩) (by assumption) ?_
    rotate_left
    · intro w hSw; (try dsimp only at hSw); go_simp; try with_reducible rfl
    try simp only [Act.put, List.setIfInBounds_toArray, List.set_cons_zero, List.set_cons_succ]
    refine wpAnyH_take (i := 7) (v := ?_) (by simp only [List.getElem?_toArray, List.getElem?_cons_succ, List.getElem?_cons_zero]; rfl) (by kernel_rfl) (by kernel_rfl) (by kernel_rfl) (fun _ _ _ h => h) (Or.inl ⟨by rfl, ?_⟩) (by assumption) ?_
    rotate_left
    · intro w hSw; (try dsimp only at hSw); go_simp; try with_reducible rfl
    try simp only [Act.put, List.setIfInBounds_toArray, List.set_cons_zero, List.set_cons_succ]
    refine wpAnyH_take (i := 9) (v := ?_) (by simp only [List.getElem?_toArray, List.getElem?_cons_succ, List.getElem?_cons_zero]; rfl) (by kernel_rfl) (by kernel_rfl) (by kernel_rfl) (fun _ _ _ h => h) (Or.inl ⟨by rfl, ?_⟩) (by assumption) ?_
    rotate_left
    · intro w hSw; (try dsimp only at hSw); go_simp; try with_reducible rfl
    try simp only [Act.put, List.setIfInBounds_toArray, List.set_cons_zero, List.set_cons_succ]
    refine wpAnyH_take (i := 0) (v := ?_) (by simp only [List.getElem?_toArray, List.getElem?_cons_succ, List.getElem?_cons_zero]; rfl) (by kernel_rfl) (by kernel_rfl) (by kernel_rfl) (fun _ _ _ h => h) (Or.inl ⟨by rfl, ?_⟩) (by assumption) ?_
    rotate_left
    · intro w hSw; (try dsimp only at hSw); go_simp; try with_reducible rfl
    try simp only [Act.put, List.setIfInBounds_toArray, List.set_cons_zero, List.set_cons_succ]
    refine wpAnyH_take (i := 8) (v := ?_) (by simp only [List.getElem?_toArray, List.getElem?_cons_succ, List.getElem?_cons_zero]; rfl) (by kernel_rfl) (by kernel_rfl) (by kernel_rfl) (fun _ _ _ h => h) (Or.inl ⟨by rfl, ?_⟩) (by assumption) ?_
    rotate_left
    · intro w hSw; (try dsimp only at hSw); go_simp; try with_reducible rfl
    try simp only [Act.put, List.setIfInBounds_toArray, List.set_cons_zero, List.set_cons_succ]
    refine wpAnyH_take (i := 10) (v := ?_) (by simp only [List.getElem?_toArray, List.getElem?_cons_succ, List.getElem?_cons_zero]; rfl) (by kernel_rfl) (by kernel_rfl) (by kernel_rfl) (fun _ _ _ h => h) (Or.inl ⟨by rfl, ?_⟩) (by assumption) ?_
    rotate_left
    · intro w hSw; (try dsimp only at hSw); go_simp; try with_reducible rfl
    try simp only [Act.put, List.setIfInBounds_toArray, List.set_cons_zero, List.set_cons_succ]
    refine wpAnyH_ready (rs := [11]) (by kernel_rfl) (by simp) ?_
    refine AllReadyH.cons rfl (fun K hK => ?_) AllReadyH.nil
    have hOld := hHeld; clear hHeld
    go_simp
    (go_at_call 16; (with_reducible refine (mvCall (b := b) (w0 := w) (by (repeat (first | with_reducible assumption | with_reducible exact Mv.refl (by assumption) (by assumption) | with_reducible apply Mv.alloc | with_reducible apply Mv.drew | with_reducible apply Mv.drewN | ((with_reducible apply Mv.setCell); rotate_left; (first | (dsimp only; omega) | omega | (simp; omega)); (first | (dsimp only; omega) | omega | (simp; omega))) | ((with_reducible apply Mv.below); rotate_left; (with_reducible assumption)) | ((with_reducible apply Mv.trans); rotate_left; (with_reducible assumption))))) (k4 _ _)).mono ?_); rintro e w1 ⟨rfl, hM, HM⟩; have hr := mv_cell (a := ⟨w.heap.size + 1 + 1, 0, none⟩) (v := .int .i64 ux) hM (by first | (dsimp only; omega) | (simp; omega)) (by first | assumption | (simp (maxDischargeDepth := 6) [go_sem, *]; done)); have hg := mv_frozen (a := ⟨w.heap.size + 1 + 1, 0, none⟩) (v := .int .i64 ux) hM (by first | (dsimp only; omega) | (simp; omega)) (by first | assumption | (simp (maxDischargeDepth := 6) [go_sem, *]; done)) (by first | assumption | (simp (maxDischargeDepth := 6) [go_sem, *]; done)); have hr := mv_cell (a := ⟨w.heap.size + 1 + 1, 1, none⟩) (v := .int .i64 uy) hM (by first | (dsimp only; omega) | (simp; omega)) (by first | assumption | (simp (maxDischargeDepth := 6) [go_sem, *]; done)); have hg := mv_frozen (a := ⟨w.heap.size + 1 + 1, 1, none⟩) (v := .int .i64 uy) hM (by first | (dsimp only; omega) | (simp; omega)) (by first | assumption | (simp (maxDischargeDepth := 6) [go_sem, *]; done)) (by first | assumption | (simp (maxDischargeDepth := 6) [go_sem, *]; done)))
    (try go_wp2_with (fail))
    refine hK.out _ _ ⟨(by first | exact mv_cell hM (by first | (dsimp only; omega) | (simp; omega)) hOld.1 | exact cell_later hM hOld.1 | exact HT.cb | exact HT.cc | (simp (maxDischargeDepth := 6) [go_sem, *]; done)), (by first | exact mv_cell hM (by first | (dsimp only; omega) | (simp; omega)) hOld.2.1 | exact cell_later hM hOld.2.1 | exact HT.cb | exact HT.cc | (simp (maxDischargeDepth := 6) [go_sem, *]; done)), (by first | exact mv_cell hM (by first | (dsimp only; omega) | (simp; omega)) hOld.2.2.1 | exact cell_later hM hOld.2.2.1 | exact HT.cb | exact HT.cc | (simp (maxDischargeDepth := 6) [go_sem, *]; done)), (by first | exact mv_cell hM (by first | (dsimp only; omega) | (simp; omega)) hOld.2.2.2 | exact cell_later hM hOld.2.2.2 | exact HT.cb | exact HT.cc | (simp (maxDischargeDepth := 6) [go_sem, *]; done))⟩ (fun hHeld => ?_)
    clear hK K hOld
    try simp only [Act.put, List.setIfInBounds_toArray, List.set_cons_zero, List.set_cons_succ]
    refine wpAnyH_take (i := 12) (v := ?_) (by simp only [List.getElem?_toArray, List.getElem?_cons_succ, List.getElem?_cons_zero]; rfl) (by kernel_rfl) (by kernel_rfl) (by kernel_rfl) (fun _ _ _ h => h) (Or.inl ⟨by rfl, ?_⟩) (by assumption) ?_
    rotate_left
    · intro w hSw; (try dsimp only at hSw); go_simp; try with_reducible rfl
    try simp only [Act.put, List.setIfInBounds_toArray, List.set_cons_zero, List.set_cons_succ]
    refine wpAnyH_take (i := 13) (v := ?_) (by simp only [List.getElem?_toArray, List.getElem?_cons_succ, List.getElem?_cons_zero]; rfl) (by kernel_rfl) (by kernel_rfl) (by kernel_rfl) (fun _ _ _ h => h) (Or.inl ⟨by rfl, ?_⟩) (by assumption) ?_
    rotate_left
    · intro w hSw; (try dsimp only at hSw); go_simp; try with_reducible rfl
    try simp only [Act.put, List.setIfInBounds_toArray, List.set_cons_zero, List.set_cons_succ]
    refine wpAnyH_ready (rs := [14]) (by kernel_rfl) (by simp) ?_
    refine AllReadyH.cons rfl (fun K hK => ?_) AllReadyH.nil
    have hOld := hHeld; clear hHeld
    go_simp
    (try go_wp2_with (fail))
    refine hK.out _ _ ⟨(by first | exact mv_cell hM (by first | (dsimp only; omega) | (simp; omega)) hOld.1 | exact cell_later hM hOld.1 | exact HT.cb | exact HT.cc | (simp (maxDischargeDepth := 6) [go_sem, *]; done)), (by first | exact mv_cell hM (by first | (dsimp only; omega) | (simp; omega)) hOld.2.1 | exact cell_later hM hOld.2.1 | exact HT.cb | exact HT.cc | (simp (maxDischargeDepth := 6) [go_sem, *]; done)), (by first | exact mv_cell hM (by first | (dsimp only; omega) | (simp; omega)) hOld.2.2.1 | exact cell_later hM hOld.2.2.1 | exact HT.cb | exact HT.cc | (simp (maxDischargeDepth := 6) [go_sem, *]; done)), (by first | exact mv_cell hM (by first | (dsimp only; omega) | (simp; omega)) hOld.2.2.2 | exact cell_later hM hOld.2.2.2 | exact HT.cb | exact HT.cc | (simp (maxDischargeDepth := 6) [go_sem, *]; done))⟩ (fun hHeld => ?_)
    clear hK K hOld
    try simp only [Act.put, List.setIfInBounds_toArray, List.set_cons_zero, List.set_cons_succ]
    refine wpAnyH_take (i := 15) (v := ?_) (by simp only [List.getElem?_toArray, List.getElem?_cons_succ, List.getElem?_cons_zero]; rfl) (by kernel_rfl) (by kernel_rfl) (by kernel_rfl) (fun _ _ _ h => h) (Or.inl ⟨by rfl, ?_⟩) (by assumption) ?_
    rotate_left
    · intro w hSw; (try dsimp only at hSw); go_simp; try with_reducible rfl
    try simp only [Act.put, List.setIfInBounds_toArray, List.set_cons_zero, List.set_cons_succ]
    refine wpAnyH_take (i := 16) (v := ?_) (by simp only [List.getElem?_toArray, List.getElem?_cons_succ, List.getElem?_cons_zero]; rfl) (by kernel_rfl) (by kernel_rfl) (by kernel_rfl) (fun _ _ _ h => h) (Or.inl ⟨by rfl, ?_⟩) (by assumption) ?_
    rotate_left
    · intro w hSw; (try dsimp only at hSw); go_simp; try with_reducible rfl
    try simp only [Act.put, List.setIfInBounds_toArray, List.set_cons_zero, List.set_cons_succ]
    refine wpAnyH_done (by kernel_rfl) ?_ _
    (try refine NoPanic.normal ?_)
    (try clear q0); (try clear q1); (try clear q2); (try clear q3); obtain ⟨q0, q1, q2, q3⟩ := hHeld
    go_wp2
    simp (maxDischargeDepth := 8) [bodyPost, results, Try.results7, go_sem, *]
    exact Mv.cast (by (repeat (first | with_reducible assumption | with_reducible exact Mv.refl (by assumption) (by assumption) | with_reducible apply Mv.alloc | with_reducible apply Mv.drew | with_reducible apply Mv.drewN | ((with_reducible apply Mv.setCell); rotate_left; (first | (dsimp only; omega) | omega | (simp; omega)); (first | (dsimp only; omega) | omega | (simp; omega))) | ((with_reducible apply Mv.below); rotate_left; (with_reducible assumption)) | ((with_reducible apply Mv.trans); rotate_left; (with_reducible assumption))))) (by simp only [Bool.not_and, Bool.or_assoc])
  · have dn := decide_eq_false hn
    (try refine wp_region_noPanic ?_)
    refine wp_region_held_drew (S := (fun (w' : World) => w'.cell? ⟨w.heap.size + 1 + 1, 0, none⟩ = some (.int .i64 ux) ∧ w'.cell? ⟨w.heap.size + 1 + 1, 1, none⟩ = some (.int .i64 uy) ∧ w'.cell? ⟨w.heap.size, 4, none⟩ = some (.int .i64 s1) ∧ w'.cell? ⟨w.heap.size + 1, 4, none⟩ = some (.int .i64 s2))) (by kernel_rfl) ⟨(by first | (simp (maxDischargeDepth := 6) [go_sem, *]; done)), (by first | (simp (maxDischargeDepth := 6) [go_sem, *]; done)), (by first | (simp (maxDischargeDepth := 6) [go_sem, *]; done)), (by first | (simp (maxDischargeDepth := 6) [go_sem, *]; done))⟩ (fun hHeld => ?_)
    refine wpAnyH_take (i := 1) (v := ?_) (by simp only [List.getElem?_toArray, List.getElem?_cons_succ, List.getElem?_cons_zero]; rfl) (by kernel_rfl) (by kernel_rfl) (by kernel_rfl) (fun _ _ _ h => h) (Or.inl ⟨by rfl, ?_⟩) (by assumption) ?_
    rotate_left
    · intro w hSw; (try dsimp only at hSw); go_simp; try with_reducible rfl
    try simp only [Act.put, List.setIfInBounds_toArray, List.set_cons_zero, List.set_cons_succ]
    refine wpAnyH_take (i := 2) (v := ?_) (by simp only [List.getElem?_toArray, List.getElem?_cons_succ, List.getElem?_cons_zero]; rfl) (by kernel_rfl) (by kernel_rfl) (by kernel_rfl) (fun _ _ _ h => h) (Or.inl ⟨by rfl, ?_⟩) (by assumption) ?_
    rotate_left
    · intro w hSw; (try dsimp only at hSw); go_simp; try with_reducible rfl
    try simp only [Act.put, List.setIfInBounds_toArray, List.set_cons_zero, List.set_cons_succ]
    refine wpAnyH_take (i := 3) (v := ?_) (by simp only [List.getElem?_toArray, List.getElem?_cons_succ, List.getElem?_cons_zero]; rfl) (by kernel_rfl) (by kernel_rfl) (by kernel_rfl) (fun _ _ _ h => h) (Or.inl ⟨by rfl, ?_⟩) (by assumption) ?_
    rotate_left
    · intro w hSw; (try dsimp only at hSw); go_simp; try with_reducible rfl
    try simp only [Act.put, List.setIfInBounds_toArray, List.set_cons_zero, List.set_cons_succ]
    refine wpAnyH_take (i := 4) (v := ?_) (by simp only [List.getElem?_toArray, List.getElem?_cons_succ, List.getElem?_cons_zero]; rfl) (by kernel_rfl) (by kernel_rfl) (by kernel_rfl) (fun _ _ _ h => h) (Or.inl ⟨by rfl, ?_⟩) (by assumption) ?_
    rotate_left
    · intro w hSw; (try dsimp only at hSw); go_simp; try with_reducible rfl
    try simp only [Act.put, List.setIfInBounds_toArray, List.set_cons_zero, List.set_cons_succ]
    refine wpAnyH_take (i := 5) (v := ?_) (by simp only [List.getElem?_toArray, List.getElem?_cons_succ, List.getElem?_cons_zero]; rfl) (by kernel_rfl) (by kernel_rfl) (by kernel_rfl) (fun _ _ _ h => h) (Or.inr ⟨by rfl, by rfl⟩) (by assumption) ?_
    try simp only [Act.put, List.setIfInBounds_toArray, List.set_cons_zero, List.set_cons_succ]
    refine wpAnyH_take (i := 6) (v := ?_) (by simp only [List.getElem?_toArray, List.getElem?_cons_succ, List.getElem?_cons_zero]; rfl) (by kernel_rfl) (by kernel_rfl) (by kernel_rfl) (fun _ _ _ h => h) (Or.inr ⟨by rfl, by rfl⟩) (by assumption) ?_
    try simp only [Act.put, List.setIfInBounds_toArray, List.set_cons_zero, List.set_cons_succ]
    refine wpAnyH_take (i := 7) (v := ?_) (by simp only [List.getElem?_toArray, List.getElem?_cons_succ, List.getElem?_cons_zero]; rfl) (by kernel_rfl) (by kernel_rfl) (by kernel_rfl) (fun _ _ _ h => h) (Or.inr ⟨by rfl, by rfl⟩) (by assumption) ?_
    try simp only [Act.put, List.setIfInBounds_toArray, List.set_cons_zero, List.set_cons_succ]
    refine wpAnyH_take (i := 8) (v := ?_) (by simp only [List.getElem?_toArray, List.getElem?_cons_succ, List.getElem?_cons_zero]; rfl) (by kernel_rfl) (by kernel_rfl) (by kernel_rfl) (fun _ _ _ h => h) (Or.inr ⟨by rfl, by rfl⟩) (by assumption) ?_
    try simp only [Act.put, List.setIfInBounds_toArray, List.set_cons_zero, List.set_cons_succ]
    refine wpAnyH_take (i := 9) (v := ?_) (by simp only [List.getElem?_toArray, List.getElem?_cons_succ, List.getElem?_cons_zero]; rfl) (by kernel_rfl) (by kernel_rfl) (by kernel_rfl) (fun _ _ _ h => h) (Or.inr ⟨by rfl, by rfl⟩) (by assumption) ?_
    try simp only [Act.put, List.setIfInBounds_toArray, List.set_cons_zero, List.set_cons_succ]
    refine wpAnyH_take (i := 10) (v := ?_) (by simp only [List.getElem?_toArray, List.getElem?_cons_succ, List.getElem?_cons_zero]; rfl) (by kernel_rfl) (by kernel_rfl) (by kernel_rfl) (fun _ _ _ h => h) (Or.inr ⟨by rfl, by rfl⟩) (by assumption) ?_
    try simp only [Act.put, List.setIfInBounds_toArray, List.set_cons_zero, List.set_cons_succ]
    refine wpAnyH_take (i := 0) (v := ?_) (by simp only [List.getElem?_toArray, List.getElem?_cons_succ, List.getElem?_cons_zero]; rfl) (by kernel_rfl) (by kernel_rfl) (by kernel_rfl) (fun _ _ _ h => h) (Or.inl ⟨by rfl, ?_⟩) (by assumption) ?_
    rotate_left
    · intro w hSw; (try dsimp only at hSw); go_simp; try with_reducible rfl
    try simp only [Act.put, List.setIfInBounds_toArray, List.set_cons_zero, List.set_cons_succ]
    refine wpAnyH_ready (rs := [11]) (by kernel_rfl) (by simp) ?_
    refine AllReadyH.cons rfl (fun K hK => ?_) AllReadyH.nil
    have hOld := hHeld; clear hHeld
    go_simp
    refine hK.out _ _ hOld (fun hHeld => ?_)
    clear hK K hOld
    try simp only [Act.put, List.setIfInBounds_toArray, List.set_cons_zero, List.set_cons_succ]
    refine wpAnyH_take (i := 12) (v := ?_) (by simp only [List.getElem?_toArray, List.getElem?_cons_succ, List.getElem?_cons_zero]; rfl) (by kernel_rfl) (by kernel_rfl) (by kernel_rfl) (fun _ _ _ h => h) (Or.inr ⟨by rfl, by rfl⟩) (by assumption) ?_
    try simp only [Act.put, List.setIfInBounds_toArray, List.set_cons_zero, List.set_cons_succ]
    refine wpAnyH_take (i := 13) (v := ?_) (by simp only [List.getElem?_toArray, List.getElem?_cons_succ, List.getElem?_cons_zero]; rfl) (by kernel_rfl) (by kernel_rfl) (by kernel_rfl) (fun _ _ _ h => h) (Or.inl ⟨by rfl, ?_⟩) (by assumption) ?_
    rotate_left
    · intro w hSw; (try dsimp only at hSw); go_simp; try with_reducible rfl
    try simp only [Act.put, List.setIfInBounds_toArray, List.set_cons_zero, List.set_cons_succ]
    refine wpAnyH_ready (rs := [14]) (by kernel_rfl) (by simp) ?_
    refine AllReadyH.cons rfl (fun K hK => ?_) AllReadyH.nil
    have hOld := hHeld; clear hHeld
    go_simp
    (try go_wp2_with (fail))
    refine hK.out _ _ ⟨(by first | exact mv_cell hM (by first | (dsimp only; omega) | (simp; omega)) hOld.1 | exact cell_later hM hOld.1 | exact HT.cb | exact HT.cc | (simp (maxDischargeDepth := 6) [go_sem, *]; done)), (by first | exact mv_cell hM (by first | (dsimp only; omega) | (simp; omega)) hOld.2.1 | exact cell_later hM hOld.2.1 | exact HT.cb | exact HT.cc | (simp (maxDischargeDepth := 6) [go_sem, *]; done)), (by first | exact mv_cell hM (by first | (dsimp only; omega) | (simp; omega)) hOld.2.2.1 | exact cell_later hM hOld.2.2.1 | exact HT.cb | exact HT.cc | (simp (maxDischargeDepth := 6) [go_sem, *]; done)), (by first | exact mv_cell hM (by first | (dsimp only; omega) | (simp; omega)) hOld.2.2.2 | exact cell_later hM hOld.2.2.2 | exact HT.cb | exact HT.cc | (simp (maxDischargeDepth := 6) [go_sem, *]; done))⟩ (fun hHeld => ?_)
    clear hK K hOld
    try simp only [Act.put, List.setIfInBounds_toArray, List.set_cons_zero, List.set_cons_succ]
    refine wpAnyH_take (i := 15) (v := ?_) (by simp only [List.getElem?_toArray, List.getElem?_cons_succ, List.getElem?_cons_zero]; rfl) (by kernel_rfl) (by kernel_rfl) (by kernel_rfl) (fun _ _ _ h => h) (Or.inl ⟨by rfl, ?_⟩) (by assumption) ?_
    rotate_left
    · intro w hSw; (try dsimp only at hSw); go_simp; try with_reducible rfl
    try simp only [Act.put, List.setIfInBounds_toArray, List.set_cons_zero, List.set_cons_succ]
    refine wpAnyH_take (i := 16) (v := ?_) (by simp only [List.getElem?_toArray, List.getElem?_cons_succ, List.getElem?_cons_zero]; rfl) (by kernel_rfl) (by kernel_rfl) (by kernel_rfl) (fun _ _ _ h => h) (Or.inl ⟨by rfl, ?_⟩) (by assumption) ?_
    rotate_left
    · intro w hSw; (try dsimp only at hSw); go_simp; try with_reducible rfl
    try simp only [Act.put, List.setIfInBounds_toArray, List.set_cons_zero, List.set_cons_succ]
    refine wpAnyH_done (by kernel_rfl) ?_ _
    (try refine NoPanic.normal ?_)
    (try clear q0); (try clear q1); (try clear q2); (try clear q3); obtain ⟨q0, q1, q2, q3⟩ := hHeld
    go_wp2
    simp (maxDischargeDepth := 8) [bodyPost, results, Try.results7, go_sem, *]
    exact Mv.cast (by (repeat (first | with_reducible assumption | with_reducible exact Mv.refl (by assumption) (by assumption) | with_reducible apply Mv.alloc | with_reducible apply Mv.drew | with_reducible apply Mv.drewN | ((with_reducible apply Mv.setCell); rotate_left; (first | (dsimp only; omega) | omega | (simp; omega)); (first | (dsimp only; omega) | omega | (simp; omega))) | ((with_reducible apply Mv.below); rotate_left; (with_reducible assumption)) | ((with_reducible apply Mv.trans); rotate_left; (with_reducible assumption))))) (by simp only [Bool.not_and, Bool.or_assoc])
end Go.Proofs.Ytgdoaibgcjdklaa
