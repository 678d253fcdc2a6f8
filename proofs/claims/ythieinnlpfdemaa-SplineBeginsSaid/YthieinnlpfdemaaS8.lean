/- How far along samples are: the document's walk. -/
import Derived.Test.YthieinnlpfdemaaS7
set_option linter.unusedSimpArgs false
set_option linter.unusedVariables false
namespace Go.Proofs.Ythieinnlpfdemaa
open Go.RowKit
set_option maxHeartbeats 8000000 in
set_option maxRecDepth 20000 in
theorem rLengths (a : Addr) (n c : Nat) (X Y : Nat → Int) (b : Nat) (o : Bool) (w : World) (hn : n ≤ 100) (hX : ∀ j, j < n → -9223372036854775808 ≤ X j ∧ X j ≤ 9223372036854775807) (hY : ∀ j, j < n → -9223372036854775808 ≤ Y j ∧ Y j ≤ 9223372036854775807) (hP : Pt a n X Y w) (hab : a.block ≠ b) (hc : w.cell? ⟨b, 0, none⟩ = some (.bool o)) (hf : w.frozen? ⟨b, 0, none⟩ = false) :
    Calls Try.prog 19 #[.pointer (some ⟨b, 0, none⟩), .slice (some a) n c] w fun e w' => ∃ g cap : Nat, e = .returned (.slice (some ⟨g, 0, none⟩) (n + 1) cap) ∧ w.heap.size ≤ g ∧ Nm g (n + 1) (LV X Y n) w' ∧ Mv b (o || !lok X Y n n) w w' := by
  have hb := lt_of_cell hc
  have HM := Mv.refl hc hf
  clear hc hf
  obtain ⟨i0, hi, hz0, hz1, hz2⟩ := info_parts infoF
  have hinf := Lib.hid (And.intro hi (And.intro hz0 (And.intro hz1 hz2)))
  clear hi hz0 hz1 hz2
  have HX := Lib.hid (And.intro hX hY)
  have HPW := Lib.hid hP
  clear hX hY hP
  have hown0 : (w.alloc (Obj.cells #[.int .i64 0] 23)).ownsRow w.heap.size 23 1 (.slice (some ⟨w.heap.size, 0, none⟩) 1 1) 1 (lvs (LV X Y n) 1) := World.ownsRow_lit w #[.int .i64 0] 1 (Nat.le_refl _) (by unfold maxLen; omega) rfl
  have HM0 : Mv b o w (w.alloc (Obj.cells #[.int .i64 0] 23)) := Mv.alloc HM _
  have HI := Lib.hid (And.intro hown0 HM0)
  clear hown0 HM0 HM
  go_enter Try.func19, Try.ntmps19
  go_wp2_with (fail)
  go_loopw [5, 6] (fun s i wx => ∃ I : Nat, i = .int .i64 I ∧ I ≤ n ∧ wx.ownsRow w.heap.size 23 1 s (I + 1) (lvs (LV X Y n) (I + 1)) ∧ Mv b (o || !lok X Y n I) w wx) (fun _ i _ => 100 - (RowKit.intOf i).toNat)
  case atStart => exact ⟨0, rfl, by omega, HI.out.1, Mv.cast HI.out.2 (by simp [lok])⟩
  case round =>
    obtain ⟨I, rfl, hI, hown, HM⟩ := hrel
    obtain ⟨o9, ho9⟩ : ∃ v, (o || !lok X Y n I) = v := ⟨_, rfl⟩
    rw [ho9] at HM
    have HO9 := Lib.hid ho9
    clear ho9
    by_cases hlt : I < n
    · have hPx := HPW.out.mv HM hab
      obtain ⟨hx0, hx1⟩ := HX.out.1 I hlt
      obtain ⟨hy0, hy1⟩ := HX.out.2 I hlt
      obtain ⟨p0, p1⟩ := hPx I hlt
      obtain ⟨q0, q1⟩ := hPx 0 (by omega)
      have hm9 : (I + 1) % n < n := Nat.mod_lt _ (by omega)
      obtain ⟨hu0, hu1⟩ := HX.out.1 _ hm9
      obtain ⟨hv0, hv1⟩ := HX.out.2 _ hm9
      obtain ⟨r0, r1⟩ := hPx _ hm9
      have hbl : a.block < w.heap.size := HPW.out.block (by omega)
      have l0 := (LV_bd X Y n I).1; have l1 := (LV_bd X Y n I).2
      have e0 := ln_lo6 (dX X n I * dX X n I + dX Y n I * dX Y n I); have e1 := ln_hi6 (dX X n I * dX X n I + dX Y n I * dX Y n I)
      have k1 := fun O W => rFSub (X ((I + 1) % n)) (X I) b O W hu0 hu1 hx0 hx1
      have k2 := fun O W => rFSub (Y ((I + 1) % n)) (Y I) b O W hv0 hv1 hy0 hy1
      have k3 := fun O W => c3Len2 (dX X n I) (dX Y n I) b O W (sat_lo _) (sat_hi _) (sat_lo _) (sat_hi _)
      have k4 := fun O W => rFAdd (LV X Y n I) (dL X Y n I) b O W l0 l1 (by unfold dL; omega) (by unfold dL; omega)
      have EL : Hid (LV X Y n (I + 1) = sat (LV X Y n I + dL X Y n I)) := Lib.hid rfl
      have EO : Hid (lok X Y n (I + 1) = (lok X Y n I && (fx (X ((I + 1) % n) - X I) && fx (Y ((I + 1) % n) - Y I) && lnok (dX X n I * dX X n I + dX Y n I * dX Y n I) && fx (LV X Y n I + dL X Y n I)))) := Lib.hid rfl
      have ES : Hid (lvs (LV X Y n) (I + 1 + 1) = lvs (LV X Y n) (I + 1) ++ [.int .i64 (LV X Y n (I + 1))]) := Lib.hid rfl
      rw [show sat (X ((I + 1) % n) - X I) = dX X n I from rfl] at k1
      rw [show sat (Y ((I + 1) % n) - Y I) = dX Y n I from rfl] at k2
      rw [show ln (dX X n I * dX X n I + dX Y n I * dX Y n I) = dL X Y n I from rfl] at k3
      rw [← EL.out] at k4
      clear e0 e1 hPx p0 p1 q0 q1 r0 r1
      have hPx := HPW.out.mv HM hab
      have hown9 := hown.lt
      have SH : ∀ W : World, Pt a n X Y W → (W.cell? (a.add (I * 2)) = some (.int .i64 (X I)) ∧ W.cell? ⟨(a.add (I * 2)).block, (a.add (I * 2)).off + 1, none⟩ = some (.int .i64 (Y I))) ∧ (W.cell? (a.add ((I + 1) % n * 2)) = some (.int .i64 (X ((I + 1) % n))) ∧ W.cell? ⟨(a.add ((I + 1) % n * 2)).block, (a.add ((I + 1) % n * 2)).off + 1, none⟩ = some (.int .i64 (Y ((I + 1) % n)))) ∧
          (∃ u v : Int, W.cell? a = some (.int .i64 u) ∧ W.cell? ⟨a.block, a.off + 1, none⟩ = some (.int .i64 v) ∧ (I + 1 = n → u = X ((I + 1) % n) ∧ v = Y ((I + 1) % n))) := by
        intro W hW
        refine ⟨hW I hlt, hW _ hm9, X 0, Y 0, ?_, ?_, fun e => by rw [next_eq n I e]; exact ⟨rfl, rfl⟩⟩
        · have := (hW 0 (by omega)).1; simpa [Addr.add] using this
        · have := (hW 0 (by omega)).2; simpa [Addr.add] using this
      have HSH := Lib.hid SH
      clear SH
      generalize X ((I + 1) % n) = x1 at k1 HSH EO hu0 hu1 ⊢
      generalize Y ((I + 1) % n) = y1 at k2 HSH EO hv0 hv1 ⊢
      generalize X I = x0 at k1 HSH EO hx0 hx1 ⊢
      generalize Y I = y0 at k2 HSH EO hy0 hy1 ⊢
      generalize fx (x1 - x0) = f1 at *
      generalize fx (y1 - y0) = f2 at *
      generalize lnok (dX X n I * dX X n I + dX Y n I * dX Y n I) = f3 at *
      generalize fx (LV X Y n I + dL X Y n I) = f4 at *
      generalize dX X n I = ux at *
      generalize dX Y n I = uy at *
      generalize dL X Y n I = d at *
      generalize hv9 : LV X Y n I = v0 at k4 l0 l1 ⊢
      generalize hv8 : LV X Y n (I + 1) = v1 at k4 ES ⊢
      have HV := Lib.hid (And.intro hv9 hv8)
      clear hv9 hv8 EL
      obtain ⟨g, cap, rfl, hg, hNm⟩ := Nm.own hown (by omega)
      have c9 := hNm I (by omega)
      rw [HV.out.1] at c9
      have hgW := (hown.lt g rfl).2
      have e7 : ((I : Int) + 1).tmod (n : Int) = (((I + 1) % n : Nat) : Int) := by rw [Int.tmod_eq_emod_of_nonneg (by omega), Int.natCast_emod]; congr 1
      have e8 : ((I : Int) + 1) % (n : Int) = (((I + 1) % n : Nat) : Int) := by rw [Int.natCast_emod]; congr 1
      have nz : ¬ n = 0 := by omega
      obtain ⟨⟨p0, p1⟩, -, -⟩ := HSH.out _ hPx
      go_upto_region 6 with (fail)
      clear p0 p1
      generalize hW : World.alloc _ _ = W1
      have A1 : Bk wr.heap.size 0 [.int .i64 x0, .int .i64 y0] W1 := by rw [← hW]; simp [Bk, go_sem]
      have G1 : W1.cell? ⟨g, I, none⟩ = some (.int .i64 v0) := by rw [← hW, World.cell?_alloc_lt _ _ _ (by exact hgW)]; exact c9
      have hPx : Pt a n X Y W1 := by rw [← hW]; exact hPx.later ((Below.refl _ _).alloc (Nat.le_refl _) _)
      have hown := hown.alloc (Obj.cells #[.int .i64 x0, .int .i64 y0] 32)
      rw [hW] at hown
      have HM1 : Mv b o9 w W1 := by rw [← hW]; exact Mv.alloc HM _
      have hz1 := World.block_lt_of_cell? W1 _ (show W1.cell? ⟨wr.heap.size, 0, none⟩ = some (.int .i64 x0) from A1.1)
      have hzr := HM.size
      dsimp only at hz1
      clear hW HM c9
      obtain ⟨-, ⟨q0, q1⟩, -⟩ := HSH.out _ hPx
      generalize (I + 1) % n = jm at q0 q1 e7 e8 hm9
      go_upto_region 7 with (fail)
      clear q0 q1 e7 e8
      generalize hW : World.alloc _ _ = W2
      have B1 : Bk W1.heap.size 0 [.int .i64 x1, .int .i64 y1] W2 := by rw [← hW]; simp [Bk, go_sem]
      have A1 : Bk wr.heap.size 0 [.int .i64 x0, .int .i64 y0] W2 := by rw [← hW]; exact Bk.alloc A1 _
      have G1 : W2.cell? ⟨g, I, none⟩ = some (.int .i64 v0) := by rw [← hW, World.cell?_alloc_lt _ _ _ (by exact Nat.lt_trans hgW hz1)]; exact G1
      have hown := hown.alloc (Obj.cells #[.int .i64 x1, .int .i64 y1] 32)
      rw [hW] at hown
      have HM : Mv b o9 w W2 := by rw [← hW]; exact Mv.alloc HM1 _
      have hz2 := World.block_lt_of_cell? W2 _ (show W2.cell? ⟨W1.heap.size, 0, none⟩ = some (.int .i64 x1) from B1.1)
      dsimp only at hz2
      clear hW HM1 hPx
      have C_B := B1; simp only [Bk] at C_B
      have C_A := A1; simp only [Bk] at C_A
      have ngb : g ≠ b := by omega
      have l9 : (I : Int) < (I : Int) + 1 := by omega
      (try refine wp_region_noPanic ?_)
      refine wp_region_held_drew (S := (fun (w' : World) => w'.cell? ⟨wr.heap.size, 0, none⟩ = some (.int .i64 x0) ∧ w'.cell? ⟨wr.heap.size, 1, none⟩ = some (.int .i64 y0) ∧ w'.cell? ⟨W1.heap.size, 0, none⟩ = some (.int .i64 x1) ∧ w'.cell? ⟨W1.heap.size, 1, none⟩ = some (.int .i64 y1) ∧ w'.cell? ⟨g, I, none⟩ = some (.int .i64 v0))) (by kernel_rfl) ⟨(by first | (simp (maxDischargeDepth := 6) [go_sem, *]; done)), (by first | (simp (maxDischargeDepth := 6) [go_sem, *]; done)), (by first | (simp (maxDischargeDepth := 6) [go_sem, *]; done)), (by first | (simp (maxDischargeDepth := 6) [go_sem, *]; done)), (by first | (simp (maxDischargeDepth := 6) [go_sem, *]; done))⟩ (fun hHeld => ?_)
      refine wpAnyH_take (i := 0) (v := ?_) (by simp only [List.getElem?_toArray, List.getElem?_cons_succ, List.getElem?_cons_zero]; rfl) (by kernel_rfl) (by kernel_rfl) (by kernel_rfl) (fun _ _ _ h => h) (Or.inl ⟨by rfl, ?_⟩) (by assumption) ?_
      rotate_left
      · intro w hSw; (try dsimp only at hSw); go_simp; try with_reducible rfl
      try simp only [Act.put, List.setIfInBounds_toArray, List.set_cons_zero, List.set_cons_succ]
      refine wpAnyH_take (i := 1) (v := ?_) (by simp only [List.getElem?_toArray, List.getElem?_cons_succ, List.getElem?_cons_zero]; rfl) (by kernel_rfl) (by kernel_rfl) (by kernel_rfl) (fun _ _ _ h => h) (Or.inl ⟨by rfl, ?_⟩) (by assumption) ?_
      rotate_left
      · intro w hSw; (try dsimp only at hSw); go_simp; try with_reducible rfl
      try simp only [Act.put, List.setIfInBounds_toArray, List.set_cons_zero, List.set_cons_succ]
      refine wpAnyH_take (i := 2) (v := ?_) (by simp only [List.getElem?_toArray, List.getElem?_cons_succ, List.getElem?_cons_zero]; rfl) (by kernel_rfl) (by kernel_rfl) (by kernel_rfl) (fun _ _ _ h => h) (Or.inl ⟨by rfl, ?_⟩) (by assumption) ?_
      rotate_left
      · intro w hSw; (try dsimp only at hSw); go_simp; try with_reducible rfl
      try simp only [Act.put, List.setIfInBounds_toArray, List.set_cons_zero, List.set_cons_succ]
      refine wpAnyH_take (i := 3) (v := ?_) (by simp only [List.getElem?_toArray, List.getElem?_cons_succ, List.getElem?_cons_zero]; rfl) (by kernel_rfl) (by kernel_rfl) (by kernel_rfl) (fun _ _ _ h => h) (Or.inl ⟨by rfl, ?_⟩) (by assumption) ?_
      rotate_left
      · intro w hSw; (try dsimp only at hSw); go_simp; try with_reducible rfl
      try simp only [Act.put, List.setIfInBounds_toArray, List.set_cons_zero, List.set_cons_succ]
      refine wpAnyH_take (i := 4) (v := ?_) (by simp only [List.getElem?_toArray, List.getElem?_cons_succ, List.getElem?_cons_zero]; rfl) (by kernel_rfl) (by kernel_rfl) (by kernel_rfl) (fun _ _ _ h => h) (Or.inl ⟨by rfl, ?_⟩) (by assumption) ?_
      rotate_left
      · intro w hSw; (try dsimp only at hSw); go_simp; try with_reducible rfl
      try simp only [Act.put, List.setIfInBounds_toArray, List.set_cons_zero, List.set_cons_succ]
      refine wpAnyH_take (i := 6) (v := ?_) (by simp only [List.getElem?_toArray, List.getElem?_cons_succ, List.getElem?_cons_zero]; rfl) (by kernel_rfl) (by kernel_rfl) (by kernel_rfl) (fun _ _ _ h => h) (Or.inl ⟨by rfl, ?_⟩) (by assumption) ?_
      rotate_left
      · intro w hSw; (try dsimp only at hSw); go_simp; try with_reducible rfl
      try simp only [Act.put, List.setIfInBounds_toArray, List.set_cons_zero, List.set_cons_succ]
      refine wpAnyH_take (i := 7) (v := ?_) (by simp only [List.getElem?_toArray, List.getElem?_cons_succ, List.getElem?_cons_zero]; rfl) (by kernel_rfl) (by kernel_rfl) (by kernel_rfl) (fun _ _ _ h => h) (Or.inl ⟨by rfl, ?_⟩) (by assumption) ?_
      rotate_left
      · intro w hSw; (try dsimp only at hSw); go_simp; try with_reducible rfl
      try simp only [Act.put, List.setIfInBounds_toArray, List.set_cons_zero, List.set_cons_succ]
      refine wpAnyH_take (i := 8) (v := ?_) (by simp only [List.getElem?_toArray, List.getElem?_cons_succ, List.getElem?_cons_zero]; rfl) (by kernel_rfl) (by kernel_rfl) (by kernel_rfl) (fun _ _ _ h => h) (Or.inl ⟨by rfl, ?_⟩) (by assumption) ?_
      rotate_left
      · intro w hSw; (try dsimp only at hSw); go_simp; try with_reducible rfl
      try simp only [Act.put, List.setIfInBounds_toArray, List.set_cons_zero, List.set_cons_succ]
      refine wpAnyH_take (i := 10) (v := ?_) (by simp only [List.getElem?_toArray, List.getElem?_cons_succ, List.getElem?_cons_zero]; rfl) (by kernel_rfl) (by kernel_rfl) (by kernel_rfl) (fun _ _ _ h => h) (Or.inl ⟨by rfl, ?_⟩) (by assumption) ?_
      rotate_left
      · intro w hSw; (try dsimp only at hSw); go_simp; try with_reducible rfl
      try simp only [Act.put, List.setIfInBounds_toArray, List.set_cons_zero, List.set_cons_succ]
      refine wpAnyH_take (i := 13) (v := ?_) (by simp only [List.getElem?_toArray, List.getElem?_cons_succ, List.getElem?_cons_zero]; rfl) (by kernel_rfl) (by kernel_rfl) (by kernel_rfl) (fun _ _ _ h => h) (Or.inl ⟨by rfl, ?_⟩) (by assumption) ?_
      rotate_left
      · intro w hSw; (try dsimp only at hSw); go_simp; try with_reducible rfl
      try simp only [Act.put, List.setIfInBounds_toArray, List.set_cons_zero, List.set_cons_succ]
      refine wpAnyH_take (i := 14) (v := ?_) (by simp only [List.getElem?_toArray, List.getElem?_cons_succ, List.getElem?_cons_zero]; rfl) (by kernel_rfl) (by kernel_rfl) (by kernel_rfl) (fun _ _ _ h => h) (Or.inl ⟨by rfl, ?_⟩) (by assumption) ?_
      rotate_left
      · intro w hSw; (try dsimp only at hSw); go_simp; try with_reducible rfl
      try simp only [Act.put, List.setIfInBounds_toArray, List.set_cons_zero, List.set_cons_succ]
      refine wpAnyH_take (i := 16) (v := ?_) (by simp only [List.getElem?_toArray, List.getElem?_cons_succ, List.getElem?_cons_zero]; rfl) (by kernel_rfl) (by kernel_rfl) (by kernel_rfl) (fun _ _ _ h => h) (Or.inl ⟨by rfl, ?_⟩) (by assumption) ?_
      rotate_left
      · intro w hSw; (try dsimp only at hSw); go_simp; try with_reducible rfl
      try simp only [Act.put, List.setIfInBounds_toArray, List.set_cons_zero, List.set_cons_succ]
      refine wpAnyH_take (i := 5) (v := ?_) (by simp only [List.getElem?_toArray, List.getElem?_cons_succ, List.getElem?_cons_zero]; rfl) (by kernel_rfl) (by kernel_rfl) (by kernel_rfl) (fun _ _ _ h => h) (Or.inl ⟨by rfl, ?_⟩) (by assumption) ?_
      rotate_left
      · intro w hSw; (try dsimp only at hSw); go_simp; try with_reducible rfl
      try simp only [Act.put, List.setIfInBounds_toArray, List.set_cons_zero, List.set_cons_succ]
      refine wpAnyH_take (i := 9) (v := ?_) (by simp only [List.getElem?_toArray, List.getElem?_cons_succ, List.getElem?_cons_zero]; rfl) (by kernel_rfl) (by kernel_rfl) (by kernel_rfl) (fun _ _ _ h => h) (Or.inl ⟨by rfl, ?_⟩) (by assumption) ?_
      rotate_left
      · intro w hSw; (try dsimp only at hSw); go_simp; try with_reducible rfl
      try simp only [Act.put, List.setIfInBounds_toArray, List.set_cons_zero, List.set_cons_succ]
      refine wpAnyH_take (i := 11) (v := ?_) (by simp only [List.getElem?_toArray, List.getElem?_cons_succ, List.getElem?_cons_zero]; rfl) (by kernel_rfl) (by kernel_rfl) (by kernel_rfl) (fun _ _ _ h => h) (Or.inl ⟨by rfl, ?_⟩) (by assumption) ?_
      rotate_left
      · intro w hSw; (try dsimp only at hSw); go_simp; try with_reducible rfl
      try simp only [Act.put, List.setIfInBounds_toArray, List.set_cons_zero, List.set_cons_succ]
      refine wpAnyH_take (i := 15) (v := ?_) (by simp only [List.getElem?_toArray, List.getElem?_cons_succ, List.getElem?_cons_zero]; rfl) (by kernel_rfl) (by kernel_rfl) (by kernel_rfl) (fun _ _ _ h => h) (Or.inl ⟨by rfl, ?_⟩) (by assumption) ?_
      rotate_left
      · intro w hSw; (try dsimp only at hSw); go_simp; try with_reducible rfl
      try simp only [Act.put, List.setIfInBounds_toArray, List.set_cons_zero, List.set_cons_succ]
      refine wpAnyH_take (i := 17) (v := ?_) (by simp only [List.getElem?_toArray, List.getElem?_cons_succ, List.getElem?_cons_zero]; rfl) (by kernel_rfl) (by kernel_rfl) (by kernel_rfl) (fun _ _ _ h => h) (Or.inl ⟨by rfl, ?_⟩) (by assumption) ?_
      rotate_left
      · intro w hSw; (try dsimp only at hSw); go_simp; try with_reducible rfl
      try simp only [Act.put, List.setIfInBounds_toArray, List.set_cons_zero, List.set_cons_succ]
      refine wpAnyH_ready (rs := [12]) (by kernel_rfl) (by simp) ?_
      refine AllReadyH.cons rfl (fun K hK => ?_) AllReadyH.nil
      have hOld := hHeld; clear hHeld
      go_simp
      (go_at_call 41; (with_reducible refine (mvCall (b := b) (w0 := w) (by (repeat (first | with_reducible assumption | with_reducible exact Mv.refl (by assumption) (by assumption) | with_reducible apply Mv.alloc | with_reducible apply Mv.drew | with_reducible apply Mv.drewN | ((with_reducible apply Mv.setCell); rotate_left; (first | (dsimp only; omega) | omega | (simp; omega)); (first | (dsimp only; omega) | omega | (simp; omega))) | ((with_reducible apply Mv.below); rotate_left; (with_reducible assumption)) | ((with_reducible apply Mv.trans); rotate_left; (with_reducible assumption))))) (k1 _ _)).mono ?_); rintro e w1 ⟨rfl, hM, HM⟩)
      (try go_wp2_with (fail))
      refine hK.out _ _ ⟨(by first | exact mv_cell hM (by first | (dsimp only; omega) | (simp; omega)) hOld.1 | exact cell_later hM hOld.1 | exact HT.cb | exact HT.cc | (simp (maxDischargeDepth := 6) [go_sem, *]; done)), (by first | exact mv_cell hM (by first | (dsimp only; omega) | (simp; omega)) hOld.2.1 | exact cell_later hM hOld.2.1 | exact HT.cb | exact HT.cc | (simp (maxDischargeDepth := 6) [go_sem, *]; done)), (by first | exact mv_cell hM (by first | (dsimp only; omega) | (simp; omega)) hOld.2.2.1 | exact cell_later hM hOld.2.2.1 | exact HT.cb | exact HT.cc | (simp (maxDischargeDepth := 6) [go_sem, *]; done)), (by first | exact mv_cell hM (by first | (dsimp only; omega) | (simp; omega)) hOld.2.2.2.1 | exact cell_later hM hOld.2.2.2.1 | exact HT.cb | exact HT.cc | (simp (maxDischargeDepth := 6) [go_sem, *]; done)), (by first | exact mv_cell hM (by first | (dsimp only; omega) | (simp; omega)) hOld.2.2.2.2 | exact cell_later hM hOld.2.2.2.2 | exact HT.cb | exact HT.cc | (simp (maxDischargeDepth := 6) [go_sem, *]; done))⟩ (fun hHeld => ?_)
      clear hK K hOld
      try simp only [Act.put, List.setIfInBounds_toArray, List.set_cons_zero, List.set_cons_succ]
      have hown := own_mv (own_drew hown) hM hb
      refine wpAnyH_ready (rs := [18]) (by kernel_rfl) (by simp) ?_
      refine AllReadyH.cons rfl (fun K hK => ?_) AllReadyH.nil
      have hOld := hHeld; clear hHeld
      go_simp
      (go_at_call 41; (with_reducible refine (mvCall (b := b) (w0 := w) (by (repeat (first | with_reducible assumption | with_reducible exact Mv.refl (by assumption) (by assumption) | with_reducible apply Mv.alloc | with_reducible apply Mv.drew | with_reducible apply Mv.drewN | ((with_reducible apply Mv.setCell); rotate_left; (first | (dsimp only; omega) | omega | (simp; omega)); (first | (dsimp only; omega) | omega | (simp; omega))) | ((with_reducible apply Mv.below); rotate_left; (with_reducible assumption)) | ((with_reducible apply Mv.trans); rotate_left; (with_reducible assumption))))) (k2 _ _)).mono ?_); rintro e w1 ⟨rfl, hM, HM⟩)
      (try go_wp2_with (fail))
      refine hK.out _ _ ⟨(by first | exact mv_cell hM (by first | (dsimp only; omega) | (simp; omega)) hOld.1 | exact cell_later hM hOld.1 | exact HT.cb | exact HT.cc | (simp (maxDischargeDepth := 6) [go_sem, *]; done)), (by first | exact mv_cell hM (by first | (dsimp only; omega) | (simp; omega)) hOld.2.1 | exact cell_later hM hOld.2.1 | exact HT.cb | exact HT.cc | (simp (maxDischargeDepth := 6) [go_sem, *]; done)), (by first | exact mv_cell hM (by first | (dsimp only; omega) | (simp; omega)) hOld.2.2.1 | exact cell_later hM hOld.2.2.1 | exact HT.cb | exact HT.cc | (simp (maxDischargeDepth := 6) [go_sem, *]; done)), (by first | exact mv_cell hM (by first | (dsimp only; omega) | (simp; omega)) hOld.2.2.2.1 | exact cell_later hM hOld.2.2.2.1 | exact HT.cb | exact HT.cc | (simp (maxDischargeDepth := 6) [go_sem, *]; done)), (by first | exact mv_cell hM (by first | (dsimp only; omega) | (simp; omega)) hOld.2.2.2.2 | exact cell_later hM hOld.2.2.2.2 | exact HT.cb | exact HT.cc | (simp (maxDischargeDepth := 6) [go_sem, *]; done))⟩ (fun hHeld => ?_)
      clear hK K hOld
      try simp only [Act.put, List.setIfInBounds_toArray, List.set_cons_zero, List.set_cons_succ]
      have hown := own_mv hown hM hb
      refine wpAnyH_ready (rs := [19]) (by kernel_rfl) (by simp) ?_
      refine AllReadyH.cons rfl (fun K hK => ?_) AllReadyH.nil
      have hOld := hHeld; clear hHeld
      go_simp
      (go_at_call 40; (with_reducible refine (mvCall (b := b) (w0 := w) (by (repeat (first | with_reducible assumption | with_reducible exact Mv.refl (by assumption) (by assumption) | with_reducible apply Mv.alloc | with_reducible apply Mv.drew | with_reducible apply Mv.drewN | ((with_reducible apply Mv.setCell); rotate_left; (first | (dsimp only; omega) | omega | (simp; omega)); (first | (dsimp only; omega) | omega | (simp; omega))) | ((with_reducible apply Mv.below); rotate_left; (with_reducible assumption)) | ((with_reducible apply Mv.trans); rotate_left; (with_reducible assumption))))) (k3 _ _)).mono ?_); rintro e w1 ⟨rfl, hM, HM⟩)
      (try go_wp2_with (fail))
      refine hK.out _ _ ⟨(by first | exact mv_cell hM (by first | (dsimp only; omega) | (simp; omega)) hOld.1 | exact cell_later hM hOld.1 | exact HT.cb | exact HT.cc | (simp (maxDischargeDepth := 6) [go_sem, *]; done)), (by first | exact mv_cell hM (by first | (dsimp only; omega) | (simp; omega)) hOld.2.1 | exact cell_later hM hOld.2.1 | exact HT.cb | exact HT.cc | (simp (maxDischargeDepth := 6) [go_sem, *]; done)), (by first | exact mv_cell hM (by first | (dsimp only; omega) | (simp; omega)) hOld.2.2.1 | exact cell_later hM hOld.2.2.1 | exact HT.cb | exact HT.cc | (simp (maxDischargeDepth := 6) [go_sem, *]; done)), (by first | exact mv_cell hM (by first | (dsimp only; omega) | (simp; omega)) hOld.2.2.2.1 | exact cell_later hM hOld.2.2.2.1 | exact HT.cb | exact HT.cc | (simp (maxDischargeDepth := 6) [go_sem, *]; done)), (by first | exact mv_cell hM (by first | (dsimp only; omega) | (simp; omega)) hOld.2.2.2.2 | exact cell_later hM hOld.2.2.2.2 | exact HT.cb | exact HT.cc | (simp (maxDischargeDepth := 6) [go_sem, *]; done))⟩ (fun hHeld => ?_)
      clear hK K hOld
      try simp only [Act.put, List.setIfInBounds_toArray, List.set_cons_zero, List.set_cons_succ]
      have hown := own_mv hown hM hb
      refine wpAnyH_ready (rs := [20]) (by kernel_rfl) (by simp) ?_
      refine AllReadyH.cons rfl (fun K hK => ?_) AllReadyH.nil
      have hOld := hHeld; clear hHeld
      go_simp
      (go_at_call 39; (with_reducible refine (mvCall (b := b) (w0 := w) (by (repeat (first | with_reducible assumption | with_reducible exact Mv.refl (by assumption) (by assumption) | with_reducible apply Mv.alloc | with_reducible apply Mv.drew | with_reducible apply Mv.drewN | ((with_reducible apply Mv.setCell); rotate_left; (first | (dsimp only; omega) | omega | (simp; omega)); (first | (dsimp only; omega) | omega | (simp; omega))) | ((with_reducible apply Mv.below); rotate_left; (with_reducible assumption)) | ((with_reducible apply Mv.trans); rotate_left; (with_reducible assumption))))) (k4 _ _)).mono ?_); rintro e w1 ⟨rfl, hM, HM⟩)
      (try go_wp2_with (fail))
      refine hK.out _ _ ⟨(by first | exact mv_cell hM (by first | (dsimp only; omega) | (simp; omega)) hOld.1 | exact cell_later hM hOld.1 | exact HT.cb | exact HT.cc | (simp (maxDischargeDepth := 6) [go_sem, *]; done)), (by first | exact mv_cell hM (by first | (dsimp only; omega) | (simp; omega)) hOld.2.1 | exact cell_later hM hOld.2.1 | exact HT.cb | exact HT.cc | (simp (maxDischargeDepth := 6) [go_sem, *]; done)), (by first | exact mv_cell hM (by first | (dsimp only; omega) | (simp; omega)) hOld.2.2.1 | exact cell_later hM hOld.2.2.1 | exact HT.cb | exact HT.cc | (simp (maxDischargeDepth := 6) [go_sem, *]; done)), (by first | exact mv_cell hM (by first | (dsimp only; omega) | (simp; omega)) hOld.2.2.2.1 | exact cell_later hM hOld.2.2.2.1 | exact HT.cb | exact HT.cc | (simp (maxDischargeDepth := 6) [go_sem, *]; done)), (by first | exact mv_cell hM (by first | (dsimp only; omega) | (simp; omega)) hOld.2.2.2.2 | exact cell_later hM hOld.2.2.2.2 | exact HT.cb | exact HT.cc | (simp (maxDischargeDepth := 6) [go_sem, *]; done))⟩ (fun hHeld => ?_)
      clear hK K hOld
      try simp only [Act.put, List.setIfInBounds_toArray, List.set_cons_zero, List.set_cons_succ]
      have hown := own_mv hown hM hb
      refine wpAnyH_ready (rs := [21]) (by kernel_rfl) (by simp) ?_
      refine AllReadyH.cons rfl (fun K hK => ?_) AllReadyH.nil
      have hOld := hHeld; clear hHeld
      go_simp
      (try go_wp2_with (fail))
      refine hK.out _ _ ⟨(by first | exact mv_cell hM (by first | (dsimp only; omega) | (simp; omega)) hOld.1 | exact cell_later hM hOld.1 | exact HT.cb | exact HT.cc | (simp (maxDischargeDepth := 6) [go_sem, *]; done)), (by first | exact mv_cell hM (by first | (dsimp only; omega) | (simp; omega)) hOld.2.1 | exact cell_later hM hOld.2.1 | exact HT.cb | exact HT.cc | (simp (maxDischargeDepth := 6) [go_sem, *]; done)), (by first | exact mv_cell hM (by first | (dsimp only; omega) | (simp; omega)) hOld.2.2.1 | exact cell_later hM hOld.2.2.1 | exact HT.cb | exact HT.cc | (simp (maxDischargeDepth := 6) [go_sem, *]; done)), (by first | exact mv_cell hM (by first | (dsimp only; omega) | (simp; omega)) hOld.2.2.2.1 | exact cell_later hM hOld.2.2.2.1 | exact HT.cb | exact HT.cc | (simp (maxDischargeDepth := 6) [go_sem, *]; done)), (by first | exact mv_cell hM (by first | (dsimp only; omega) | (simp; omega)) hOld.2.2.2.2 | exact cell_later hM hOld.2.2.2.2 | exact HT.cb | exact HT.cc | (simp (maxDischargeDepth := 6) [go_sem, *]; done))⟩ (fun hHeld => ?_)
      clear hK K hOld
      try simp only [Act.put, List.setIfInBounds_toArray, List.set_cons_zero, List.set_cons_succ]
      refine wpAnyH_ready (rs := [22]) (by kernel_rfl) (by simp) ?_
      refine AllReadyH.cons rfl (fun K hK => ?_) AllReadyH.nil
      have hOld := hHeld; clear hHeld
      rw [if_pos (by rfl)]; obtain ⟨gi, g0, g1, g2⟩ := hinf.out; have hsl := HM.size; refine wp_app _ _ 42 rfl w.heap.size 23 i0 (.int .i64 0) 1 8 Try.underlying42 gi g0 g1 g2 rfl (by decide) g cap (I + 1) _ rfl (hown.alloc _) ⟨_, 0, none⟩ 1 1 [.int .i64 v1] rfl rfl (cell_one_at _ _ _) (fun x hx => by simp at hx; subst hx; rfl) (by unfold maxLen; omega) (by omega) (by simp; omega) ?_; intro v' w3 hown' hgrow hkeep; have HM := Mv.grown (Mv.alloc HM _) hgrow (fun k hk => by injection hk with hk; omega) hb; refine hK.out _ _ ⟨hgrow.cell hOld.1 (fun e => by injection e with e; dsimp only at e; omega), hgrow.cell hOld.2.1 (fun e => by injection e with e; dsimp only at e; omega), hgrow.cell hOld.2.2.1 (fun e => by injection e with e; dsimp only at e; omega), hgrow.cell hOld.2.2.2.1 (fun e => by injection e with e; dsimp only at e; omega), hkeep I _ (by rw [lvs_get _ _ I (by omega), HV.out.1])⟩ (fun hHeld => ?_)
      clear hK K hOld
      try simp only [Act.put, List.setIfInBounds_toArray, List.set_cons_zero, List.set_cons_succ]
      refine wpAnyH_take (i := 23) (v := ?_) (by simp only [List.getElem?_toArray, List.getElem?_cons_succ, List.getElem?_cons_zero]; rfl) (by kernel_rfl) (by kernel_rfl) (by kernel_rfl) (fun _ _ _ h => h) (Or.inl ⟨by rfl, ?_⟩) (by assumption) ?_
      rotate_left
      · intro w hSw; (try dsimp only at hSw); go_simp; try with_reducible rfl
      try simp only [Act.put, List.setIfInBounds_toArray, List.set_cons_zero, List.set_cons_succ]
      refine wpAnyH_done (by kernel_rfl) ?_ _
      (try refine NoPanic.normal ?_)
      (try clear q0); (try clear q1); (try clear q2); (try clear q3); (try clear q4); obtain ⟨q0, q1, q2, q3, q4⟩ := hHeld
      go_wp2_with (fail)
      refine ⟨⟨I + 1, by go_num, by omega, by rw [ES.out]; exact hown', ?_⟩, by simp [RowKit.intOf]; omega⟩
      refine Mv.cast HM ?_
      rw [← HO9.out, EO.out, lok_o]
    · obtain rfl : I = n := by omega
      obtain ⟨g, cap, rfl, hg, hNm⟩ := Nm.own hown (by omega)
      go_wp2
      go_ret
      exact ⟨g, cap, rfl, hg, hNm, Mv.cast HM (by rw [HO9.out])⟩
end Go.Proofs.Ythieinnlpfdemaa
