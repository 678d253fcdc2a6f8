/- How far along samples are: the program's and the document's. -/
import Derived.Test.YthieinnlpfdemaaS5
import Derived.Test.YthieinnlpfdemaaQ2
set_option linter.unusedSimpArgs false
set_option linter.unusedVariables false
namespace Go.Proofs.Ythieinnlpfdemaa
open Go.RowKit
/-- The way from a sample to the next one. -/
def dX (V : Nat → Int) (n j : Nat) : Int := sat (V ((j + 1) % n) - V j)
def dL (X Y : Nat → Int) (n j : Nat) : Int := ln (dX X n j * dX X n j + dX Y n j * dX Y n j)
/-- How far along a sample is. -/
def LV (X Y : Nat → Int) (n : Nat) : Nat → Int
  | 0 => 0
  | j + 1 => sat (LV X Y n j + dL X Y n j)
def LO (X Y : Nat → Int) (n j : Nat) : Bool := fx (X ((j + 1) % n) - X j) && fx (Y ((j + 1) % n) - Y j) && lnok (dX X n j * dX X n j + dX Y n j * dX Y n j) && fx (LV X Y n j + dL X Y n j)
def lok (X Y : Nat → Int) (n : Nat) : Nat → Bool
  | 0 => true
  | m + 1 => lok X Y n m && LO X Y n m
theorem LV_bd (X Y : Nat → Int) (n j : Nat) : -9223372036854775808 ≤ LV X Y n j ∧ LV X Y n j ≤ 9223372036854775807 := by
  cases j with
  | zero => exact ⟨by show (-9223372036854775808 : Int) ≤ 0; decide, by show (0 : Int) ≤ 9223372036854775807; decide⟩
  | succ j => exact ⟨sat_lo _, sat_hi _⟩
theorem ln_lo6 (S : Int) : 0 ≤ ln S := by
  unfold ln; split
  · exact rt_nonneg S
  · decide
theorem ln_hi6 (S : Int) : ln S ≤ 9223372036854775807 := by
  unfold ln lnok; split
  · rename_i h; simp at h; exact h.2
  · decide
/-- Numbers, as cells. -/
def lvs (L : Nat → Int) : Nat → List Value
  | 0 => []
  | m + 1 => lvs L m ++ [.int .i64 (L m)]
theorem lvs_len (L : Nat → Int) (m : Nat) : (lvs L m).length = m * 1 := by
  induction m with
  | zero => rfl
  | succ m ih => rw [lvs, List.length_append, ih]; simp
theorem lvs_get (L : Nat → Int) (m j : Nat) (hj : j < m) : (lvs L m)[j]? = some (.int .i64 (L j)) := by
  induction m with
  | zero => omega
  | succ m ih =>
    rw [lvs]
    have hl := lvs_len L m
    by_cases h : j < m
    · rw [List.getElem?_append_left (by omega)]; exact ih h
    · obtain rfl : j = m := by omega
      rw [List.getElem?_append_right (by omega), hl]
      rw [show j - j * 1 = 0 by omega]; rfl
/-- A row of numbers. -/
def Nm (g n : Nat) (L : Nat → Int) (w : World) : Prop := ∀ j, j < n → w.cell? ⟨g, j, none⟩ = some (.int .i64 (L j))
theorem Nm.own {W : World} {base : Nat} {e : TypeId} {v : Value} {m : Nat} {L : Nat → Int} (h : W.ownsRow base e 1 v m (lvs L m)) (hm : 0 < m) : ∃ g cap : Nat, v = .slice (some ⟨g, 0, none⟩) m cap ∧ base ≤ g ∧ Nm g m L W := by
  rcases h.2 with ⟨_, h0⟩ | ⟨g, cap, cur, hv, hb, _⟩
  · omega
  · subst hv
    exact ⟨g, cap, rfl, hb, fun j hj => by rw [h.cellAt j (by omega)]; exact lvs_get L m j hj⟩
theorem cell_one_at (w : World) (t : TypeId) (u : Value) : ∀ j x, ([u] : List Value)[j]? = some x → (w.alloc (.cells #[u] t)).cell? ((⟨w.heap.size, 0, none⟩ : Addr).add j) = some x := by
  intro j x hx
  rcases j with _ | j
  · cases hx; simp [Addr.add, go_sem]
  · simp at hx
theorem infoF : (Try.prog.info? 23).map (fun i => (i.zero, i.size, i.bytes)) = some (some (.int .i64 0), 1, 8) := by kernel_rfl
theorem lok_o (o a b c d e : Bool) : (o || !a || !b || !c || !d || !e) = (o || !(a && (b && c && d && e))) := by cases o <;> cases a <;> cases b <;> cases c <;> cases d <;> cases e <;> rfl
theorem own_put {W : World} {base : Nat} {e : TypeId} {sz : Nat} {v : Value} {n : Nat} {xs : List Value} (h : W.ownsRow base e sz v n xs) {p : Addr} (hne : v.ownBlock ≠ some p.block) (u : Value) : (W.setCell p u).ownsRow base e sz v n xs :=
  h.kept (row := some p.block) ⟨rfl, rfl, rfl, by simp [World.setCell], fun k _ hk => Below.heap_setCell _ _ _ _ (fun q => hk (by rw [q]))⟩ (Or.inr hne)
theorem own_drew {W : World} {base : Nat} {e : TypeId} {sz : Nat} {v : Value} {n : Nat} {xs : List Value} (h : W.ownsRow base e sz v n xs) : W.drew.ownsRow base e sz v n xs := h
theorem next_lt (n j : Nat) (h : j + 1 < n) : (j + 1) % n = j + 1 := Nat.mod_eq_of_lt h
theorem next_eq (n j : Nat) (h : j + 1 = n) : (j + 1) % n = 0 := by rw [h, Nat.mod_self]
set_option maxHeartbeats 8000000 in
set_option maxRecDepth 20000 in
theorem cLengths (a : Addr) (n c : Nat) (X Y : Nat → Int) (b : Nat) (o : Bool) (w : World) (hn : n ≤ 100) (hX : ∀ j, j < n → -9223372036854775808 ≤ X j ∧ X j ≤ 9223372036854775807) (hY : ∀ j, j < n → -9223372036854775808 ≤ Y j ∧ Y j ≤ 9223372036854775807) (hP : Pt a n X Y w) (hab : a.block ≠ b) (hc : w.cell? ⟨b, 0, none⟩ = some (.bool o)) (hf : w.frozen? ⟨b, 0, none⟩ = false) :
    Calls Try.prog 18 #[.pointer (some ⟨b, 0, none⟩), .slice (some a) n c] w fun e w' => ∃ g cap : Nat, e = .returned (.slice (some ⟨g, 0, none⟩) (n + 1) cap) ∧ w.heap.size ≤ g ∧ Nm g (n + 1) (LV X Y n) w' ∧ Mv b (o || !lok X Y n n) w w' := by
  have hb := lt_of_cell hc
  have HM := Mv.refl hc hf
  clear hc hf
  obtain ⟨i0, hi, hz0, hz1, hz2⟩ := info_parts infoF
  have hinf := Lib.hid (And.intro hi (And.intro hz0 (And.intro hz1 hz2)))
  clear hi hz0 hz1 hz2
  have HX := Lib.hid (And.intro hX hY)
  have HPW := Lib.hid hP
  clear hX hY hP
  have hown0 : (w.alloc (Obj.cells #[.int .i64 0] 23)).ownsRow w.heap.size 23 1 (.slice (some ⟨w.heap.size, 0, none⟩) 1 1) 1 (lvs (LV X Y n) 1) := World.ownsRow_lit w #[.int .i64 0] 1 (Nat.le_refl _) (by unfold maxLen; omega) rfl
  have HM0 : Mv b o w (w.alloc (Obj.cells #[.int .i64 0] 23)) := Mv.alloc HM _
  have HI := Lib.hid (And.intro hown0 HM0)
  clear hown0 HM0 HM
  go_enter Try.func18, Try.ntmps18
  go_wp2_with (fail)
  go_loopw [5, 6, 13] (fun s l i wx => ∃ I : Nat, i = .int .i64 I ∧ I ≤ n ∧ l = .int .i64 (LV X Y n I) ∧ wx.ownsRow w.heap.size 23 1 s (I + 1) (lvs (LV X Y n) (I + 1)) ∧ Mv b (o || !lok X Y n I) w wx) (fun _ _ i _ => 100 - (RowKit.intOf i).toNat)
  case atStart => exact ⟨0, rfl, by omega, rfl, HI.out.1, Mv.cast HI.out.2 (by simp [lok])⟩
  case round =>
    obtain ⟨I, rfl, hI, rfl, hown, HM⟩ := hrel
    obtain ⟨o9, ho9⟩ : ∃ v, (o || !lok X Y n I) = v := ⟨_, rfl⟩
    rw [ho9] at HM
    have HO9 := Lib.hid ho9
    clear ho9
    by_cases hlt : I < n
    · have hPx := HPW.out.mv HM hab
      obtain ⟨hx0, hx1⟩ := HX.out.1 I hlt
      obtain ⟨hy0, hy1⟩ := HX.out.2 I hlt
      obtain ⟨p0, p1⟩ := hPx I hlt
      obtain ⟨q0, q1⟩ := hPx 0 (by omega)
      have hm9 : (I + 1) % n < n := Nat.mod_lt _ (by omega)
      obtain ⟨hu0, hu1⟩ := HX.out.1 _ hm9
      obtain ⟨hv0, hv1⟩ := HX.out.2 _ hm9
      obtain ⟨r0, r1⟩ := hPx _ hm9
      have hbl : a.block < w.heap.size := HPW.out.block (by omega)
      have l0 := (LV_bd X Y n I).1; have l1 := (LV_bd X Y n I).2
      have e0 := ln_lo6 (dX X n I * dX X n I + dX Y n I * dX Y n I); have e1 := ln_hi6 (dX X n I * dX X n I + dX Y n I * dX Y n I)
      have k1 := fun O W => cFSub (X ((I + 1) % n)) (X I) b O W hu0 hu1 hx0 hx1
      have k2 := fun O W => cFSub (Y ((I + 1) % n)) (Y I) b O W hv0 hv1 hy0 hy1
      have k3 := fun O W => cLen2 (dX X n I) (dX Y n I) b O W (sat_lo _) (sat_hi _) (sat_lo _) (sat_hi _)
      have k4 := fun O W => cFAdd (LV X Y n I) (dL X Y n I) b O W l0 l1 (by unfold dL; omega) (by unfold dL; omega)
      have EL : Hid (LV X Y n (I + 1) = sat (LV X Y n I + dL X Y n I)) := Lib.hid rfl
      have EO : Hid (lok X Y n (I + 1) = (lok X Y n I && (fx (X ((I + 1) % n) - X I) && fx (Y ((I + 1) % n) - Y I) && lnok (dX X n I * dX X n I + dX Y n I * dX Y n I) && fx (LV X Y n I + dL X Y n I)))) := Lib.hid rfl
      have ES : Hid (lvs (LV X Y n) (I + 1 + 1) = lvs (LV X Y n) (I + 1) ++ [.int .i64 (LV X Y n (I + 1))]) := Lib.hid rfl
      rw [show sat (X ((I + 1) % n) - X I) = dX X n I from rfl] at k1
      rw [show sat (Y ((I + 1) % n) - Y I) = dX Y n I from rfl] at k2
      rw [show ln (dX X n I * dX X n I + dX Y n I * dX Y n I) = dL X Y n I from rfl] at k3
      rw [← EL.out] at k4
      clear e0 e1 hPx p0 p1 q0 q1 r0 r1
      have hPx := HPW.out.mv HM hab
      have hown9 := hown.lt
      have SH : ∀ W : World, Pt a n X Y W → (W.cell? (a.add (I * 2)) = some (.int .i64 (X I)) ∧ W.cell? ⟨(a.add (I * 2)).block, (a.add (I * 2)).off + 1, none⟩ = some (.int .i64 (Y I))) ∧ (W.cell? (a.add ((I + 1) % n * 2)) = some (.int .i64 (X ((I + 1) % n))) ∧ W.cell? ⟨(a.add ((I + 1) % n * 2)).block, (a.add ((I + 1) % n * 2)).off + 1, none⟩ = some (.int .i64 (Y ((I + 1) % n)))) ∧
          (∃ u v : Int, W.cell? a = some (.int .i64 u) ∧ W.cell? ⟨a.block, a.off + 1, none⟩ = some (.int .i64 v) ∧ (I + 1 = n → u = X ((I + 1) % n) ∧ v = Y ((I + 1) % n))) := by
        intro W hW
        refine ⟨hW I hlt, hW _ hm9, X 0, Y 0, ?_, ?_, fun e => by rw [next_eq n I e]; exact ⟨rfl, rfl⟩⟩
        · have := (hW 0 (by omega)).1; simpa [Addr.add] using this
        · have := (hW 0 (by omega)).2; simpa [Addr.add] using this
      have HSH := Lib.hid SH
      clear SH
      generalize X ((I + 1) % n) = x1 at k1 HSH EO hu0 hu1 ⊢
      generalize Y ((I + 1) % n) = y1 at k2 HSH EO hv0 hv1 ⊢
      generalize X I = x0 at k1 HSH EO hx0 hx1 ⊢
      generalize Y I = y0 at k2 HSH EO hy0 hy1 ⊢
      generalize fx (x1 - x0) = f1 at *
      generalize fx (y1 - y0) = f2 at *
      generalize lnok (dX X n I * dX X n I + dX Y n I * dX Y n I) = f3 at *
      generalize fx (LV X Y n I + dL X Y n I) = f4 at *
      generalize dX X n I = ux at *
      generalize dX Y n I = uy at *
      generalize dL X Y n I = d at *
      generalize hv9 : LV X Y n I = v0 at k4 l0 l1 ⊢
      generalize hv8 : LV X Y n (I + 1) = v1 at k4 ES ⊢
      have HV := Lib.hid (And.intro hv9 hv8)
      clear hv9 hv8 EL
      obtain ⟨⟨p0, p1⟩, -, -⟩ := HSH.out _ hPx
      go_upto_region 6 with (fail)
      clear p0 p1
      generalize hW : World.alloc _ _ = W1
      have A1 : Bk wr.heap.size 0 [.int .i64 x0, .int .i64 y0] W1 := by rw [← hW]; simp [Bk, go_sem]
      have hPx : Pt a n X Y W1 := by rw [← hW]; exact hPx.later ((Below.refl _ _).alloc (Nat.le_refl _) _)
      have hown := hown.alloc (Obj.cells #[.int .i64 x0, .int .i64 y0] 32)
      rw [hW] at hown
      have HM1 : Mv b o9 w W1 := by rw [← hW]; exact Mv.alloc HM _
      have hz1 := World.block_lt_of_cell? W1 _ (show W1.cell? ⟨wr.heap.size, 0, none⟩ = some (.int .i64 x0) from A1.1)
      have hzr := HM.size
      dsimp only at hz1
      clear hW HM
      obtain ⟨-, -, u, v, q0, q1, huv⟩ := HSH.out _ hPx
      have HUV := Lib.hid huv
      clear huv
      go_upto_region 7 with (fail)
      clear q0 q1
      generalize hW : World.alloc _ _ = W2
      have B1 : Bk W1.heap.size 0 [.int .i64 u, .int .i64 v] W2 := by rw [← hW]; simp [Bk, go_sem]
      have A1 : Bk wr.heap.size 0 [.int .i64 x0, .int .i64 y0] W2 := by rw [← hW]; exact Bk.alloc A1 _
      have hPx : Pt a n X Y W2 := by rw [← hW]; exact hPx.later ((Below.refl _ _).alloc (Nat.le_refl _) _)
      have hlt1 := hown.lt
      have hown := hown.alloc (Obj.cells #[.int .i64 u, .int .i64 v] 32)
      rw [hW] at hown
      have HM2 : Mv b o9 w W2 := by rw [← hW]; exact Mv.alloc HM1 _
      have hz2 := World.block_lt_of_cell? W2 _ (show W2.cell? ⟨W1.heap.size, 0, none⟩ = some (.int .i64 u) from B1.1)
      dsimp only at hz2
      clear hW HM1
      have C_B := B1; simp only [Bk] at C_B
      -- the next sample lies in B1 behind the test, whichever it is
      go_upto_if 25 with (fail)
      go_cut [] (fun wq => Bk W1.heap.size 0 [.int .i64 x1, .int .i64 y1] wq ∧ Bk wr.heap.size 0 [.int .i64 x0, .int .i64 y0] wq ∧ wq.ownsRow w.heap.size 23 1 u5 (I + 1) (lvs (LV X Y n) (I + 1)) ∧ Mv b o9 w wq ∧ W2.heap.size ≤ wq.heap.size)
      case first =>
        by_cases hl : I + 1 < n
        · obtain ⟨-, ⟨r0, r1⟩, -⟩ := HSH.out _ hPx
          rw [next_lt n I hl] at r0 r1
          have hl2 : (I : Int) + 1 < (n : Int) := by omega
          clear hPx
          go_wp2
          go_meet
          refine ⟨by simp [Bk, go_sem, *], by (repeat (first | with_reducible assumption | with_reducible apply Bk.drew | with_reducible apply Bk.alloc | with_reducible apply Bk.later (hB := hR) | with_reducible apply Bk.later (hB := hM) | ((with_reducible apply Bk.mv hM); (focus omega)) | ((with_reducible apply Bk.later); rotate_left; (with_reducible assumption)) | ((with_reducible apply Bk.put); rotate_left; (first | (dsimp only; omega))))), own_put (own_put hown ?_ _) ?_ _, by (repeat (first | with_reducible assumption | with_reducible exact Mv.refl (by assumption) (by assumption) | with_reducible apply Mv.alloc | with_reducible apply Mv.drew | with_reducible apply Mv.drewN | ((with_reducible apply Mv.setCell); rotate_left; (first | (dsimp only; omega) | omega | (simp; omega)); (first | (dsimp only; omega) | omega | (simp; omega))) | ((with_reducible apply Mv.below); rotate_left; (with_reducible assumption)) | ((with_reducible apply Mv.trans); rotate_left; (with_reducible assumption)))), by simp⟩
          · intro h; have := (hlt1 _ h).2; dsimp only at this; omega
          · intro h; have := (hlt1 _ h).2; dsimp only at this; omega
        · obtain ⟨rfl, rfl⟩ := HUV.out (by omega)
          have hl2 : ¬ (I : Int) + 1 < (n : Int) := by omega
          clear hPx
          go_wp2
          go_meet
          exact ⟨B1, A1, hown, HM2, Nat.le_refl _⟩
      case rest =>
        obtain ⟨B1, A1, hown, HM, hzq⟩ := hcut
        clear hPx HUV C_B HM2
        have C_B := B1; simp only [Bk] at C_B
        have C_A := A1; simp only [Bk] at C_A
        rename World => wq
        have hqs := HM.size
        go_upto_region 9 with (fail)
        (try refine wp_region_noPanic ?_)
        refine wp_region_held_drew (S := (fun (w' : World) => w'.cell? ⟨wr.heap.size, 0, none⟩ = some (.int .i64 x0) ∧ w'.cell? ⟨wr.heap.size, 1, none⟩ = some (.int .i64 y0) ∧ w'.cell? ⟨W1.heap.size, 0, none⟩ = some (.int .i64 x1) ∧ w'.cell? ⟨W1.heap.size, 1, none⟩ = some (.int .i64 y1))) (by kernel_rfl) ⟨(by first | (simp (maxDischargeDepth := 6) [go_sem, *]; done)), (by first | (simp (maxDischargeDepth := 6) [go_sem, *]; done)), (by first | (simp (maxDischargeDepth := 6) [go_sem, *]; done)), (by first | (simp (maxDischargeDepth := 6) [go_sem, *]; done))⟩ (fun hHeld => ?_)
        refine wpAnyH_take (i := 0) (v := ?_) (by simp only [List.getElem?_toArray, List.getElem?_cons_succ, List.getElem?_cons_zero]; rfl) (by kernel_rfl) (by kernel_rfl) (by kernel_rfl) (fun _ _ _ h => h) (Or.inl ⟨by rfl, ?_⟩) (by assumption) ?_
        rotate_left
        · intro w hSw; (try dsimp only at hSw); go_simp; try with_reducible rfl
        try simp only [Act.put, List.setIfInBounds_toArray, List.set_cons_zero, List.set_cons_succ]
        refine wpAnyH_take (i := 1) (v := ?_) (by simp only [List.getElem?_toArray, List.getElem?_cons_succ, List.getElem?_cons_zero]; rfl) (by kernel_rfl) (by kernel_rfl) (by kernel_rfl) (fun _ _ _ h => h) (Or.inl ⟨by rfl, ?_⟩) (by assumption) ?_
        rotate_left
        · intro w hSw; (try dsimp only at hSw); go_simp; try with_reducible rfl
        try simp only [Act.put, List.setIfInBounds_toArray, List.set_cons_zero, List.set_cons_succ]
        refine wpAnyH_take (i := 2) (v := ?_) (by simp only [List.getElem?_toArray, List.getElem?_cons_succ, List.getElem?_cons_zero]; rfl) (by kernel_rfl) (by kernel_rfl) (by kernel_rfl) (fun _ _ _ h => h) (Or.inl ⟨by rfl, ?_⟩) (by assumption) ?_
        rotate_left
        · intro w hSw; (try dsimp only at hSw); go_simp; try with_reducible rfl
        try simp only [Act.put, List.setIfInBounds_toArray, List.set_cons_zero, List.set_cons_succ]
        refine wpAnyH_take (i := 3) (v := ?_) (by simp only [List.getElem?_toArray, List.getElem?_cons_succ, List.getElem?_cons_zero]; rfl) (by kernel_rfl) (by kernel_rfl) (by kernel_rfl) (fun _ _ _ h => h) (Or.inl ⟨by rfl, ?_⟩) (by assumption) ?_
        rotate_left
        · intro w hSw; (try dsimp only at hSw); go_simp; try with_reducible rfl
        try simp only [Act.put, List.setIfInBounds_toArray, List.set_cons_zero, List.set_cons_succ]
        refine wpAnyH_take (i := 4) (v := ?_) (by simp only [List.getElem?_toArray, List.getElem?_cons_succ, List.getElem?_cons_zero]; rfl) (by kernel_rfl) (by kernel_rfl) (by kernel_rfl) (fun _ _ _ h => h) (Or.inl ⟨by rfl, ?_⟩) (by assumption) ?_
        rotate_left
        · intro w hSw; (try dsimp only at hSw); go_simp; try with_reducible rfl
        try simp only [Act.put, List.setIfInBounds_toArray, List.set_cons_zero, List.set_cons_succ]
        refine wpAnyH_take (i := 6) (v := ?_) (by simp only [List.getElem?_toArray, List.getElem?_cons_succ, List.getElem?_cons_zero]; rfl) (by kernel_rfl) (by kernel_rfl) (by kernel_rfl) (fun _ _ _ h => h) (Or.inl ⟨by rfl, ?_⟩) (by assumption) ?_
        rotate_left
        · intro w hSw; (try dsimp only at hSw); go_simp; try with_reducible rfl
        try simp only [Act.put, List.setIfInBounds_toArray, List.set_cons_zero, List.set_cons_succ]
        refine wpAnyH_take (i := 9) (v := ?_) (by simp only [List.getElem?_toArray, List.getElem?_cons_succ, List.getElem?_cons_zero]; rfl) (by kernel_rfl) (by kernel_rfl) (by kernel_rfl) (fun _ _ _ h => h) (Or.inl ⟨by rfl, ?_⟩) (by assumption) ?_
        rotate_left
        · intro w hSw; (try dsimp only at hSw); go_simp; try with_reducible rfl
        try simp only [Act.put, List.setIfInBounds_toArray, List.set_cons_zero, List.set_cons_succ]
        refine wpAnyH_take (i := 10) (v := ?_) (by simp only [List.getElem?_toArray, List.getElem?_cons_succ, List.getElem?_cons_zero]; rfl) (by kernel_rfl) (by kernel_rfl) (by kernel_rfl) (fun _ _ _ h => h) (Or.inl ⟨by rfl, ?_⟩) (by assumption) ?_
        rotate_left
        · intro w hSw; (try dsimp only at hSw); go_simp; try with_reducible rfl
        try simp only [Act.put, List.setIfInBounds_toArray, List.set_cons_zero, List.set_cons_succ]
        refine wpAnyH_take (i := 12) (v := ?_) (by simp only [List.getElem?_toArray, List.getElem?_cons_succ, List.getElem?_cons_zero]; rfl) (by kernel_rfl) (by kernel_rfl) (by kernel_rfl) (fun _ _ _ h => h) (Or.inl ⟨by rfl, ?_⟩) (by assumption) ?_
        rotate_left
        · intro w hSw; (try dsimp only at hSw); go_simp; try with_reducible rfl
        try simp only [Act.put, List.setIfInBounds_toArray, List.set_cons_zero, List.set_cons_succ]
        refine wpAnyH_take (i := 5) (v := ?_) (by simp only [List.getElem?_toArray, List.getElem?_cons_succ, List.getElem?_cons_zero]; rfl) (by kernel_rfl) (by kernel_rfl) (by kernel_rfl) (fun _ _ _ h => h) (Or.inl ⟨by rfl, ?_⟩) (by assumption) ?_
        rotate_left
        · intro w hSw; (try dsimp only at hSw); go_simp; try with_reducible rfl
        try simp only [Act.put, List.setIfInBounds_toArray, List.set_cons_zero, List.set_cons_succ]
        refine wpAnyH_take (i := 7) (v := ?_) (by simp only [List.getElem?_toArray, List.getElem?_cons_succ, List.getElem?_cons_zero]; rfl) (by kernel_rfl) (by kernel_rfl) (by kernel_rfl) (fun _ _ _ h => h) (Or.inl ⟨by rfl, ?_⟩) (by assumption) ?_
        rotate_left
        · intro w hSw; (try dsimp only at hSw); go_simp; try with_reducible rfl
        try simp only [Act.put, List.setIfInBounds_toArray, List.set_cons_zero, List.set_cons_succ]
        refine wpAnyH_take (i := 11) (v := ?_) (by simp only [List.getElem?_toArray, List.getElem?_cons_succ, List.getElem?_cons_zero]; rfl) (by kernel_rfl) (by kernel_rfl) (by kernel_rfl) (fun _ _ _ h => h) (Or.inl ⟨by rfl, ?_⟩) (by assumption) ?_
        rotate_left
        · intro w hSw; (try dsimp only at hSw); go_simp; try with_reducible rfl
        try simp only [Act.put, List.setIfInBounds_toArray, List.set_cons_zero, List.set_cons_succ]
        refine wpAnyH_take (i := 13) (v := ?_) (by simp only [List.getElem?_toArray, List.getElem?_cons_succ, List.getElem?_cons_zero]; rfl) (by kernel_rfl) (by kernel_rfl) (by kernel_rfl) (fun _ _ _ h => h) (Or.inl ⟨by rfl, ?_⟩) (by assumption) ?_
        rotate_left
        · intro w hSw; (try dsimp only at hSw); go_simp; try with_reducible rfl
        try simp only [Act.put, List.setIfInBounds_toArray, List.set_cons_zero, List.set_cons_succ]
        refine wpAnyH_ready (rs := [8]) (by kernel_rfl) (by simp) ?_
        refine AllReadyH.cons rfl (fun K hK => ?_) AllReadyH.nil
        have hOld := hHeld; clear hHeld
        go_simp
        (go_at_call 38; (with_reducible refine (mvCall (b := b) (w0 := w) (by (repeat (first | with_reducible assumption | with_reducible exact Mv.refl (by assumption) (by assumption) | with_reducible apply Mv.alloc | with_reducible apply Mv.drew | with_reducible apply Mv.drewN | ((with_reducible apply Mv.setCell); rotate_left; (first | (dsimp only; omega) | omega | (simp; omega)); (first | (dsimp only; omega) | omega | (simp; omega))) | ((with_reducible apply Mv.below); rotate_left; (with_reducible assumption)) | ((with_reducible apply Mv.trans); rotate_left; (with_reducible assumption))))) (k1 _ _)).mono ?_); rintro e w1 ⟨rfl, hM, HM⟩)
        (try go_wp2_with (fail))
        refine hK.out _ _ ⟨(by first | exact mv_cell hM (by first | (dsimp only; omega) | (simp; omega)) hOld.1 | exact cell_later hM hOld.1 | exact HT.cb | exact HT.cc | (simp (maxDischargeDepth := 6) [go_sem, *]; done)), (by first | exact mv_cell hM (by first | (dsimp only; omega) | (simp; omega)) hOld.2.1 | exact cell_later hM hOld.2.1 | exact HT.cb | exact HT.cc | (simp (maxDischargeDepth := 6) [go_sem, *]; done)), (by first | exact mv_cell hM (by first | (dsimp only; omega) | (simp; omega)) hOld.2.2.1 | exact cell_later hM hOld.2.2.1 | exact HT.cb | exact HT.cc | (simp (maxDischargeDepth := 6) [go_sem, *]; done)), (by first | exact mv_cell hM (by first | (dsimp only; omega) | (simp; omega)) hOld.2.2.2 | exact cell_later hM hOld.2.2.2 | exact HT.cb | exact HT.cc | (simp (maxDischargeDepth := 6) [go_sem, *]; done))⟩ (fun hHeld => ?_)
        clear hK K hOld
        try simp only [Act.put, List.setIfInBounds_toArray, List.set_cons_zero, List.set_cons_succ]
        have hown := own_mv (own_drew hown) hM hb
        refine wpAnyH_ready (rs := [14]) (by kernel_rfl) (by simp) ?_
        refine AllReadyH.cons rfl (fun K hK => ?_) AllReadyH.nil
        have hOld := hHeld; clear hHeld
        go_simp
        (go_at_call 38; (with_reducible refine (mvCall (b := b) (w0 := w) (by (repeat (first | with_reducible assumption | with_reducible exact Mv.refl (by assumption) (by assumption) | with_reducible apply Mv.alloc | with_reducible apply Mv.drew | with_reducible apply Mv.drewN | ((with_reducible apply Mv.setCell); rotate_left; (first | (dsimp only; omega) | omega | (simp; omega)); (first | (dsimp only; omega) | omega | (simp; omega))) | ((with_reducible apply Mv.below); rotate_left; (with_reducible assumption)) | ((with_reducible apply Mv.trans); rotate_left; (with_reducible assumption))))) (k2 _ _)).mono ?_); rintro e w1 ⟨rfl, hM, HM⟩)
        (try go_wp2_with (fail))
        refine hK.out _ _ ⟨(by first | exact mv_cell hM (by first | (dsimp only; omega) | (simp; omega)) hOld.1 | exact cell_later hM hOld.1 | exact HT.cb | exact HT.cc | (simp (maxDischargeDepth := 6) [go_sem, *]; done)), (by first | exact mv_cell hM (by first | (dsimp only; omega) | (simp; omega)) hOld.2.1 | exact cell_later hM hOld.2.1 | exact HT.cb | exact HT.cc | (simp (maxDischargeDepth := 6) [go_sem, *]; done)), (by first | exact mv_cell hM (by first | (dsimp only; omega) | (simp; omega)) hOld.2.2.1 | exact cell_later hM hOld.2.2.1 | exact HT.cb | exact HT.cc | (simp (maxDischargeDepth := 6) [go_sem, *]; done)), (by first | exact mv_cell hM (by first | (dsimp only; omega) | (simp; omega)) hOld.2.2.2 | exact cell_later hM hOld.2.2.2 | exact HT.cb | exact HT.cc | (simp (maxDischargeDepth := 6) [go_sem, *]; done))⟩ (fun hHeld => ?_)
        clear hK K hOld
        try simp only [Act.put, List.setIfInBounds_toArray, List.set_cons_zero, List.set_cons_succ]
        have hown := own_mv hown hM hb
        refine wpAnyH_ready (rs := [15]) (by kernel_rfl) (by simp) ?_
        refine AllReadyH.cons rfl (fun K hK => ?_) AllReadyH.nil
        have hOld := hHeld; clear hHeld
        go_simp
        (go_at_call 37; (with_reducible refine (mvCall (b := b) (w0 := w) (by (repeat (first | with_reducible assumption | with_reducible exact Mv.refl (by assumption) (by assumption) | with_reducible apply Mv.alloc | with_reducible apply Mv.drew | with_reducible apply Mv.drewN | ((with_reducible apply Mv.setCell); rotate_left; (first | (dsimp only; omega) | omega | (simp; omega)); (first | (dsimp only; omega) | omega | (simp; omega))) | ((with_reducible apply Mv.below); rotate_left; (with_reducible assumption)) | ((with_reducible apply Mv.trans); rotate_left; (with_reducible assumption))))) (k3 _ _)).mono ?_); rintro e w1 ⟨rfl, hM, HM⟩)
        (try go_wp2_with (fail))
        refine hK.out _ _ ⟨(by first | exact mv_cell hM (by first | (dsimp only; omega) | (simp; omega)) hOld.1 | exact cell_later hM hOld.1 | exact HT.cb | exact HT.cc | (simp (maxDischargeDepth := 6) [go_sem, *]; done)), (by first | exact mv_cell hM (by first | (dsimp only; omega) | (simp; omega)) hOld.2.1 | exact cell_later hM hOld.2.1 | exact HT.cb | exact HT.cc | (simp (maxDischargeDepth := 6) [go_sem, *]; done)), (by first | exact mv_cell hM (by first | (dsimp only; omega) | (simp; omega)) hOld.2.2.1 | exact cell_later hM hOld.2.2.1 | exact HT.cb | exact HT.cc | (simp (maxDischargeDepth := 6) [go_sem, *]; done)), (by first | exact mv_cell hM (by first | (dsimp only; omega) | (simp; omega)) hOld.2.2.2 | exact cell_later hM hOld.2.2.2 | exact HT.cb | exact HT.cc | (simp (maxDischargeDepth := 6) [go_sem, *]; done))⟩ (fun hHeld => ?_)
        clear hK K hOld
        try simp only [Act.put, List.setIfInBounds_toArray, List.set_cons_zero, List.set_cons_succ]
        have hown := own_mv hown hM hb
        refine wpAnyH_ready (rs := [16]) (by kernel_rfl) (by simp) ?_
        refine AllReadyH.cons rfl (fun K hK => ?_) AllReadyH.nil
        have hOld := hHeld; clear hHeld
        go_simp
        (go_at_call 36; (with_reducible refine (mvCall (b := b) (w0 := w) (by (repeat (first | with_reducible assumption | with_reducible exact Mv.refl (by assumption) (by assumption) | with_reducible apply Mv.alloc | with_reducible apply Mv.drew | with_reducible apply Mv.drewN | ((with_reducible apply Mv.setCell); rotate_left; (first | (dsimp only; omega) | omega | (simp; omega)); (first | (dsimp only; omega) | omega | (simp; omega))) | ((with_reducible apply Mv.below); rotate_left; (with_reducible assumption)) | ((with_reducible apply Mv.trans); rotate_left; (with_reducible assumption))))) (k4 _ _)).mono ?_); rintro e w1 ⟨rfl, hM, HM⟩)
        (try go_wp2_with (fail))
        refine hK.out _ _ ⟨(by first | exact mv_cell hM (by first | (dsimp only; omega) | (simp; omega)) hOld.1 | exact cell_later hM hOld.1 | exact HT.cb | exact HT.cc | (simp (maxDischargeDepth := 6) [go_sem, *]; done)), (by first | exact mv_cell hM (by first | (dsimp only; omega) | (simp; omega)) hOld.2.1 | exact cell_later hM hOld.2.1 | exact HT.cb | exact HT.cc | (simp (maxDischargeDepth := 6) [go_sem, *]; done)), (by first | exact mv_cell hM (by first | (dsimp only; omega) | (simp; omega)) hOld.2.2.1 | exact cell_later hM hOld.2.2.1 | exact HT.cb | exact HT.cc | (simp (maxDischargeDepth := 6) [go_sem, *]; done)), (by first | exact mv_cell hM (by first | (dsimp only; omega) | (simp; omega)) hOld.2.2.2 | exact cell_later hM hOld.2.2.2 | exact HT.cb | exact HT.cc | (simp (maxDischargeDepth := 6) [go_sem, *]; done))⟩ (fun hHeld => ?_)
        clear hK K hOld
        try simp only [Act.put, List.setIfInBounds_toArray, List.set_cons_zero, List.set_cons_succ]
        have hown := own_mv hown hM hb
        refine wpAnyH_take (i := 17) (v := ?_) (by simp only [List.getElem?_toArray, List.getElem?_cons_succ, List.getElem?_cons_zero]; rfl) (by kernel_rfl) (by kernel_rfl) (by kernel_rfl) (fun _ _ _ h => h) (Or.inl ⟨by rfl, ?_⟩) (by assumption) ?_
        rotate_left
        · intro w hSw; (try dsimp only at hSw); go_simp; try with_reducible rfl
        try simp only [Act.put, List.setIfInBounds_toArray, List.set_cons_zero, List.set_cons_succ]
        refine wpAnyH_done (by kernel_rfl) ?_ _
        (try refine NoPanic.normal ?_)
        (try clear q0); (try clear q1); (try clear q2); (try clear q3); obtain ⟨q0, q1, q2, q3⟩ := hHeld
        clear q0 q1 q2 q3 C_B C_A B1 A1
        rename World => wl
        obtain ⟨gi, g0, g1, g2⟩ := hinf.out
        have hsl := HM.size
        have hlt9 := hown.lt
        go_wp2_with ((at_builtin; refine wpList_append_own _ rfl _ _ 42 rfl w.heap.size 23 i0 (.int .i64 0) 1 8 Try.underlying42 gi g0 g1 g2 rfl (by decide) _ _ _ rfl (hown.alloc _) ⟨wl.heap.size, 0, none⟩ 1 1 [.int .i64 v1] rfl rfl (cell_one_at _ _ _) (fun x hx => by simp at hx; subst hx; rfl) (by unfold maxLen; omega) (by omega) (by simp; omega) ?_; intro v' w3 hown' hgrow hnil))
        refine ⟨⟨I + 1, by go_num, by omega, by rw [HV.out.2], by rw [ES.out]; exact hown', ?_⟩, by simp [RowKit.intOf]; omega⟩
        refine Mv.cast (Mv.grown (Mv.alloc HM _) hgrow (fun k hk => (hlt9 k hk).1) hb) ?_
        rw [← HO9.out, EO.out, lok_o]
    · obtain rfl : I = n := by omega
      obtain ⟨g, cap, rfl, hg, hNm⟩ := Nm.own hown (by omega)
      go_wp2
      go_ret
      exact ⟨g, cap, rfl, hg, hNm, Mv.cast HM (by rw [HO9.out])⟩
end Go.Proofs.Ythieinnlpfdemaa
