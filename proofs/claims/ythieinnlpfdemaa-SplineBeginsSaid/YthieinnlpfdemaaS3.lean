/- A line at a place: the program's whole; the document's. -/
import Derived.Test.YthieinnlpfdemaaS2
import Derived.Deep.CutBlock
import Derived.BigRegion
import Derived.Laws.EntriesVeiled
set_option linter.unusedSimpArgs false
set_option linter.unusedVariables false
namespace Go.Proofs.Ythieinnlpfdemaa
open Go.RowKit
/-- Which piece. -/
def pc (i : Int) (n : Nat) : Nat := (i % (n : Int)).toNat
theorem pc_lt (i : Int) (n : Nat) (hn : 0 < n) : pc i n < n := by
  unfold pc
  have h1 := Int.emod_nonneg i (show (n : Int) ≠ 0 by omega)
  have h2 := Int.emod_lt_of_pos i (show 0 < (n : Int) by omega)
  omega
theorem pc_eq (i : Int) (n : Nat) (hn : 0 < n) : (i.tmod (n : Int) + (n : Int)).tmod (n : Int) = (pc i n : Int) ∧ -(n : Int) < i.tmod (n : Int) ∧ i.tmod (n : Int) < (n : Int) := by
  unfold pc
  have h1 := Int.emod_nonneg i (show (n : Int) ≠ 0 by omega)
  have h2 := Int.emod_lt_of_pos i (show 0 < (n : Int) by omega)
  have h3 : i.tmod n = i % n ∨ i.tmod n = i % n - n := by
    rcases Int.lt_or_le i 0 with h | h
    · have e := Int.tmod_eq_emod (a := i) (b := (n : Int))
      rw [e]; split
      · exact Or.inl (by omega)
      · exact Or.inr (by simp)
    · exact Or.inl (Int.tmod_eq_emod_of_nonneg h)
  have h4 : -(n : Int) < i.tmod n := by
    rcases h3 with h | h
    · omega
    · by_cases h0 : i % (n : Int) = 0
      · have := Int.tmod_eq_zero_of_dvd (Int.dvd_of_emod_eq_zero h0)
        omega
      · omega
  refine ⟨?_, h4, by omega⟩
  rw [Int.tmod_eq_emod_of_nonneg (by omega), Int.toNat_of_nonneg h1]
  rcases h3 with h | h
  · rw [h, Int.add_emod_right, Int.emod_emod]
  · rw [h, Int.sub_add_cancel, Int.emod_emod]
set_option maxHeartbeats 8000000 in
set_option maxRecDepth 20000 in
theorem cAt (a : Addr) (n c : Nat) (i : Int) (X Y : Nat → Int) (t : Int) (b : Nat) (o : Bool) (w : World) (hn : 3 ≤ n) (hn2 : n ≤ 64) (i_0 : -9223372036854775808 ≤ i) (i_1 : i ≤ 9223372036854775807) (t_0 : -9223372036854775808 ≤ t) (t_1 : t ≤ 9223372036854775807) (hN : nrs X Y n = true) (hP : Pt a n X Y w) (hab : a.block ≠ b) (hc : w.cell? ⟨b, 0, none⟩ = some (.bool o)) (hf : w.frozen? ⟨b, 0, none⟩ = false) :
    Calls Try.prog 11 #[.pointer (some ⟨b, 0, none⟩), .slice (some a) n c, .int .i64 i, .int .i64 t] w fun e w' => e = .returned (.agg #[.int .i64 (pvx X n (pc i n) t), .int .i64 (pvx Y n (pc i n) t)]) ∧ Mv b (o || !pox X n (pc i n) t || !pox Y n (pc i n) t) w w' := by
  have hb := lt_of_cell hc
  have HM := Mv.refl hc hf
  clear hc hf
  have hK := pc_lt i n (by omega)
  obtain ⟨e3, e1, e2⟩ := pc_eq i n (by omega)
  have k1 : ∀ W, Below w.heap.size w W → Calls Try.prog 9 #[.slice (some a) n c] W fun e w' => e = .returned (.int .i64 0) ∧ Below W.heap.size W w' := fun W hB => by
    have h := cRightY a n c X Y W hn hn2 (hP.later hB)
    rw [hN, if_pos rfl] at h; exact h
  have hblk := hP.block (by omega)
  have k2 : ∀ (pf pm pt pl pi pq : Nat) (O : Bool) (W : World), W.cell? ⟨pf, 0, none⟩ = some (.func (.func 28) #[] #[.pointer (some ⟨pl, 0, none⟩), .pointer (some ⟨pi, 0, none⟩), .pointer (some ⟨pq, 0, none⟩)]) → W.cell? ⟨pm, 0, none⟩ = some (.pointer (some ⟨b, 0, none⟩)) → W.cell? ⟨pt, 0, none⟩ = some (.int .i64 t) →
      W.cell? ⟨pl, 0, none⟩ = some (.slice (some a) n c) → W.cell? ⟨pi, 0, none⟩ = some (.int .i64 (pc i n)) → W.cell? ⟨pq, 0, none⟩ = some (.int .i64 n) → Mv b O w W → pf ≠ b → pm ≠ b → pt ≠ b → pl ≠ b → pi ≠ b → pq ≠ b → W.cell? ⟨b, 0, none⟩ = some (.bool O) → W.frozen? ⟨b, 0, none⟩ = false →
      Calls Try.prog 29 #[.func (.func 32) #[] #[], .pointer (some ⟨pf, 0, none⟩), .pointer (some ⟨pm, 0, none⟩), .pointer (some ⟨pt, 0, none⟩)] W fun e w' => e = .returned (.int .i64 (pvx X n (pc i n) t)) ∧ Mv b (O || !pox X n (pc i n) t) W w' :=
    fun pf pm pt pl pi pq O W h1 h2 h3 h4 h5 h6 h7 m1 m2 m3 m4 m5 m6 hc hf => cAt23 a n c (pc i n) X Y t pf pm pt pl pi pq b O W hn hn2 hK t_0 t_1 hN h1 h2 h3 h4 h5 h6 (hP.mv h7 hab) m1 m2 m3 m4 m5 m6 hc hf
  have k3 : ∀ (pf pm pt pl pi pq : Nat) (O : Bool) (W : World), W.cell? ⟨pf, 0, none⟩ = some (.func (.func 28) #[] #[.pointer (some ⟨pl, 0, none⟩), .pointer (some ⟨pi, 0, none⟩), .pointer (some ⟨pq, 0, none⟩)]) → W.cell? ⟨pm, 0, none⟩ = some (.pointer (some ⟨b, 0, none⟩)) → W.cell? ⟨pt, 0, none⟩ = some (.int .i64 t) →
      W.cell? ⟨pl, 0, none⟩ = some (.slice (some a) n c) → W.cell? ⟨pi, 0, none⟩ = some (.int .i64 (pc i n)) → W.cell? ⟨pq, 0, none⟩ = some (.int .i64 n) → Mv b O w W → pf ≠ b → pm ≠ b → pt ≠ b → pl ≠ b → pi ≠ b → pq ≠ b → W.cell? ⟨b, 0, none⟩ = some (.bool O) → W.frozen? ⟨b, 0, none⟩ = false →
      Calls Try.prog 29 #[.func (.func 33) #[] #[], .pointer (some ⟨pf, 0, none⟩), .pointer (some ⟨pm, 0, none⟩), .pointer (some ⟨pt, 0, none⟩)] W fun e w' => e = .returned (.int .i64 (pvx Y n (pc i n) t)) ∧ Mv b (O || !pox Y n (pc i n) t) W w' :=
    fun pf pm pt pl pi pq O W h1 h2 h3 h4 h5 h6 h7 m1 m2 m3 m4 m5 m6 hc hf => cAt24 a n c (pc i n) X Y t pf pm pt pl pi pq b O W hn hn2 hK t_0 t_1 hN h1 h2 h3 h4 h5 h6 (hP.mv h7 hab) m1 m2 m3 m4 m5 m6 hc hf
  clear hP hN
  generalize pvx X n (pc i n) t = vx at *
  generalize pvx Y n (pc i n) t = vy at *
  generalize pox X n (pc i n) t = fx1 at *
  generalize pox Y n (pc i n) t = fy1 at *
  generalize pc i n = m0 at *
  have w1 : IntKind.i64.wrap (i.tmod (n : Int) + (n : Int)) = i.tmod (n : Int) + (n : Int) := by have := IntWalk.i64_in (i.tmod (n : Int) + (n : Int)) ⟨by omega, by omega⟩; exact this
  have w2 : IntKind.i64.wrap (i.tmod (n : Int)) = i.tmod (n : Int) := by have := IntWalk.i64_in (i.tmod (n : Int)) ⟨by omega, by omega⟩; exact this
  have w3 : IntKind.i64.wrap (m0 : Int) = (m0 : Int) := by have := IntWalk.i64_in (m0 : Int) ⟨by omega, by omega⟩; exact this
  have nz : ¬ n = 0 := by omega
  go_enter Try.func11, Try.ntmps11
  go_wp2_with (fail)
  (go_at_call 9; (with_reducible refine (k1 _ (by (repeat (first | with_reducible assumption | with_reducible exact Below.refl _ _ | ((with_reducible refine Below.setCell ?_ ?_ _); rotate_left; (first | exact Nat.le_refl _ | (dsimp only; omega) | (simp; done) | (simp; omega))) | with_reducible refine below_alloc ?_ _ | with_reducible apply below_drewN | with_reducible apply Below.drew | with_reducible refine below_step ?_ (by assumption))))).mono ?_); rintro e wr ⟨rfl, hM⟩)
  have M : Bk (w.heap.size) 0 [.pointer (some ⟨b, 0, none⟩)] wr := Bk.later (by simp [Bk, go_sem]; done) hM
  have L : Bk (w.heap.size + 1) 0 [.slice (some a) n c] wr := Bk.later (by simp [Bk, go_sem]; done) hM
  have I : Bk (w.heap.size + 1 + 1) 0 [.int .i64 i] wr := Bk.later (by simp [Bk, go_sem]; done) hM
  have T : Bk (w.heap.size + 1 + 1 + 1) 0 [.int .i64 t] wr := Bk.later (by simp [Bk, go_sem]; done) hM
  have R : Bk (w.heap.size + 1 + 1 + 1 + 1) 0 [.int .i64 0, .int .i64 0] wr := Bk.later (by simp [Bk, go_sem]; done) hM
  have HM : Mv b o w wr := by (repeat (first | with_reducible assumption | with_reducible exact Mv.refl (by assumption) (by assumption) | with_reducible apply Mv.alloc | with_reducible apply Mv.drew | with_reducible apply Mv.drewN | ((with_reducible apply Mv.setCell); rotate_left; (first | (dsimp only; omega) | omega | (simp; omega)); (first | (dsimp only; omega) | omega | (simp; omega))) | ((with_reducible apply Mv.below); rotate_left; (with_reducible assumption)) | ((with_reducible apply Mv.trans); rotate_left; (with_reducible assumption))))
  have hz := World.block_lt_of_cell? wr _ R.1
  dsimp only at hz
  clear hM k1
  have C_L := L; simp only [Bk] at C_L
  have C_I := I; simp only [Bk] at C_I
  go_upto_region 4 with (fail)
  clear C_L C_I
  generalize hW : World.alloc _ _ = W
  have M : Bk (w.heap.size) 0 [.pointer (some ⟨b, 0, none⟩)] W := by rw [← hW]; exact Bk.alloc M _
  have L : Bk (w.heap.size + 1) 0 [.slice (some a) n c] W := by rw [← hW]; exact Bk.alloc L _
  have I : Bk (w.heap.size + 1 + 1) 0 [.int .i64 i] W := by rw [← hW]; exact Bk.alloc I _
  have T : Bk (w.heap.size + 1 + 1 + 1) 0 [.int .i64 t] W := by rw [← hW]; exact Bk.alloc T _
  have R : Bk (w.heap.size + 1 + 1 + 1 + 1) 0 [.int .i64 0, .int .i64 0] W := by rw [← hW]; exact Bk.alloc R _
  have N : Bk wr.heap.size 0 [.int .i64 n] W := by rw [← hW]; simp [Bk, go_sem]
  have HM : Mv b o w W := by rw [← hW]; exact Mv.alloc HM _
  have hzW := World.block_lt_of_cell? W _ N.1
  dsimp only at hzW
  clear hW
  have C_I := I; simp only [Bk] at C_I
  have C_N := N; simp only [Bk] at C_N
  go_region
  generalize hV : World.drew _ = V
  have M : Bk (w.heap.size) 0 [.pointer (some ⟨b, 0, none⟩)] V := by rw [← hV]; (repeat (first | with_reducible assumption | with_reducible apply Bk.drew | with_reducible apply Bk.alloc | with_reducible apply Bk.later (hB := hR) | with_reducible apply Bk.later (hB := hM) | ((with_reducible apply Bk.mv hM); (focus omega)) | ((with_reducible apply Bk.later); rotate_left; (with_reducible assumption)) | ((with_reducible apply Bk.put); rotate_left; (first | (dsimp only; omega)))))
  have L : Bk (w.heap.size + 1) 0 [.slice (some a) n c] V := by rw [← hV]; (repeat (first | with_reducible assumption | with_reducible apply Bk.drew | with_reducible apply Bk.alloc | with_reducible apply Bk.later (hB := hR) | with_reducible apply Bk.later (hB := hM) | ((with_reducible apply Bk.mv hM); (focus omega)) | ((with_reducible apply Bk.later); rotate_left; (with_reducible assumption)) | ((with_reducible apply Bk.put); rotate_left; (first | (dsimp only; omega)))))
  have T : Bk (w.heap.size + 1 + 1 + 1) 0 [.int .i64 t] V := by rw [← hV]; (repeat (first | with_reducible assumption | with_reducible apply Bk.drew | with_reducible apply Bk.alloc | with_reducible apply Bk.later (hB := hR) | with_reducible apply Bk.later (hB := hM) | ((with_reducible apply Bk.mv hM); (focus omega)) | ((with_reducible apply Bk.later); rotate_left; (with_reducible assumption)) | ((with_reducible apply Bk.put); rotate_left; (first | (dsimp only; omega)))))
  have R : Bk (w.heap.size + 1 + 1 + 1 + 1) 0 [.int .i64 0, .int .i64 0] V := by rw [← hV]; (repeat (first | with_reducible assumption | with_reducible apply Bk.drew | with_reducible apply Bk.alloc | with_reducible apply Bk.later (hB := hR) | with_reducible apply Bk.later (hB := hM) | ((with_reducible apply Bk.mv hM); (focus omega)) | ((with_reducible apply Bk.later); rotate_left; (with_reducible assumption)) | ((with_reducible apply Bk.put); rotate_left; (first | (dsimp only; omega)))))
  have N : Bk wr.heap.size 0 [.int .i64 n] V := by rw [← hV]; (repeat (first | with_reducible assumption | with_reducible apply Bk.drew | with_reducible apply Bk.alloc | with_reducible apply Bk.later (hB := hR) | with_reducible apply Bk.later (hB := hM) | ((with_reducible apply Bk.mv hM); (focus omega)) | ((with_reducible apply Bk.later); rotate_left; (with_reducible assumption)) | ((with_reducible apply Bk.put); rotate_left; (first | (dsimp only; omega)))))
  have I : Bk (w.heap.size + 1 + 1) 0 [.int .i64 m0] V := by rw [← hV]; clear hV; simp [Bk, go_sem, *]
  have HM : Mv b o w V := by rw [← hV]; (repeat (first | with_reducible assumption | with_reducible exact Mv.refl (by assumption) (by assumption) | with_reducible apply Mv.alloc | with_reducible apply Mv.drew | with_reducible apply Mv.drewN | ((with_reducible apply Mv.setCell); rotate_left; (first | (dsimp only; omega) | omega | (simp; omega)); (first | (dsimp only; omega) | omega | (simp; omega))) | ((with_reducible apply Mv.below); rotate_left; (with_reducible assumption)) | ((with_reducible apply Mv.trans); rotate_left; (with_reducible assumption))))
  have hzV := World.block_lt_of_cell? V _ N.1
  dsimp only at hzV
  clear hV
  clear C_I C_N e1 e2 e3 w1 w2 w3
  have C_M := M; simp only [Bk] at C_M
  have C_L := L; simp only [Bk] at C_L
  have C_I := I; simp only [Bk] at C_I
  have C_T := T; simp only [Bk] at C_T
  have C_R := R; simp only [Bk] at C_R
  have C_N := N; simp only [Bk] at C_N
  have nf : V.heap.size ≠ b := by omega
  have nm : w.heap.size ≠ b := by omega
  have nt : w.heap.size + 1 + 1 + 1 ≠ b := by omega
  have nl : w.heap.size + 1 ≠ b := by omega
  have ni : w.heap.size + 1 + 1 ≠ b := by omega
  have nq : wr.heap.size ≠ b := by omega
  go_wp2_with (fail)
  have HMA : Mv b o w (V.alloc (Obj.cells #[.func (.func 28) #[] #[.pointer (some ⟨w.heap.size + 1, 0, none⟩), .pointer (some ⟨w.heap.size + 1 + 1, 0, none⟩), .pointer (some ⟨wr.heap.size, 0, none⟩)]] 56)) := Mv.alloc HM _
  (go_at_call 29; (with_reducible refine (mvCall (b := b) (w0 := w) HMA (k2 _ _ _ _ _ _ _ _ (by simp [go_sem]) (by simp [go_sem, *]) (by simp [go_sem, *]) (by simp [go_sem, *]) (by simp [go_sem, *]) (by simp [go_sem, *]) HMA nf nm nt nl ni nq)).mono ?_); rintro e w1 ⟨rfl, hM, HM⟩)
  have F : Bk V.heap.size 0 [.func (.func 28) #[] #[.pointer (some ⟨w.heap.size + 1, 0, none⟩), .pointer (some ⟨w.heap.size + 1 + 1, 0, none⟩), .pointer (some ⟨wr.heap.size, 0, none⟩)]] w1 := Bk.mv hM nf (by simp [Bk, go_sem]; done)
  have M := Bk.mv hM nm (Bk.alloc M _)
  have L := Bk.mv hM nl (Bk.alloc L _)
  have I := Bk.mv hM ni (Bk.alloc I _)
  have T := Bk.mv hM nt (Bk.alloc T _)
  have N := Bk.mv hM nq (Bk.alloc N _)
  have R := Bk.mv hM (by omega) (Bk.alloc R _)
  have C_F := F; simp only [Bk] at C_F
  have C_M := M; simp only [Bk] at C_M
  have C_L := L; simp only [Bk] at C_L
  have C_I := I; simp only [Bk] at C_I
  have C_T := T; simp only [Bk] at C_T
  have C_R := R; simp only [Bk] at C_R
  have C_N := N; simp only [Bk] at C_N
  clear hM HMA k2
  go_wp2_with (fail)
  (go_at_call 29; (with_reducible refine (mvCall (b := b) (w0 := w) HM (k3 _ _ _ _ _ _ _ _ C_F.1 C_M.1 C_T.1 C_L.1 C_I.1 C_N.1 HM nf nm nt nl ni nq)).mono ?_); rintro e w2 ⟨rfl, hM, HM⟩)
  have R := Bk.mv hM (by omega) R
  have C_R := R; simp only [Bk] at C_R
  go_wp2
  simp (maxDischargeDepth := 8) [bodyPost, results, Try.results11, go_sem, *]
  (repeat (first | with_reducible assumption | with_reducible exact Mv.refl (by assumption) (by assumption) | with_reducible apply Mv.alloc | with_reducible apply Mv.drew | with_reducible apply Mv.drewN | ((with_reducible apply Mv.setCell); rotate_left; (first | (dsimp only; omega) | omega | (simp; omega)); (first | (dsimp only; omega) | omega | (simp; omega))) | ((with_reducible apply Mv.below); rotate_left; (with_reducible assumption)) | ((with_reducible apply Mv.trans); rotate_left; (with_reducible assumption))))
theorem cAtNo (p : Option Addr) (n c : Nat) (i t : Int) (b : Nat) (o : Bool) (w : World) (hn : n ≤ 9223372036854775807) (h : n < 3 ∨ 64 < n) (hc : w.cell? ⟨b, 0, none⟩ = some (.bool o)) (hf : w.frozen? ⟨b, 0, none⟩ = false) :
    Calls Try.prog 11 #[.pointer (some ⟨b, 0, none⟩), .slice p n c, .int .i64 i, .int .i64 t] w fun e w' => e = .returned (.agg #[.int .i64 0, .int .i64 0]) ∧ Mv b o w w' := by
  have hb := lt_of_cell hc
  have HM := Mv.refl hc hf
  clear hc hf
  have k1 := fun W => cRightN p n c W h hn
  clear h
  go_enter Try.func11, Try.ntmps11
  go_wp2_with ((go_at_call 9; (with_reducible refine (k1 _).mono ?_); rintro e w1 ⟨rfl, hM⟩; have hr := cell_later (a := ⟨w.heap.size + 1 + 1 + 1 + 1, 0, none⟩) (v := .int .i64 0) hM (by first | assumption | (simp (maxDischargeDepth := 6) [go_sem, *]; done)); have hg := frozen_later (a := ⟨w.heap.size + 1 + 1 + 1 + 1, 0, none⟩) (v := .int .i64 0) hM (by first | assumption | (simp (maxDischargeDepth := 6) [go_sem, *]; done)) (by first | assumption | (simp (maxDischargeDepth := 6) [go_sem, *]; done)); have hr := cell_later (a := ⟨w.heap.size + 1 + 1 + 1 + 1, 1, none⟩) (v := .int .i64 0) hM (by first | assumption | (simp (maxDischargeDepth := 6) [go_sem, *]; done)); have hg := frozen_later (a := ⟨w.heap.size + 1 + 1 + 1 + 1, 1, none⟩) (v := .int .i64 0) hM (by first | assumption | (simp (maxDischargeDepth := 6) [go_sem, *]; done)) (by first | assumption | (simp (maxDischargeDepth := 6) [go_sem, *]; done))))
  simp (maxDischargeDepth := 8) [bodyPost, results, Try.results11, go_sem, *]
  (repeat (first | with_reducible assumption | with_reducible exact Mv.refl (by assumption) (by assumption) | with_reducible apply Mv.alloc | with_reducible apply Mv.drew | with_reducible apply Mv.drewN | ((with_reducible apply Mv.setCell); rotate_left; (first | (dsimp only; omega) | omega | (simp; omega)); (first | (dsimp only; omega) | omega | (simp; omega))) | ((with_reducible apply Mv.below); rotate_left; (with_reducible assumption)) | ((with_reducible apply Mv.trans); rotate_left; (with_reducible assumption))))
theorem cAtFar (a : Addr) (n c : Nat) (i : Int) (X Y : Nat → Int) (t : Int) (b : Nat) (o : Bool) (w : World) (hn : 3 ≤ n) (hn2 : n ≤ 64) (hN : nrs X Y n = false) (hP : Pt a n X Y w) (hc : w.cell? ⟨b, 0, none⟩ = some (.bool o)) (hf : w.frozen? ⟨b, 0, none⟩ = false) :
    Calls Try.prog 11 #[.pointer (some ⟨b, 0, none⟩), .slice (some a) n c, .int .i64 i, .int .i64 t] w fun e w' => e = .returned (.agg #[.int .i64 0, .int .i64 0]) ∧ Mv b o w w' := by
  have hb := lt_of_cell hc
  have HM := Mv.refl hc hf
  clear hc hf
  have k1 : ∀ W, Below w.heap.size w W → Calls Try.prog 9 #[.slice (some a) n c] W fun e w' => e = .returned (.int .i64 40) ∧ Below W.heap.size W w' := fun W hB => by
    have h := cRightY a n c X Y W hn hn2 (hP.later hB)
    rw [hN, if_neg (by decide)] at h; exact h
  clear hP hN
  have HB0 : Below w.heap.size w (((((w.alloc (Obj.cells #[.pointer (some ⟨b, 0, none⟩)] 24)).alloc (Obj.cells #[.slice (some a) n c] 22)).alloc (Obj.cells #[.int .i64 i] 3)).alloc (Obj.cells #[.int .i64 t] 23)).alloc (Obj.cells #[.int .i64 0, .int .i64 0] 32)) := by (repeat (first | with_reducible assumption | with_reducible exact Below.refl _ _ | ((with_reducible refine Below.setCell ?_ ?_ _); rotate_left; (first | exact Nat.le_refl _ | (dsimp only; omega) | (simp; done) | (simp; omega))) | with_reducible refine below_alloc ?_ _ | with_reducible apply below_drewN | with_reducible apply Below.drew | with_reducible refine below_step ?_ (by assumption)))
  go_enter Try.func11, Try.ntmps11
  go_wp2_with (fail)
  (go_at_call 9; (with_reducible refine (k1 _ HB0).mono ?_); rintro e w1 ⟨rfl, hM⟩; have hr := cell_later (a := ⟨w.heap.size + 1 + 1 + 1 + 1, 0, none⟩) (v := .int .i64 0) hM (by first | assumption | (simp (maxDischargeDepth := 6) [go_sem, *]; done)); have hg := frozen_later (a := ⟨w.heap.size + 1 + 1 + 1 + 1, 0, none⟩) (v := .int .i64 0) hM (by first | assumption | (simp (maxDischargeDepth := 6) [go_sem, *]; done)) (by first | assumption | (simp (maxDischargeDepth := 6) [go_sem, *]; done)); have hr := cell_later (a := ⟨w.heap.size + 1 + 1 + 1 + 1, 1, none⟩) (v := .int .i64 0) hM (by first | assumption | (simp (maxDischargeDepth := 6) [go_sem, *]; done)); have hg := frozen_later (a := ⟨w.heap.size + 1 + 1 + 1 + 1, 1, none⟩) (v := .int .i64 0) hM (by first | assumption | (simp (maxDischargeDepth := 6) [go_sem, *]; done)) (by first | assumption | (simp (maxDischargeDepth := 6) [go_sem, *]; done)))
  clear k1 HB0
  go_wp2
  simp (maxDischargeDepth := 8) [bodyPost, results, Try.results11, go_sem, *]
  (repeat (first | with_reducible assumption | with_reducible exact Mv.refl (by assumption) (by assumption) | with_reducible apply Mv.alloc | with_reducible apply Mv.drew | with_reducible apply Mv.drewN | ((with_reducible apply Mv.setCell); rotate_left; (first | (dsimp only; omega) | omega | (simp; omega)); (first | (dsimp only; omega) | omega | (simp; omega))) | ((with_reducible apply Mv.below); rotate_left; (with_reducible assumption)) | ((with_reducible apply Mv.trans); rotate_left; (with_reducible assumption))))
end Go.Proofs.Ythieinnlpfdemaa
