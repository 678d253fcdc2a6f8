/- A line at a place: the document's. -/
import Derived.Test.YthieinnlpfdemaaS3
set_option linter.unusedSimpArgs false
set_option linter.unusedVariables false
namespace Go.Proofs.Ythieinnlpfdemaa
open Go.RowKit
theorem px0 (V : Nat → Int) (n i : Nat) (hi : i < n) : px V n i 0 = V ((i + n - 1) % n) := by unfold px; rw [Nat.add_zero]
theorem px1 (V : Nat → Int) (n i : Nat) (hi : i < n) : px V n i 1 = V i := by unfold px; rw [show i + 1 + n - 1 = i + n by omega, Nat.add_mod_right, Nat.mod_eq_of_lt hi]
theorem px2 (V : Nat → Int) (n i : Nat) (hi : i < n) : px V n i 2 = V ((i + 1) % n) := by unfold px; rw [show i + 2 + n - 1 = i + 1 + n by omega, Nat.add_mod_right]
theorem px3 (V : Nat → Int) (n i : Nat) (hi : i < n) : px V n i 3 = V ((i + 2) % n) := by unfold px; rw [show i + 3 + n - 1 = i + 2 + n by omega, Nat.add_mod_right]
set_option maxHeartbeats 4000000 in
theorem rOne (p0 p1 p2 p3 t : Int) (b : Nat) (o : Bool) (w : World) (a0 : -281474976710656 ≤ p0) (a1 : p0 ≤ 281474976710656) (b0 : -281474976710656 ≤ p1) (b1 : p1 ≤ 281474976710656) (c0 : -281474976710656 ≤ p2) (c1 : p2 ≤ 281474976710656) (d0 : -281474976710656 ≤ p3) (d1 : p3 ≤ 281474976710656) (t_0 : -9223372036854775808 ≤ t) (t_1 : t ≤ 9223372036854775807) (hc : w.cell? ⟨b, 0, none⟩ = some (.bool o)) (hf : w.frozen? ⟨b, 0, none⟩ = false) :
    Calls Try.prog 34 #[.pointer (some ⟨b, 0, none⟩), .int .i64 p0, .int .i64 p1, .int .i64 p2, .int .i64 p3, .int .i64 t] w fun e w' => e = .returned (.int .i64 (pv p0 p1 p2 p3 t)) ∧ Mv b (o || !pok p0 p1 p2 p3 t) w w' := by
  have HM := Mv.refl hc hf
  clear hc hf
  obtain ⟨q0, hq0⟩ : ∃ q, 2 * p1 = q := ⟨_, rfl⟩
  obtain ⟨q1, hq1⟩ : ∃ q, p2 - p0 = q := ⟨_, rfl⟩
  obtain ⟨q2, hq2⟩ : ∃ q, 2 * p0 - 5 * p1 + 4 * p2 - p3 = q := ⟨_, rfl⟩
  obtain ⟨q3, hq3⟩ : ∃ q, 3 * p1 - p0 - 3 * p2 + p3 = q := ⟨_, rfl⟩
  unfold pv pok
  rw [hq0, hq1, hq2, hq3]
  have k1 := fun O W => rMl q3 t b O W (by omega) (by omega) t_0 t_1
  have k2 := fun O W => rFAdd q2 (ml q3 t) b O W (by omega) (by omega) (ml_lo _ _) (ml_hi _ _)
  have k3 := fun O W => rMl (st q2 q3 t) t b O W (st_lo _ _ _) (st_hi _ _ _) t_0 t_1
  have k4 := fun O W => rFAdd q1 (ml (st q2 q3 t) t) b O W (by omega) (by omega) (ml_lo _ _) (ml_hi _ _)
  have k5 := fun O W => rMl (st q1 (st q2 q3 t) t) t b O W (st_lo _ _ _) (st_hi _ _ _) t_0 t_1
  have k6 := fun O W => rFAdd q0 (ml (st q1 (st q2 q3 t) t) t) b O W (by omega) (by omega) (ml_lo _ _) (ml_hi _ _)
  have k7 := fun O W => rMl (st q0 (st q1 (st q2 q3 t) t) t) 2147483648 b O W (st_lo _ _ _) (st_hi _ _ _) (by decide) (by decide)
  rw [show sat (q2 + ml q3 t) = st q2 q3 t from rfl] at k2
  rw [show sat (q1 + ml (st q2 q3 t) t) = st q1 (st q2 q3 t) t from rfl] at k4
  rw [show sat (q0 + ml (st q1 (st q2 q3 t) t) t) = st q0 (st q1 (st q2 q3 t) t) t from rfl] at k6
  unfold cv cok sok
  rw [← cok_o]
  generalize ml (st q0 (st q1 (st q2 q3 t) t) t) 2147483648 = v7 at *
  generalize mlok (st q0 (st q1 (st q2 q3 t) t) t) 2147483648 = f7 at *
  generalize st q0 (st q1 (st q2 q3 t) t) t = v6 at *
  generalize fx (q0 + ml (st q1 (st q2 q3 t) t) t) = f6 at *
  generalize ml (st q1 (st q2 q3 t) t) t = v5 at *
  generalize mlok (st q1 (st q2 q3 t) t) t = f5 at *
  generalize st q1 (st q2 q3 t) t = v4 at *
  generalize fx (q1 + ml (st q2 q3 t) t) = f4 at *
  generalize ml (st q2 q3 t) t = v3 at *
  generalize mlok (st q2 q3 t) t = f3 at *
  generalize st q2 q3 t = v2 at *
  generalize fx (q2 + ml q3 t) = f2 at *
  generalize ml q3 t = v1 at *
  generalize mlok q3 t = f1 at *
  go_enter Try.func34, Try.ntmps34
  go_wp2_with (first | (go_at_call 53; (with_reducible refine (mvCall (b := b) (w0 := w) (by (repeat (first | with_reducible assumption | with_reducible exact Mv.refl (by assumption) (by assumption) | with_reducible apply Mv.alloc | with_reducible apply Mv.drew | with_reducible apply Mv.drewN | ((with_reducible apply Mv.setCell); rotate_left; (first | (dsimp only; omega) | omega | (simp; omega)); (first | (dsimp only; omega) | omega | (simp; omega))) | ((with_reducible apply Mv.below); rotate_left; (with_reducible assumption)) | ((with_reducible apply Mv.trans); rotate_left; (with_reducible assumption))))) (k1 _ _)).mono ?_); rintro e w1 ⟨rfl, hM, HM⟩) | (go_at_call 39; (with_reducible refine (mvCall (b := b) (w0 := w) (by (repeat (first | with_reducible assumption | with_reducible exact Mv.refl (by assumption) (by assumption) | with_reducible apply Mv.alloc | with_reducible apply Mv.drew | with_reducible apply Mv.drewN | ((with_reducible apply Mv.setCell); rotate_left; (first | (dsimp only; omega) | omega | (simp; omega)); (first | (dsimp only; omega) | omega | (simp; omega))) | ((with_reducible apply Mv.below); rotate_left; (with_reducible assumption)) | ((with_reducible apply Mv.trans); rotate_left; (with_reducible assumption))))) (k2 _ _)).mono ?_); rintro e w1 ⟨rfl, hM, HM⟩) | (go_at_call 53; (with_reducible refine (mvCall (b := b) (w0 := w) (by (repeat (first | with_reducible assumption | with_reducible exact Mv.refl (by assumption) (by assumption) | with_reducible apply Mv.alloc | with_reducible apply Mv.drew | with_reducible apply Mv.drewN | ((with_reducible apply Mv.setCell); rotate_left; (first | (dsimp only; omega) | omega | (simp; omega)); (first | (dsimp only; omega) | omega | (simp; omega))) | ((with_reducible apply Mv.below); rotate_left; (with_reducible assumption)) | ((with_reducible apply Mv.trans); rotate_left; (with_reducible assumption))))) (k3 _ _)).mono ?_); rintro e w1 ⟨rfl, hM, HM⟩) | (go_at_call 39; (with_reducible refine (mvCall (b := b) (w0 := w) (by (repeat (first | with_reducible assumption | with_reducible exact Mv.refl (by assumption) (by assumption) | with_reducible apply Mv.alloc | with_reducible apply Mv.drew | with_reducible apply Mv.drewN | ((with_reducible apply Mv.setCell); rotate_left; (first | (dsimp only; omega) | omega | (simp; omega)); (first | (dsimp only; omega) | omega | (simp; omega))) | ((with_reducible apply Mv.below); rotate_left; (with_reducible assumption)) | ((with_reducible apply Mv.trans); rotate_left; (with_reducible assumption))))) (k4 _ _)).mono ?_); rintro e w1 ⟨rfl, hM, HM⟩) | (go_at_call 53; (with_reducible refine (mvCall (b := b) (w0 := w) (by (repeat (first | with_reducible assumption | with_reducible exact Mv.refl (by assumption) (by assumption) | with_reducible apply Mv.alloc | with_reducible apply Mv.drew | with_reducible apply Mv.drewN | ((with_reducible apply Mv.setCell); rotate_left; (first | (dsimp only; omega) | omega | (simp; omega)); (first | (dsimp only; omega) | omega | (simp; omega))) | ((with_reducible apply Mv.below); rotate_left; (with_reducible assumption)) | ((with_reducible apply Mv.trans); rotate_left; (with_reducible assumption))))) (k5 _ _)).mono ?_); rintro e w1 ⟨rfl, hM, HM⟩) | (go_at_call 39; (with_reducible refine (mvCall (b := b) (w0 := w) (by (repeat (first | with_reducible assumption | with_reducible exact Mv.refl (by assumption) (by assumption) | with_reducible apply Mv.alloc | with_reducible apply Mv.drew | with_reducible apply Mv.drewN | ((with_reducible apply Mv.setCell); rotate_left; (first | (dsimp only; omega) | omega | (simp; omega)); (first | (dsimp only; omega) | omega | (simp; omega))) | ((with_reducible apply Mv.below); rotate_left; (with_reducible assumption)) | ((with_reducible apply Mv.trans); rotate_left; (with_reducible assumption))))) (k6 _ _)).mono ?_); rintro e w1 ⟨rfl, hM, HM⟩) | (go_at_call 53; (with_reducible refine (mvCall (b := b) (w0 := w) (by (repeat (first | with_reducible assumption | with_reducible exact Mv.refl (by assumption) (by assumption) | with_reducible apply Mv.alloc | with_reducible apply Mv.drew | with_reducible apply Mv.drewN | ((with_reducible apply Mv.setCell); rotate_left; (first | (dsimp only; omega) | omega | (simp; omega)); (first | (dsimp only; omega) | omega | (simp; omega))) | ((with_reducible apply Mv.below); rotate_left; (with_reducible assumption)) | ((with_reducible apply Mv.trans); rotate_left; (with_reducible assumption))))) (k7 _ _)).mono ?_); rintro e w1 ⟨rfl, hM, HM⟩))
  go_ret
  exact ⟨rfl, by (repeat (first | with_reducible assumption | with_reducible exact Mv.refl (by assumption) (by assumption) | with_reducible apply Mv.alloc | with_reducible apply Mv.drew | with_reducible apply Mv.drewN | ((with_reducible apply Mv.setCell); rotate_left; (first | (dsimp only; omega) | omega | (simp; omega)); (first | (dsimp only; omega) | omega | (simp; omega))) | ((with_reducible apply Mv.below); rotate_left; (with_reducible assumption)) | ((with_reducible apply Mv.trans); rotate_left; (with_reducible assumption))))⟩
set_option maxHeartbeats 8000000 in
theorem rAt (a : Addr) (n c : Nat) (i : Int) (X Y : Nat → Int) (t : Int) (b : Nat) (o : Bool) (w : World) (hn : 3 ≤ n) (hn2 : n ≤ 64) (i_0 : -9223372036854775808 ≤ i) (i_1 : i ≤ 9223372036854775807) (t_0 : -9223372036854775808 ≤ t) (t_1 : t ≤ 9223372036854775807) (hN : nrs X Y n = true) (hP : Pt a n X Y w) (hab : a.block ≠ b) (hc : w.cell? ⟨b, 0, none⟩ = some (.bool o)) (hf : w.frozen? ⟨b, 0, none⟩ = false) :
    Calls Try.prog 12 #[.pointer (some ⟨b, 0, none⟩), .slice (some a) n c, .int .i64 i, .int .i64 t] w fun e w' => e = .returned (.agg #[.int .i64 (pvx X n (pc i n) t), .int .i64 (pvx Y n (pc i n) t)]) ∧ Mv b (o || !pox X n (pc i n) t || !pox Y n (pc i n) t) w w' := by
  have hb := lt_of_cell hc
  have HM := Mv.refl hc hf
  clear hc hf
  have hK := pc_lt i n (by omega)
  obtain ⟨e3, e1, e2⟩ := pc_eq i n (by omega)
  have k1 : ∀ W, Below w.heap.size w W → Calls Try.prog 10 #[.slice (some a) n c] W fun e w' => e = .returned (.int .i64 0) ∧ Below W.heap.size W w' := fun W hB => by
    have h := rRightY a n c X Y W hn hn2 (hP.later hB)
    rw [hN, if_pos rfl] at h; exact h
  unfold pvx pox
  rw [px0 X n _ hK, px1 X n _ hK, px2 X n _ hK, px3 X n _ hK, px0 Y n _ hK, px1 Y n _ hK, px2 Y n _ hK, px3 Y n _ hK]
  have hj0 : (pc i n + n - 1) % n < n := Nat.mod_lt _ (by omega)
  have hj2 : (pc i n + 1) % n < n := Nat.mod_lt _ (by omega)
  have hj3 : (pc i n + 2) % n < n := Nat.mod_lt _ (by omega)
  have g0 : ((pc i n : Int) + (n : Int) - 1).tmod (n : Int) = (((pc i n + n - 1) % n : Nat) : Int) := by
    rw [Int.tmod_eq_emod_of_nonneg (by omega), Int.natCast_emod]; congr 1; omega
  have g2 : ((pc i n : Int) + 1).tmod (n : Int) = (((pc i n + 1) % n : Nat) : Int) := by
    rw [Int.tmod_eq_emod_of_nonneg (by omega), Int.natCast_emod]; congr 1
  have g3 : ((pc i n : Int) + 2).tmod (n : Int) = (((pc i n + 2) % n : Nat) : Int) := by
    rw [Int.tmod_eq_emod_of_nonneg (by omega), Int.natCast_emod]; congr 1
  have g4 : ((pc i n : Int) + (n : Int) - 1) % (n : Int) = (((pc i n + n - 1) % n : Nat) : Int) := by rw [Int.natCast_emod]; congr 1; omega
  have g5 : ((pc i n : Int) + 1) % (n : Int) = (((pc i n + 1) % n : Nat) : Int) := by rw [Int.natCast_emod]; congr 1
  have g6 : ((pc i n : Int) + 2) % (n : Int) = (((pc i n + 2) % n : Nat) : Int) := by rw [Int.natCast_emod]; congr 1
  have B0 := pn_bd (nrs_yes hN hj0)
  have B1 := pn_bd (nrs_yes hN hK)
  have B2 := pn_bd (nrs_yes hN hj2)
  have B3 := pn_bd (nrs_yes hN hj3)
  generalize (pc i n + n - 1) % n = j0 at *
  generalize (pc i n + 1) % n = j2 at *
  generalize (pc i n + 2) % n = j3 at *
  generalize pc i n = j1 at *
  have kX := fun O W => rOne (X j0) (X j1) (X j2) (X j3) t b O W (by omega) (by omega) (by omega) (by omega) (by omega) (by omega) (by omega) (by omega) t_0 t_1
  have kY := fun O W => rOne (Y j0) (Y j1) (Y j2) (Y j3) t b O W (by omega) (by omega) (by omega) (by omega) (by omega) (by omega) (by omega) (by omega) t_0 t_1
  generalize pv (X j0) (X j1) (X j2) (X j3) t = vx at *
  generalize pv (Y j0) (Y j1) (Y j2) (Y j3) t = vy at *
  generalize pok (X j0) (X j1) (X j2) (X j3) t = fx1 at *
  generalize pok (Y j0) (Y j1) (Y j2) (Y j3) t = fy1 at *
  clear hN B0 B1 B2 B3
  have nz : ¬ n = 0 := by omega
  have HB0 : Below w.heap.size w (w.alloc (Obj.cells #[.int .i64 0, .int .i64 0] 32)) := by (repeat (first | with_reducible assumption | with_reducible exact Below.refl _ _ | ((with_reducible refine Below.setCell ?_ ?_ _); rotate_left; (first | exact Nat.le_refl _ | (dsimp only; omega) | (simp; done) | (simp; omega))) | with_reducible refine below_alloc ?_ _ | with_reducible apply below_drewN | with_reducible apply Below.drew | with_reducible refine below_step ?_ (by assumption)))
  go_enter Try.func12, Try.ntmps12
  go_wp2_with (fail)
  (go_at_call 10; (with_reducible refine (k1 _ HB0).mono ?_); rintro e wr ⟨rfl, hM⟩)
  have R : Bk (w.heap.size) 0 [.int .i64 0, .int .i64 0] wr := Bk.later (by simp [Bk, go_sem]; done) hM
  have HP : Pt a n X Y wr := (hP.later HB0).later hM
  have HM : Mv b o w wr := by (repeat (first | with_reducible assumption | with_reducible exact Mv.refl (by assumption) (by assumption) | with_reducible apply Mv.alloc | with_reducible apply Mv.drew | with_reducible apply Mv.drewN | ((with_reducible apply Mv.setCell); rotate_left; (first | (dsimp only; omega) | omega | (simp; omega)); (first | (dsimp only; omega) | omega | (simp; omega))) | ((with_reducible apply Mv.below); rotate_left; (with_reducible assumption)) | ((with_reducible apply Mv.trans); rotate_left; (with_reducible assumption))))
  have hz := World.block_lt_of_cell? wr _ R.1
  dsimp only at hz
  clear hM k1 HB0 hP
  go_upto_region 5 with (fail)
  obtain ⟨c0, c1⟩ := HP j0 hj0
  go_upto_region 6 with (fail)
  clear c0 c1
  generalize hW : World.alloc _ _ = W1
  have HP : Pt a n X Y W1 := by rw [← hW]; exact HP.later ((Below.refl _ _).alloc (Nat.le_refl _) _)
  have R : Bk (w.heap.size) 0 [.int .i64 0, .int .i64 0] W1 := by rw [← hW]; exact Bk.alloc R _
  have P0 : Bk (wr.heap.size) 0 [.int .i64 (X j0), .int .i64 (Y j0)] W1 := by rw [← hW]; simp [Bk, go_sem]
  have HM : Mv b o w W1 := by rw [← hW]; exact Mv.alloc HM _
  have hzW1 := World.block_lt_of_cell? W1 _ (show W1.cell? ⟨wr.heap.size, 0, none⟩ = some (.int .i64 (X j0)) from P0.1)
  dsimp only at hzW1
  clear hW
  obtain ⟨c0, c1⟩ := HP j1 hK
  go_upto_region 7 with (fail)
  clear c0 c1
  generalize hW : World.alloc _ _ = W2
  have HP : Pt a n X Y W2 := by rw [← hW]; exact HP.later ((Below.refl _ _).alloc (Nat.le_refl _) _)
  have R : Bk (w.heap.size) 0 [.int .i64 0, .int .i64 0] W2 := by rw [← hW]; exact Bk.alloc R _
  have P0 : Bk wr.heap.size 0 [.int .i64 (X j0), .int .i64 (Y j0)] W2 := by rw [← hW]; exact Bk.alloc P0 _
  have P1 : Bk (W1.heap.size) 0 [.int .i64 (X j1), .int .i64 (Y j1)] W2 := by rw [← hW]; simp [Bk, go_sem]
  have HM : Mv b o w W2 := by rw [← hW]; exact Mv.alloc HM _
  have hzW2 := World.block_lt_of_cell? W2 _ (show W2.cell? ⟨W1.heap.size, 0, none⟩ = some (.int .i64 (X j1)) from P1.1)
  dsimp only at hzW2
  clear hW
  obtain ⟨c0, c1⟩ := HP j2 hj2
  go_upto_region 8 with (fail)
  clear c0 c1
  generalize hW : World.alloc _ _ = W3
  have HP : Pt a n X Y W3 := by rw [← hW]; exact HP.later ((Below.refl _ _).alloc (Nat.le_refl _) _)
  have R : Bk (w.heap.size) 0 [.int .i64 0, .int .i64 0] W3 := by rw [← hW]; exact Bk.alloc R _
  have P0 : Bk wr.heap.size 0 [.int .i64 (X j0), .int .i64 (Y j0)] W3 := by rw [← hW]; exact Bk.alloc P0 _
  have P1 : Bk W1.heap.size 0 [.int .i64 (X j1), .int .i64 (Y j1)] W3 := by rw [← hW]; exact Bk.alloc P1 _
  have P2 : Bk (W2.heap.size) 0 [.int .i64 (X j2), .int .i64 (Y j2)] W3 := by rw [← hW]; simp [Bk, go_sem]
  have HM : Mv b o w W3 := by rw [← hW]; exact Mv.alloc HM _
  have hzW3 := World.block_lt_of_cell? W3 _ (show W3.cell? ⟨W2.heap.size, 0, none⟩ = some (.int .i64 (X j2)) from P2.1)
  dsimp only at hzW3
  clear hW
  obtain ⟨c0, c1⟩ := HP j3 hj3
  go_upto_region 9 with (fail)
  clear c0 c1
  generalize hW : World.alloc _ _ = W4
  have HP : Pt a n X Y W4 := by rw [← hW]; exact HP.later ((Below.refl _ _).alloc (Nat.le_refl _) _)
  have R : Bk (w.heap.size) 0 [.int .i64 0, .int .i64 0] W4 := by rw [← hW]; exact Bk.alloc R _
  have P0 : Bk wr.heap.size 0 [.int .i64 (X j0), .int .i64 (Y j0)] W4 := by rw [← hW]; exact Bk.alloc P0 _
  have P1 : Bk W1.heap.size 0 [.int .i64 (X j1), .int .i64 (Y j1)] W4 := by rw [← hW]; exact Bk.alloc P1 _
  have P2 : Bk W2.heap.size 0 [.int .i64 (X j2), .int .i64 (Y j2)] W4 := by rw [← hW]; exact Bk.alloc P2 _
  have P3 : Bk (W3.heap.size) 0 [.int .i64 (X j3), .int .i64 (Y j3)] W4 := by rw [← hW]; simp [Bk, go_sem]
  have HM : Mv b o w W4 := by rw [← hW]; exact Mv.alloc HM _
  have hzW4 := World.block_lt_of_cell? W4 _ (show W4.cell? ⟨W3.heap.size, 0, none⟩ = some (.int .i64 (X j3)) from P3.1)
  dsimp only at hzW4
  clear hW
  clear HP
  have C_P0 := P0; simp only [Bk] at C_P0
  have C_P1 := P1; simp only [Bk] at C_P1
  have C_P2 := P2; simp only [Bk] at C_P2
  have C_P3 := P3; simp only [Bk] at C_P3
  have C_R := R; simp only [Bk] at C_R
  (try refine wp_region_noPanic ?_)
  refine wp_region_held_drew (S := (fun (w' : World) => w'.cell? ⟨wr.heap.size, 0, none⟩ = some (.int .i64 (X j0)) ∧ w'.cell? ⟨wr.heap.size, 1, none⟩ = some (.int .i64 (Y j0)) ∧ w'.cell? ⟨W1.heap.size, 0, none⟩ = some (.int .i64 (X j1)) ∧ w'.cell? ⟨W1.heap.size, 1, none⟩ = some (.int .i64 (Y j1)) ∧ w'.cell? ⟨W2.heap.size, 0, none⟩ = some (.int .i64 (X j2)) ∧ w'.cell? ⟨W2.heap.size, 1, none⟩ = some (.int .i64 (Y j2)) ∧ w'.cell? ⟨W3.heap.size, 0, none⟩ = some (.int .i64 (X j3)) ∧ w'.cell? ⟨W3.heap.size, 1, none⟩ = some (.int .i64 (Y j3)))) (by kernel_rfl) ⟨(by first | (simp (maxDischargeDepth := 6) [go_sem, *]; done)), (by first | (simp (maxDischargeDepth := 6) [go_sem, *]; done)), (by first | (simp (maxDischargeDepth := 6) [go_sem, *]; done)), (by first | (simp (maxDischargeDepth := 6) [go_sem, *]; done)), (by first | (simp (maxDischargeDepth := 6) [go_sem, *]; done)), (by first | (simp (maxDischargeDepth := 6) [go_sem, *]; done)), (by first | (simp (maxDischargeDepth := 6) [go_sem, *]; done)), (by first | (simp (maxDischargeDepth := 6) [go_sem, *]; done))⟩ (fun hHeld => ?_)
  refine wpAnyH_take (i := 0) (v := ?_) (by simp only [List.getElem?_toArray, List.getElem?_cons_succ, List.getElem?_cons_zero]; rfl) (by kernel_rfl) (by kernel_rfl) (by kernel_rfl) (fun _ _ _ h => h) (Or.inl ⟨by rfl, ?_⟩) (by assumption) ?_
  rotate_left
  · intro w hSw; (try dsimp only at hSw); go_simp; try with_reducible rfl
  try simp only [Act.put, List.setIfInBounds_toArray, List.set_cons_zero, List.set_cons_succ]
  refine wpAnyH_take (i := 1) (v := ?_) (by simp only [List.getElem?_toArray, List.getElem?_cons_succ, List.getElem?_cons_zero]; rfl) (by kernel_rfl) (by kernel_rfl) (by kernel_rfl) (fun _ _ _ h => h) (Or.inl ⟨by rfl, ?_⟩) (by assumption) ?_
  rotate_left
  · intro w hSw; (try dsimp only at hSw); go_simp; try with_reducible rfl
  try simp only [Act.put, List.setIfInBounds_toArray, List.set_cons_zero, List.set_cons_succ]
  refine wpAnyH_take (i := 3) (v := ?_) (by simp only [List.getElem?_toArray, List.getElem?_cons_succ, List.getElem?_cons_zero]; rfl) (by kernel_rfl) (by kernel_rfl) (by kernel_rfl) (fun _ _ _ h => h) (Or.inl ⟨by rfl, ?_⟩) (by assumption) ?_
  rotate_left
  · intro w hSw; (try dsimp only at hSw); go_simp; try with_reducible rfl
  try simp only [Act.put, List.setIfInBounds_toArray, List.set_cons_zero, List.set_cons_succ]
  refine wpAnyH_take (i := 5) (v := ?_) (by simp only [List.getElem?_toArray, List.getElem?_cons_succ, List.getElem?_cons_zero]; rfl) (by kernel_rfl) (by kernel_rfl) (by kernel_rfl) (fun _ _ _ h => h) (Or.inl ⟨by rfl, ?_⟩) (by assumption) ?_
  rotate_left
  · intro w hSw; (try dsimp only at hSw); go_simp; try with_reducible rfl
  try simp only [Act.put, List.setIfInBounds_toArray, List.set_cons_zero, List.set_cons_succ]
  refine wpAnyH_take (i := 7) (v := ?_) (by simp only [List.getElem?_toArray, List.getElem?_cons_succ, List.getElem?_cons_zero]; rfl) (by kernel_rfl) (by kernel_rfl) (by kernel_rfl) (fun _ _ _ h => h) (Or.inl ⟨by rfl, ?_⟩) (by assumption) ?_
  rotate_left
  · intro w hSw; (try dsimp only at hSw); go_simp; try with_reducible rfl
  try simp only [Act.put, List.setIfInBounds_toArray, List.set_cons_zero, List.set_cons_succ]
  refine wpAnyH_take (i := 9) (v := ?_) (by simp only [List.getElem?_toArray, List.getElem?_cons_succ, List.getElem?_cons_zero]; rfl) (by kernel_rfl) (by kernel_rfl) (by kernel_rfl) (fun _ _ _ h => h) (Or.inl ⟨by rfl, ?_⟩) (by assumption) ?_
  rotate_left
  · intro w hSw; (try dsimp only at hSw); go_simp; try with_reducible rfl
  try simp only [Act.put, List.setIfInBounds_toArray, List.set_cons_zero, List.set_cons_succ]
  refine wpAnyH_take (i := 11) (v := ?_) (by simp only [List.getElem?_toArray, List.getElem?_cons_succ, List.getElem?_cons_zero]; rfl) (by kernel_rfl) (by kernel_rfl) (by kernel_rfl) (fun _ _ _ h => h) (Or.inl ⟨by rfl, ?_⟩) (by assumption) ?_
  rotate_left
  · intro w hSw; (try dsimp only at hSw); go_simp; try with_reducible rfl
  try simp only [Act.put, List.setIfInBounds_toArray, List.set_cons_zero, List.set_cons_succ]
  refine wpAnyH_take (i := 12) (v := ?_) (by simp only [List.getElem?_toArray, List.getElem?_cons_succ, List.getElem?_cons_zero]; rfl) (by kernel_rfl) (by kernel_rfl) (by kernel_rfl) (fun _ _ _ h => h) (Or.inl ⟨by rfl, ?_⟩) (by assumption) ?_
  rotate_left
  · intro w hSw; (try dsimp only at hSw); go_simp; try with_reducible rfl
  try simp only [Act.put, List.setIfInBounds_toArray, List.set_cons_zero, List.set_cons_succ]
  refine wpAnyH_take (i := 14) (v := ?_) (by simp only [List.getElem?_toArray, List.getElem?_cons_succ, List.getElem?_cons_zero]; rfl) (by kernel_rfl) (by kernel_rfl) (by kernel_rfl) (fun _ _ _ h => h) (Or.inl ⟨by rfl, ?_⟩) (by assumption) ?_
  rotate_left
  · intro w hSw; (try dsimp only at hSw); go_simp; try with_reducible rfl
  try simp only [Act.put, List.setIfInBounds_toArray, List.set_cons_zero, List.set_cons_succ]
  refine wpAnyH_take (i := 16) (v := ?_) (by simp only [List.getElem?_toArray, List.getElem?_cons_succ, List.getElem?_cons_zero]; rfl) (by kernel_rfl) (by kernel_rfl) (by kernel_rfl) (fun _ _ _ h => h) (Or.inl ⟨by rfl, ?_⟩) (by assumption) ?_
  rotate_left
  · intro w hSw; (try dsimp only at hSw); go_simp; try with_reducible rfl
  try simp only [Act.put, List.setIfInBounds_toArray, List.set_cons_zero, List.set_cons_succ]
  refine wpAnyH_take (i := 18) (v := ?_) (by simp only [List.getElem?_toArray, List.getElem?_cons_succ, List.getElem?_cons_zero]; rfl) (by kernel_rfl) (by kernel_rfl) (by kernel_rfl) (fun _ _ _ h => h) (Or.inl ⟨by rfl, ?_⟩) (by assumption) ?_
  rotate_left
  · intro w hSw; (try dsimp only at hSw); go_simp; try with_reducible rfl
  try simp only [Act.put, List.setIfInBounds_toArray, List.set_cons_zero, List.set_cons_succ]
  refine wpAnyH_take (i := 20) (v := ?_) (by simp only [List.getElem?_toArray, List.getElem?_cons_succ, List.getElem?_cons_zero]; rfl) (by kernel_rfl) (by kernel_rfl) (by kernel_rfl) (fun _ _ _ h => h) (Or.inl ⟨by rfl, ?_⟩) (by assumption) ?_
  rotate_left
  · intro w hSw; (try dsimp only at hSw); go_simp; try with_reducible rfl
  try simp only [Act.put, List.setIfInBounds_toArray, List.set_cons_zero, List.set_cons_succ]
  refine wpAnyH_take (i := 2) (v := ?_) (by simp only [List.getElem?_toArray, List.getElem?_cons_succ, List.getElem?_cons_zero]; rfl) (by kernel_rfl) (by kernel_rfl) (by kernel_rfl) (fun _ _ _ h => h) (Or.inl ⟨by rfl, ?_⟩) (by assumption) ?_
  rotate_left
  · intro w hSw; (try dsimp only at hSw); go_simp; try with_reducible rfl
  try simp only [Act.put, List.setIfInBounds_toArray, List.set_cons_zero, List.set_cons_succ]
  refine wpAnyH_take (i := 4) (v := ?_) (by simp only [List.getElem?_toArray, List.getElem?_cons_succ, List.getElem?_cons_zero]; rfl) (by kernel_rfl) (by kernel_rfl) (by kernel_rfl) (fun _ _ _ h => h) (Or.inl ⟨by rfl, ?_⟩) (by assumption) ?_
  rotate_left
  · intro w hSw; (try dsimp only at hSw); go_simp; try with_reducible rfl
  try simp only [Act.put, List.setIfInBounds_toArray, List.set_cons_zero, List.set_cons_succ]
  refine wpAnyH_take (i := 6) (v := ?_) (by simp only [List.getElem?_toArray, List.getElem?_cons_succ, List.getElem?_cons_zero]; rfl) (by kernel_rfl) (by kernel_rfl) (by kernel_rfl) (fun _ _ _ h => h) (Or.inl ⟨by rfl, ?_⟩) (by assumption) ?_
  rotate_left
  · intro w hSw; (try dsimp only at hSw); go_simp; try with_reducible rfl
  try simp only [Act.put, List.setIfInBounds_toArray, List.set_cons_zero, List.set_cons_succ]
  refine wpAnyH_take (i := 8) (v := ?_) (by simp only [List.getElem?_toArray, List.getElem?_cons_succ, List.getElem?_cons_zero]; rfl) (by kernel_rfl) (by kernel_rfl) (by kernel_rfl) (fun _ _ _ h => h) (Or.inl ⟨by rfl, ?_⟩) (by assumption) ?_
  rotate_left
  · intro w hSw; (try dsimp only at hSw); go_simp; try with_reducible rfl
  try simp only [Act.put, List.setIfInBounds_toArray, List.set_cons_zero, List.set_cons_succ]
  refine wpAnyH_take (i := 13) (v := ?_) (by simp only [List.getElem?_toArray, List.getElem?_cons_succ, List.getElem?_cons_zero]; rfl) (by kernel_rfl) (by kernel_rfl) (by kernel_rfl) (fun _ _ _ h => h) (Or.inl ⟨by rfl, ?_⟩) (by assumption) ?_
  rotate_left
  · intro w hSw; (try dsimp only at hSw); go_simp; try with_reducible rfl
  try simp only [Act.put, List.setIfInBounds_toArray, List.set_cons_zero, List.set_cons_succ]
  refine wpAnyH_take (i := 15) (v := ?_) (by simp only [List.getElem?_toArray, List.getElem?_cons_succ, List.getElem?_cons_zero]; rfl) (by kernel_rfl) (by kernel_rfl) (by kernel_rfl) (fun _ _ _ h => h) (Or.inl ⟨by rfl, ?_⟩) (by assumption) ?_
  rotate_left
  · intro w hSw; (try dsimp only at hSw); go_simp; try with_reducible rfl
  try simp only [Act.put, List.setIfInBounds_toArray, List.set_cons_zero, List.set_cons_succ]
  refine wpAnyH_take (i := 17) (v := ?_) (by simp only [List.getElem?_toArray, List.getElem?_cons_succ, List.getElem?_cons_zero]; rfl) (by kernel_rfl) (by kernel_rfl) (by kernel_rfl) (fun _ _ _ h => h) (Or.inl ⟨by rfl, ?_⟩) (by assumption) ?_
  rotate_left
  · intro w hSw; (try dsimp only at hSw); go_simp; try with_reducible rfl
  try simp only [Act.put, List.setIfInBounds_toArray, List.set_cons_zero, List.set_cons_succ]
  refine wpAnyH_take (i := 19) (v := ?_) (by simp only [List.getElem?_toArray, List.getElem?_cons_succ, List.getElem?_cons_zero]; rfl) (by kernel_rfl) (by kernel_rfl) (by kernel_rfl) (fun _ _ _ h => h) (Or.inl ⟨by rfl, ?_⟩) (by assumption) ?_
  rotate_left
  · intro w hSw; (try dsimp only at hSw); go_simp; try with_reducible rfl
  try simp only [Act.put, List.setIfInBounds_toArray, List.set_cons_zero, List.set_cons_succ]
  refine wpAnyH_ready (rs := [10]) (by kernel_rfl) (by simp) ?_
  refine AllReadyH.cons rfl (fun K hK => ?_) AllReadyH.nil
  have hOld := hHeld; clear hHeld
  go_simp
  (go_at_call 34; (with_reducible refine (mvCall (b := b) (w0 := w) (by (repeat (first | with_reducible assumption | with_reducible exact Mv.refl (by assumption) (by assumption) | with_reducible apply Mv.alloc | with_reducible apply Mv.drew | with_reducible apply Mv.drewN | ((with_reducible apply Mv.setCell); rotate_left; (first | (dsimp only; omega) | omega | (simp; omega)); (first | (dsimp only; omega) | omega | (simp; omega))) | ((with_reducible apply Mv.below); rotate_left; (with_reducible assumption)) | ((with_reducible apply Mv.trans); rotate_left; (with_reducible assumption))))) (kX _ _)).mono ?_); rintro e w1 ⟨rfl, hM, HM⟩)
  (try go_wp2_with (fail))
  refine hK.out _ _ ⟨(by first | exact mv_cell hM (by first | (dsimp only; omega) | (simp; omega)) hOld.1 | exact cell_later hM hOld.1 | exact HT.cb | exact HT.cc | (simp (maxDischargeDepth := 6) [go_sem, *]; done)), (by first | exact mv_cell hM (by first | (dsimp only; omega) | (simp; omega)) hOld.2.1 | exact cell_later hM hOld.2.1 | exact HT.cb | exact HT.cc | (simp (maxDischargeDepth := 6) [go_sem, *]; done)), (by first | exact mv_cell hM (by first | (dsimp only; omega) | (simp; omega)) hOld.2.2.1 | exact cell_later hM hOld.2.2.1 | exact HT.cb | exact HT.cc | (simp (maxDischargeDepth := 6) [go_sem, *]; done)), (by first | exact mv_cell hM (by first | (dsimp only; omega) | (simp; omega)) hOld.2.2.2.1 | exact cell_later hM hOld.2.2.2.1 | exact HT.cb | exact HT.cc | (simp (maxDischargeDepth := 6) [go_sem, *]; done)), (by first | exact mv_cell hM (by first | (dsimp only; omega) | (simp; omega)) hOld.2.2.2.2.1 | exact cell_later hM hOld.2.2.2.2.1 | exact HT.cb | exact HT.cc | (simp (maxDischargeDepth := 6) [go_sem, *]; done)), (by first | exact mv_cell hM (by first | (dsimp only; omega) | (simp; omega)) hOld.2.2.2.2.2.1 | exact cell_later hM hOld.2.2.2.2.2.1 | exact HT.cb | exact HT.cc | (simp (maxDischargeDepth := 6) [go_sem, *]; done)), (by first | exact mv_cell hM (by first | (dsimp only; omega) | (simp; omega)) hOld.2.2.2.2.2.2.1 | exact cell_later hM hOld.2.2.2.2.2.2.1 | exact HT.cb | exact HT.cc | (simp (maxDischargeDepth := 6) [go_sem, *]; done)), (by first | exact mv_cell hM (by first | (dsimp only; omega) | (simp; omega)) hOld.2.2.2.2.2.2.2 | exact cell_later hM hOld.2.2.2.2.2.2.2 | exact HT.cb | exact HT.cc | (simp (maxDischargeDepth := 6) [go_sem, *]; done))⟩ (fun hHeld => ?_)
  clear hK K hOld
  try simp only [Act.put, List.setIfInBounds_toArray, List.set_cons_zero, List.set_cons_succ]
  (first | have R := Bk.mv hM (by omega) R | have R := Bk.mv hM (by omega) (Bk.drew R) | have R := Bk.mv hM (by omega) (Bk.drew (Bk.alloc R _)))
  refine wpAnyH_ready (rs := [21]) (by kernel_rfl) (by simp) ?_
  refine AllReadyH.cons rfl (fun K hK => ?_) AllReadyH.nil
  have hOld := hHeld; clear hHeld
  go_simp
  (go_at_call 34; (with_reducible refine (mvCall (b := b) (w0 := w) (by (repeat (first | with_reducible assumption | with_reducible exact Mv.refl (by assumption) (by assumption) | with_reducible apply Mv.alloc | with_reducible apply Mv.drew | with_reducible apply Mv.drewN | ((with_reducible apply Mv.setCell); rotate_left; (first | (dsimp only; omega) | omega | (simp; omega)); (first | (dsimp only; omega) | omega | (simp; omega))) | ((with_reducible apply Mv.below); rotate_left; (with_reducible assumption)) | ((with_reducible apply Mv.trans); rotate_left; (with_reducible assumption))))) (kY _ _)).mono ?_); rintro e w1 ⟨rfl, hM, HM⟩)
  (try go_wp2_with (fail))
  refine hK.out _ _ ⟨(by first | exact mv_cell hM (by first | (dsimp only; omega) | (simp; omega)) hOld.1 | exact cell_later hM hOld.1 | exact HT.cb | exact HT.cc | (simp (maxDischargeDepth := 6) [go_sem, *]; done)), (by first | exact mv_cell hM (by first | (dsimp only; omega) | (simp; omega)) hOld.2.1 | exact cell_later hM hOld.2.1 | exact HT.cb | exact HT.cc | (simp (maxDischargeDepth := 6) [go_sem, *]; done)), (by first | exact mv_cell hM (by first | (dsimp only; omega) | (simp; omega)) hOld.2.2.1 | exact cell_later hM hOld.2.2.1 | exact HT.cb | exact HT.cc | (simp (maxDischargeDepth := 6) [go_sem, *]; done)), (by first | exact mv_cell hM (by first | (dsimp only; omega) | (simp; omega)) hOld.2.2.2.1 | exact cell_later hM hOld.2.2.2.1 | exact HT.cb | exact HT.cc | (simp (maxDischargeDepth := 6) [go_sem, *]; done)), (by first | exact mv_cell hM (by first | (dsimp only; omega) | (simp; omega)) hOld.2.2.2.2.1 | exact cell_later hM hOld.2.2.2.2.1 | exact HT.cb | exact HT.cc | (simp (maxDischargeDepth := 6) [go_sem, *]; done)), (by first | exact mv_cell hM (by first | (dsimp only; omega) | (simp; omega)) hOld.2.2.2.2.2.1 | exact cell_later hM hOld.2.2.2.2.2.1 | exact HT.cb | exact HT.cc | (simp (maxDischargeDepth := 6) [go_sem, *]; done)), (by first | exact mv_cell hM (by first | (dsimp only; omega) | (simp; omega)) hOld.2.2.2.2.2.2.1 | exact cell_later hM hOld.2.2.2.2.2.2.1 | exact HT.cb | exact HT.cc | (simp (maxDischargeDepth := 6) [go_sem, *]; done)), (by first | exact mv_cell hM (by first | (dsimp only; omega) | (simp; omega)) hOld.2.2.2.2.2.2.2 | exact cell_later hM hOld.2.2.2.2.2.2.2 | exact HT.cb | exact HT.cc | (simp (maxDischargeDepth := 6) [go_sem, *]; done))⟩ (fun hHeld => ?_)
  clear hK K hOld
  try simp only [Act.put, List.setIfInBounds_toArray, List.set_cons_zero, List.set_cons_succ]
  (first | have R := Bk.mv hM (by omega) R | have R := Bk.mv hM (by omega) (Bk.drew R) | have R := Bk.mv hM (by omega) (Bk.drew (Bk.alloc R _)))
  have C_R := R; simp only [Bk] at C_R
  refine wpAnyH_take (i := 22) (v := ?_) (by simp only [List.getElem?_toArray, List.getElem?_cons_succ, List.getElem?_cons_zero]; rfl) (by kernel_rfl) (by kernel_rfl) (by kernel_rfl) (fun _ _ _ h => h) (Or.inl ⟨by rfl, ?_⟩) (by assumption) ?_
  rotate_left
  · intro w hSw; (try dsimp only at hSw); go_simp; try with_reducible rfl
  try simp only [Act.put, List.setIfInBounds_toArray, List.set_cons_zero, List.set_cons_succ]
  refine wpAnyH_ready (rs := [23]) (by kernel_rfl) (by simp) ?_
  refine AllReadyH.cons rfl (fun K hK => ?_) AllReadyH.nil
  have hOld := hHeld; clear hHeld
  go_simp
  (try go_wp2_with (fail))
  refine hK.out _ _ ⟨(by first | exact mv_cell hM (by first | (dsimp only; omega) | (simp; omega)) hOld.1 | exact cell_later hM hOld.1 | exact HT.cb | exact HT.cc | (simp (maxDischargeDepth := 6) [go_sem, *]; done)), (by first | exact mv_cell hM (by first | (dsimp only; omega) | (simp; omega)) hOld.2.1 | exact cell_later hM hOld.2.1 | exact HT.cb | exact HT.cc | (simp (maxDischargeDepth := 6) [go_sem, *]; done)), (by first | exact mv_cell hM (by first | (dsimp only; omega) | (simp; omega)) hOld.2.2.1 | exact cell_later hM hOld.2.2.1 | exact HT.cb | exact HT.cc | (simp (maxDischargeDepth := 6) [go_sem, *]; done)), (by first | exact mv_cell hM (by first | (dsimp only; omega) | (simp; omega)) hOld.2.2.2.1 | exact cell_later hM hOld.2.2.2.1 | exact HT.cb | exact HT.cc | (simp (maxDischargeDepth := 6) [go_sem, *]; done)), (by first | exact mv_cell hM (by first | (dsimp only; omega) | (simp; omega)) hOld.2.2.2.2.1 | exact cell_later hM hOld.2.2.2.2.1 | exact HT.cb | exact HT.cc | (simp (maxDischargeDepth := 6) [go_sem, *]; done)), (by first | exact mv_cell hM (by first | (dsimp only; omega) | (simp; omega)) hOld.2.2.2.2.2.1 | exact cell_later hM hOld.2.2.2.2.2.1 | exact HT.cb | exact HT.cc | (simp (maxDischargeDepth := 6) [go_sem, *]; done)), (by first | exact mv_cell hM (by first | (dsimp only; omega) | (simp; omega)) hOld.2.2.2.2.2.2.1 | exact cell_later hM hOld.2.2.2.2.2.2.1 | exact HT.cb | exact HT.cc | (simp (maxDischargeDepth := 6) [go_sem, *]; done)), (by first | exact mv_cell hM (by first | (dsimp only; omega) | (simp; omega)) hOld.2.2.2.2.2.2.2 | exact cell_later hM hOld.2.2.2.2.2.2.2 | exact HT.cb | exact HT.cc | (simp (maxDischargeDepth := 6) [go_sem, *]; done))⟩ (fun hHeld => ?_)
  clear hK K hOld
  try simp only [Act.put, List.setIfInBounds_toArray, List.set_cons_zero, List.set_cons_succ]
  refine wpAnyH_done (by kernel_rfl) ?_ _
  (try refine NoPanic.normal ?_)
  (try clear q0); (try clear q1); (try clear q2); (try clear q3); (try clear q4); (try clear q5); (try clear q6); (try clear q7); obtain ⟨q0, q1, q2, q3, q4, q5, q6, q7⟩ := hHeld
  go_wp2
  simp (maxDischargeDepth := 8) [bodyPost, results, Try.results12, go_sem, *]
  (repeat (first | with_reducible assumption | with_reducible exact Mv.refl (by assumption) (by assumption) | with_reducible apply Mv.alloc | with_reducible apply Mv.drew | with_reducible apply Mv.drewN | ((with_reducible apply Mv.setCell); rotate_left; (first | (dsimp only; omega) | omega | (simp; omega)); (first | (dsimp only; omega) | omega | (simp; omega))) | ((with_reducible apply Mv.below); rotate_left; (with_reducible assumption)) | ((with_reducible apply Mv.trans); rotate_left; (with_reducible assumption))))
end Go.Proofs.Ythieinnlpfdemaa
