/- The contract of the document's Matrix (printed by mkx3.py). -/
import Derived.Test.YtjpkkpflamkjkaaX0
import Derived.Test.YtjpkkpflamkjkaaW7
set_option linter.unusedSimpArgs false
set_option linter.unusedVariables false
namespace Go.Proofs.Ytjpkkpflamkjkaa
open Go.RowKit
/-- Does all of the document's matrix fit? -/
def rmk (x0 x1 x2 x3 : Int) : Bool := mlok x1 x1 && mlok x2 x2 && mlok x3 x3 && mlok x1 x2 && mlok x1 x3 && mlok x2 x3 && mlok x0 x1 && mlok x0 x2 && mlok x0 x3 && fx (ml x2 x2 + ml x3 x3) && fx (ml x1 x1 + ml x3 x3) && fx (ml x1 x1 + ml x2 x2) && fx (ml x1 x2 - ml x0 x3) && fx (ml x1 x2 + ml x0 x3) && fx (ml x1 x3 + ml x0 x2) && fx (ml x1 x3 - ml x0 x2) && fx (ml x2 x3 - ml x0 x1) && fx (ml x2 x3 + ml x0 x1) && fx (sat (ml x2 x2 + ml x3 x3) + sat (ml x2 x2 + ml x3 x3)) && fx (4294967296 - sat (sat (ml x2 x2 + ml x3 x3) + sat (ml x2 x2 + ml x3 x3))) && fx (sat (ml x1 x2 - ml x0 x3) + sat (ml x1 x2 - ml x0 x3)) && fx (sat (ml x1 x3 + ml x0 x2) + sat (ml x1 x3 + ml x0 x2)) && fx (sat (ml x1 x2 + ml x0 x3) + sat (ml x1 x2 + ml x0 x3)) && fx (sat (ml x1 x1 + ml x3 x3) + sat (ml x1 x1 + ml x3 x3)) && fx (4294967296 - sat (sat (ml x1 x1 + ml x3 x3) + sat (ml x1 x1 + ml x3 x3))) && fx (sat (ml x2 x3 - ml x0 x1) + sat (ml x2 x3 - ml x0 x1)) && fx (sat (ml x1 x3 - ml x0 x2) + sat (ml x1 x3 - ml x0 x2)) && fx (sat (ml x2 x3 + ml x0 x1) + sat (ml x2 x3 + ml x0 x1)) && fx (sat (ml x1 x1 + ml x2 x2) + sat (ml x1 x1 + ml x2 x2)) && fx (4294967296 - sat (sat (ml x1 x1 + ml x2 x2) + sat (ml x1 x1 + ml x2 x2)))
/-- .. of the program's? -/
def cmk (x0 x1 x2 x3 : Int) : Bool := mok x2 x3 && mnk x1 x2 x0 x3 && mpk x1 x3 x0 x2 && mpk x1 x2 x0 x3 && mok x1 x3 && mnk x2 x3 x0 x1 && mnk x1 x3 x0 x2 && mpk x2 x3 x0 x1 && mok x1 x2
theorem cmk_eq (x0 x1 x2 x3 : Int) : cmk x0 x1 x2 x3 = rmk x0 x1 x2 x3 := by
  unfold cmk rmk mok mnk mpk mp tw
  rw [Bool.eq_iff_iff]
  simp only [Bool.and_eq_true]
  constructor <;> intro h <;> simp only [h, and_self]
set_option maxHeartbeats 16000000 in
set_option maxRecDepth 20000 in
theorem rMatrix (x0 x1 x2 x3 : Int) (b : Nat) (o : Bool) (w : World) (x0_0 : -9223372036854775808 ≤ x0) (x0_1 : x0 ≤ 9223372036854775807) (x1_0 : -9223372036854775808 ≤ x1) (x1_1 : x1 ≤ 9223372036854775807) (x2_0 : -9223372036854775808 ≤ x2) (x2_1 : x2 ≤ 9223372036854775807) (x3_0 : -9223372036854775808 ≤ x3) (x3_1 : x3 ≤ 9223372036854775807) (hc : w.cell? ⟨b, 0, none⟩ = some (.bool o)) (hf : w.frozen? ⟨b, 0, none⟩ = false) :
    Calls Try.prog 10 #[.pointer (some ⟨b, 0, none⟩), .agg #[.int .i64 x0, .int .i64 x1, .int .i64 x2, .int .i64 x3]] w fun e w' => e = .returned (.agg #[.int .i64 (mo x2 x3), .int .i64 (mn x1 x2 x0 x3), .int .i64 (mp x1 x3 x0 x2), .int .i64 (mp x1 x2 x0 x3), .int .i64 (mo x1 x3), .int .i64 (mn x2 x3 x0 x1), .int .i64 (mn x1 x3 x0 x2), .int .i64 (mp x2 x3 x0 x1), .int .i64 (mo x1 x2)]) ∧ Mv b (o || !rmk x0 x1 x2 x3) w w' := by
  have hb := lt_of_cell hc
  have HM := Mv.refl hc hf
  clear hc hf
  have k11 := fun O W => rMl x1 x1 b O W x1_0 x1_1 x1_0 x1_1
  have k22 := fun O W => rMl x2 x2 b O W x2_0 x2_1 x2_0 x2_1
  have k33 := fun O W => rMl x3 x3 b O W x3_0 x3_1 x3_0 x3_1
  have k12 := fun O W => rMl x1 x2 b O W x1_0 x1_1 x2_0 x2_1
  have k13 := fun O W => rMl x1 x3 b O W x1_0 x1_1 x3_0 x3_1
  have k23 := fun O W => rMl x2 x3 b O W x2_0 x2_1 x3_0 x3_1
  have k01 := fun O W => rMl x0 x1 b O W x0_0 x0_1 x1_0 x1_1
  have k02 := fun O W => rMl x0 x2 b O W x0_0 x0_1 x2_0 x2_1
  have k03 := fun O W => rMl x0 x3 b O W x0_0 x0_1 x3_0 x3_1
  unfold mo mn mp tw rmk
  have m11_0 := ml_lo x1 x1; have m11_1 := ml_hi x1 x1
  generalize ml x1 x1 = m11 at *
  generalize mlok x1 x1 = f11 at *
  have m22_0 := ml_lo x2 x2; have m22_1 := ml_hi x2 x2
  generalize ml x2 x2 = m22 at *
  generalize mlok x2 x2 = f22 at *
  have m33_0 := ml_lo x3 x3; have m33_1 := ml_hi x3 x3
  generalize ml x3 x3 = m33 at *
  generalize mlok x3 x3 = f33 at *
  have m12_0 := ml_lo x1 x2; have m12_1 := ml_hi x1 x2
  generalize ml x1 x2 = m12 at *
  generalize mlok x1 x2 = f12 at *
  have m13_0 := ml_lo x1 x3; have m13_1 := ml_hi x1 x3
  generalize ml x1 x3 = m13 at *
  generalize mlok x1 x3 = f13 at *
  have m23_0 := ml_lo x2 x3; have m23_1 := ml_hi x2 x3
  generalize ml x2 x3 = m23 at *
  generalize mlok x2 x3 = f23 at *
  have m01_0 := ml_lo x0 x1; have m01_1 := ml_hi x0 x1
  generalize ml x0 x1 = m01 at *
  generalize mlok x0 x1 = f01 at *
  have m02_0 := ml_lo x0 x2; have m02_1 := ml_hi x0 x2
  generalize ml x0 x2 = m02 at *
  generalize mlok x0 x2 = f02 at *
  have m03_0 := ml_lo x0 x3; have m03_1 := ml_hi x0 x3
  generalize ml x0 x3 = m03 at *
  generalize mlok x0 x3 = f03 at *
  have ka := fun O W => rFAdd m22 m33 b O W (by omega) (by omega) (by omega) (by omega)
  have sa_0 := sat_lo (m22 + m33); have sa_1 := sat_hi (m22 + m33)
  generalize sat (m22 + m33) = sa at *
  generalize fx (m22 + m33) = fa at *
  have kb := fun O W => rFAdd m11 m33 b O W (by omega) (by omega) (by omega) (by omega)
  have sb_0 := sat_lo (m11 + m33); have sb_1 := sat_hi (m11 + m33)
  generalize sat (m11 + m33) = sb at *
  generalize fx (m11 + m33) = fb at *
  have kc := fun O W => rFAdd m11 m22 b O W (by omega) (by omega) (by omega) (by omega)
  have sc_0 := sat_lo (m11 + m22); have sc_1 := sat_hi (m11 + m22)
  generalize sat (m11 + m22) = sc at *
  generalize fx (m11 + m22) = fc at *
  have kd := fun O W => rFSub m12 m03 b O W (by omega) (by omega) (by omega) (by omega)
  have sd_0 := sat_lo (m12 - m03); have sd_1 := sat_hi (m12 - m03)
  generalize sat (m12 - m03) = sd at *
  generalize fx (m12 - m03) = fd at *
  have ke := fun O W => rFAdd m12 m03 b O W (by omega) (by omega) (by omega) (by omega)
  have se_0 := sat_lo (m12 + m03); have se_1 := sat_hi (m12 + m03)
  generalize sat (m12 + m03) = se at *
  generalize fx (m12 + m03) = fe at *
  have kf := fun O W => rFAdd m13 m02 b O W (by omega) (by omega) (by omega) (by omega)
  have sf_0 := sat_lo (m13 + m02); have sf_1 := sat_hi (m13 + m02)
  generalize sat (m13 + m02) = sf at *
  generalize fx (m13 + m02) = ff at *
  have kg := fun O W => rFSub m13 m02 b O W (by omega) (by omega) (by omega) (by omega)
  have sg_0 := sat_lo (m13 - m02); have sg_1 := sat_hi (m13 - m02)
  generalize sat (m13 - m02) = sg at *
  generalize fx (m13 - m02) = fg at *
  have kh := fun O W => rFSub m23 m01 b O W (by omega) (by omega) (by omega) (by omega)
  have sh_0 := sat_lo (m23 - m01); have sh_1 := sat_hi (m23 - m01)
  generalize sat (m23 - m01) = sh at *
  generalize fx (m23 - m01) = fh at *
  have ki := fun O W => rFAdd m23 m01 b O W (by omega) (by omega) (by omega) (by omega)
  have si_0 := sat_lo (m23 + m01); have si_1 := sat_hi (m23 + m01)
  generalize sat (m23 + m01) = si at *
  generalize fx (m23 + m01) = fi at *
  have k2a := fun O W => rFAdd sa sa b O W (by omega) (by omega) (by omega) (by omega)
  have ta_0 := sat_lo (sa + sa); have ta_1 := sat_hi (sa + sa)
  generalize sat (sa + sa) = ta at *
  generalize fx (sa + sa) = ga at *
  have k3a := fun O W => rFSub 4294967296 ta b O W (by omega) (by omega) (by omega) (by omega)
  generalize sat (4294967296 - ta) = ua at *
  generalize fx (4294967296 - ta) = ha at *
  have k2d := fun O W => rFAdd sd sd b O W (by omega) (by omega) (by omega) (by omega)
  have td_0 := sat_lo (sd + sd); have td_1 := sat_hi (sd + sd)
  generalize sat (sd + sd) = td at *
  generalize fx (sd + sd) = gd at *
  have k2f := fun O W => rFAdd sf sf b O W (by omega) (by omega) (by omega) (by omega)
  have tf_0 := sat_lo (sf + sf); have tf_1 := sat_hi (sf + sf)
  generalize sat (sf + sf) = tf at *
  generalize fx (sf + sf) = gf at *
  have k2e := fun O W => rFAdd se se b O W (by omega) (by omega) (by omega) (by omega)
  have te_0 := sat_lo (se + se); have te_1 := sat_hi (se + se)
  generalize sat (se + se) = te at *
  generalize fx (se + se) = ge at *
  have k2b := fun O W => rFAdd sb sb b O W (by omega) (by omega) (by omega) (by omega)
  have tb_0 := sat_lo (sb + sb); have tb_1 := sat_hi (sb + sb)
  generalize sat (sb + sb) = tb at *
  generalize fx (sb + sb) = gb at *
  have k3b := fun O W => rFSub 4294967296 tb b O W (by omega) (by omega) (by omega) (by omega)
  generalize sat (4294967296 - tb) = ub at *
  generalize fx (4294967296 - tb) = hb at *
  have k2h := fun O W => rFAdd sh sh b O W (by omega) (by omega) (by omega) (by omega)
  have th_0 := sat_lo (sh + sh); have th_1 := sat_hi (sh + sh)
  generalize sat (sh + sh) = th at *
  generalize fx (sh + sh) = gh at *
  have k2g := fun O W => rFAdd sg sg b O W (by omega) (by omega) (by omega) (by omega)
  have tg_0 := sat_lo (sg + sg); have tg_1 := sat_hi (sg + sg)
  generalize sat (sg + sg) = tg at *
  generalize fx (sg + sg) = gg at *
  have k2i := fun O W => rFAdd si si b O W (by omega) (by omega) (by omega) (by omega)
  have ti_0 := sat_lo (si + si); have ti_1 := sat_hi (si + si)
  generalize sat (si + si) = ti at *
  generalize fx (si + si) = gi at *
  have k2c := fun O W => rFAdd sc sc b O W (by omega) (by omega) (by omega) (by omega)
  have tc_0 := sat_lo (sc + sc); have tc_1 := sat_hi (sc + sc)
  generalize sat (sc + sc) = tc at *
  generalize fx (sc + sc) = gc at *
  have k3c := fun O W => rFSub 4294967296 tc b O W (by omega) (by omega) (by omega) (by omega)
  generalize sat (4294967296 - tc) = uc at *
  generalize fx (4294967296 - tc) = hc at *
  clear m11_0 m11_1 m22_0 m22_1 m33_0 m33_1 m12_0 m12_1 m13_0 m13_1 m23_0 m23_1 m01_0 m01_1 m02_0 m02_1 m03_0 m03_1 sa_0 sa_1 sd_0 sd_1 sf_0 sf_1 se_0 se_1 sb_0 sb_1 sh_0 sh_1 sg_0 sg_1 si_0 si_1 sc_0 sc_1 ta_0 ta_1 td_0 td_1 tf_0 tf_1 te_0 te_1 tb_0 tb_1 th_0 th_1 tg_0 tg_1 ti_0 ti_1 tc_0 tc_1 x0_0 x0_1 x1_0 x1_1 x2_0 x2_1 x3_0 x3_1
  have hR0 : ∀ W : World, ((W.alloc (.cells #[.int .i64 x0, .int .i64 x1, .int .i64 x2, .int .i64 x3] 24)).alloc (.cells #[.int .i64 0, .int .i64 0, .int .i64 0, .int .i64 0, .int .i64 0, .int .i64 0, .int .i64 0, .int .i64 0, .int .i64 0] 33)).heap[W.heap.size + 1]? = some (.cells #[.int .i64 0, .int .i64 0, .int .i64 0, .int .i64 0, .int .i64 0, .int .i64 0, .int .i64 0, .int .i64 0, .int .i64 0] 33 (0, 0)) := fun W => by have := row_new (W.alloc (.cells #[.int .i64 x0, .int .i64 x1, .int .i64 x2, .int .i64 x3] 24)) (.cells #[.int .i64 0, .int .i64 0, .int .i64 0, .int .i64 0, .int .i64 0, .int .i64 0, .int .i64 0, .int .i64 0, .int .i64 0] 33); simpa only [World.size_alloc] using this
  go_enter Try.func10, Try.ntmps10
  go_wp2_with (fail)
  generalize hW : World.alloc _ _ = W1
  have hR : W1.heap[w.heap.size + 1]? = some (.cells #[.int .i64 0, .int .i64 0, .int .i64 0, .int .i64 0, .int .i64 0, .int .i64 0, .int .i64 0, .int .i64 0, .int .i64 0] 33 (0, 0)) := by rw [← hW]; exact hR0 w
  have q0 : W1.cell? ⟨w.heap.size, 0, none⟩ = some (.int .i64 x0) := by rw [← hW]; simp [go_sem]
  have q1 : W1.cell? ⟨w.heap.size, 1, none⟩ = some (.int .i64 x1) := by rw [← hW]; simp [go_sem]
  have q2 : W1.cell? ⟨w.heap.size, 2, none⟩ = some (.int .i64 x2) := by rw [← hW]; simp [go_sem]
  have q3 : W1.cell? ⟨w.heap.size, 3, none⟩ = some (.int .i64 x3) := by rw [← hW]; simp [go_sem]
  have HM : Mv b o w W1 := by rw [← hW]; exact (HM.alloc _).alloc _
  clear hW hR0
  (with_reducible refine (mvCall (b := b) (w0 := w) HM (k11 _ _)).mono ?_); rintro e w1 ⟨rfl, hM, HM⟩
  have q0 := mv_cell hM (by dsimp only; omega) q0
  have q1 := mv_cell hM (by dsimp only; omega) q1
  have q2 := mv_cell hM (by dsimp only; omega) q2
  have q3 := mv_cell hM (by dsimp only; omega) q3
  have hR := row_mv (g := w.heap.size + 1) hM hR (by omega)
  clear hM k11
  go_wp2_with (fail)
  (with_reducible refine (mvCall (b := b) (w0 := w) HM (k22 _ _)).mono ?_); rintro e w1 ⟨rfl, hM, HM⟩
  have q0 := mv_cell hM (by dsimp only; omega) q0
  have q1 := mv_cell hM (by dsimp only; omega) q1
  have q2 := mv_cell hM (by dsimp only; omega) q2
  have q3 := mv_cell hM (by dsimp only; omega) q3
  have hR := row_mv (g := w.heap.size + 1) hM hR (by omega)
  clear hM k22
  go_wp2_with (fail)
  (with_reducible refine (mvCall (b := b) (w0 := w) HM (k33 _ _)).mono ?_); rintro e w1 ⟨rfl, hM, HM⟩
  have q0 := mv_cell hM (by dsimp only; omega) q0
  have q1 := mv_cell hM (by dsimp only; omega) q1
  have q2 := mv_cell hM (by dsimp only; omega) q2
  have q3 := mv_cell hM (by dsimp only; omega) q3
  have hR := row_mv (g := w.heap.size + 1) hM hR (by omega)
  clear hM k33
  go_wp2_with (fail)
  (with_reducible refine (mvCall (b := b) (w0 := w) HM (k12 _ _)).mono ?_); rintro e w1 ⟨rfl, hM, HM⟩
  have q0 := mv_cell hM (by dsimp only; omega) q0
  have q1 := mv_cell hM (by dsimp only; omega) q1
  have q2 := mv_cell hM (by dsimp only; omega) q2
  have q3 := mv_cell hM (by dsimp only; omega) q3
  have hR := row_mv (g := w.heap.size + 1) hM hR (by omega)
  clear hM k12
  go_wp2_with (fail)
  (with_reducible refine (mvCall (b := b) (w0 := w) HM (k13 _ _)).mono ?_); rintro e w1 ⟨rfl, hM, HM⟩
  have q0 := mv_cell hM (by dsimp only; omega) q0
  have q1 := mv_cell hM (by dsimp only; omega) q1
  have q2 := mv_cell hM (by dsimp only; omega) q2
  have q3 := mv_cell hM (by dsimp only; omega) q3
  have hR := row_mv (g := w.heap.size + 1) hM hR (by omega)
  clear hM k13
  go_wp2_with (fail)
  (with_reducible refine (mvCall (b := b) (w0 := w) HM (k23 _ _)).mono ?_); rintro e w1 ⟨rfl, hM, HM⟩
  have q0 := mv_cell hM (by dsimp only; omega) q0
  have q1 := mv_cell hM (by dsimp only; omega) q1
  have q2 := mv_cell hM (by dsimp only; omega) q2
  have q3 := mv_cell hM (by dsimp only; omega) q3
  have hR := row_mv (g := w.heap.size + 1) hM hR (by omega)
  clear hM k23
  go_wp2_with (fail)
  (with_reducible refine (mvCall (b := b) (w0 := w) HM (k01 _ _)).mono ?_); rintro e w1 ⟨rfl, hM, HM⟩
  have q0 := mv_cell hM (by dsimp only; omega) q0
  have q1 := mv_cell hM (by dsimp only; omega) q1
  have q2 := mv_cell hM (by dsimp only; omega) q2
  have q3 := mv_cell hM (by dsimp only; omega) q3
  have hR := row_mv (g := w.heap.size + 1) hM hR (by omega)
  clear hM k01
  go_wp2_with (fail)
  (with_reducible refine (mvCall (b := b) (w0 := w) HM (k02 _ _)).mono ?_); rintro e w1 ⟨rfl, hM, HM⟩
  have q0 := mv_cell hM (by dsimp only; omega) q0
  have q1 := mv_cell hM (by dsimp only; omega) q1
  have q2 := mv_cell hM (by dsimp only; omega) q2
  have q3 := mv_cell hM (by dsimp only; omega) q3
  have hR := row_mv (g := w.heap.size + 1) hM hR (by omega)
  clear hM k02
  go_wp2_with (fail)
  (with_reducible refine (mvCall (b := b) (w0 := w) HM (k03 _ _)).mono ?_); rintro e w1 ⟨rfl, hM, HM⟩
  clear q0 q1 q2 q3
  have hR := row_mv (g := w.heap.size + 1) hM hR (by omega)
  clear hM k03
  go_wp2_with (fail)
  (with_reducible refine (mvCall (b := b) (w0 := w) HM (ka _ _)).mono ?_); rintro e w1 ⟨rfl, hM, HM⟩
  have hR := row_mv (g := w.heap.size + 1) hM hR (by omega)
  clear hM ka
  go_wp2_with (fail)
  (with_reducible refine (mvCall (b := b) (w0 := w) HM (kb _ _)).mono ?_); rintro e w1 ⟨rfl, hM, HM⟩
  have hR := row_mv (g := w.heap.size + 1) hM hR (by omega)
  clear hM kb
  go_wp2_with (fail)
  (with_reducible refine (mvCall (b := b) (w0 := w) HM (kc _ _)).mono ?_); rintro e w1 ⟨rfl, hM, HM⟩
  have hR := row_mv (g := w.heap.size + 1) hM hR (by omega)
  clear hM kc
  go_wp2_with (fail)
  (with_reducible refine (mvCall (b := b) (w0 := w) HM (kd _ _)).mono ?_); rintro e w1 ⟨rfl, hM, HM⟩
  have hR := row_mv (g := w.heap.size + 1) hM hR (by omega)
  clear hM kd
  go_wp2_with (fail)
  (with_reducible refine (mvCall (b := b) (w0 := w) HM (ke _ _)).mono ?_); rintro e w1 ⟨rfl, hM, HM⟩
  have hR := row_mv (g := w.heap.size + 1) hM hR (by omega)
  clear hM ke
  go_wp2_with (fail)
  (with_reducible refine (mvCall (b := b) (w0 := w) HM (kf _ _)).mono ?_); rintro e w1 ⟨rfl, hM, HM⟩
  have hR := row_mv (g := w.heap.size + 1) hM hR (by omega)
  clear hM kf
  go_wp2_with (fail)
  (with_reducible refine (mvCall (b := b) (w0 := w) HM (kg _ _)).mono ?_); rintro e w1 ⟨rfl, hM, HM⟩
  have hR := row_mv (g := w.heap.size + 1) hM hR (by omega)
  clear hM kg
  go_wp2_with (fail)
  (with_reducible refine (mvCall (b := b) (w0 := w) HM (kh _ _)).mono ?_); rintro e w1 ⟨rfl, hM, HM⟩
  have hR := row_mv (g := w.heap.size + 1) hM hR (by omega)
  clear hM kh
  go_wp2_with (fail)
  (with_reducible refine (mvCall (b := b) (w0 := w) HM (ki _ _)).mono ?_); rintro e w1 ⟨rfl, hM, HM⟩
  have hR := row_mv (g := w.heap.size + 1) hM hR (by omega)
  clear hM ki
  go_wp2_with (fail)
  (with_reducible refine (mvCall (b := b) (w0 := w) HM (k2a _ _)).mono ?_); rintro e w1 ⟨rfl, hM, HM⟩
  have hR := row_mv (g := w.heap.size + 1) hM hR (by omega)
  clear hM k2a
  go_wp2_with (fail)
  (with_reducible refine (mvCall (b := b) (w0 := w) HM (k3a _ _)).mono ?_); rintro e w1 ⟨rfl, hM, HM⟩
  have hR := row_mv (g := w.heap.size + 1) hM hR (by omega)
  clear hM k3a
  go_wp2_with (fail)
  (with_reducible refine (mvCall (b := b) (w0 := w) HM (k2d _ _)).mono ?_); rintro e w1 ⟨rfl, hM, HM⟩
  have hR := row_mv (g := w.heap.size + 1) hM hR (by omega)
  clear hM k2d
  go_wp2_with (fail)
  (with_reducible refine (mvCall (b := b) (w0 := w) HM (k2f _ _)).mono ?_); rintro e w1 ⟨rfl, hM, HM⟩
  have hR := row_mv (g := w.heap.size + 1) hM hR (by omega)
  clear hM k2f
  go_wp2_with (fail)
  (with_reducible refine (mvCall (b := b) (w0 := w) HM (k2e _ _)).mono ?_); rintro e w1 ⟨rfl, hM, HM⟩
  have hR := row_mv (g := w.heap.size + 1) hM hR (by omega)
  clear hM k2e
  go_wp2_with (fail)
  (with_reducible refine (mvCall (b := b) (w0 := w) HM (k2b _ _)).mono ?_); rintro e w1 ⟨rfl, hM, HM⟩
  have hR := row_mv (g := w.heap.size + 1) hM hR (by omega)
  clear hM k2b
  go_wp2_with (fail)
  (with_reducible refine (mvCall (b := b) (w0 := w) HM (k3b _ _)).mono ?_); rintro e w1 ⟨rfl, hM, HM⟩
  have hR := row_mv (g := w.heap.size + 1) hM hR (by omega)
  clear hM k3b
  go_wp2_with (fail)
  (with_reducible refine (mvCall (b := b) (w0 := w) HM (k2h _ _)).mono ?_); rintro e w1 ⟨rfl, hM, HM⟩
  have hR := row_mv (g := w.heap.size + 1) hM hR (by omega)
  clear hM k2h
  go_wp2_with (fail)
  (with_reducible refine (mvCall (b := b) (w0 := w) HM (k2g _ _)).mono ?_); rintro e w1 ⟨rfl, hM, HM⟩
  have hR := row_mv (g := w.heap.size + 1) hM hR (by omega)
  clear hM k2g
  go_wp2_with (fail)
  (with_reducible refine (mvCall (b := b) (w0 := w) HM (k2i _ _)).mono ?_); rintro e w1 ⟨rfl, hM, HM⟩
  have hR := row_mv (g := w.heap.size + 1) hM hR (by omega)
  clear hM k2i
  go_wp2_with (fail)
  (with_reducible refine (mvCall (b := b) (w0 := w) HM (k2c _ _)).mono ?_); rintro e w1 ⟨rfl, hM, HM⟩
  have hR := row_mv (g := w.heap.size + 1) hM hR (by omega)
  clear hM k2c
  go_wp2_with (fail)
  (with_reducible refine (mvCall (b := b) (w0 := w) HM (k3c _ _)).mono ?_); rintro e w1 ⟨rfl, hM, HM⟩
  have hR := row_mv (g := w.heap.size + 1) hM hR (by omega)
  clear hM k3c
  go_wp2_with (refine wpList_store_row rfl 33 _ _ rfl (w.heap.size + 1) #[.int .i64 ua, .int .i64 td, .int .i64 tf, .int .i64 te, .int .i64 ub, .int .i64 th, .int .i64 tg, .int .i64 ti, .int .i64 uc] (by rfl) (by rfl) 33 _ hR (by kernel_rfl) rfl (by simp [Value.oneCell']) ?_)
  have hR := row_put #[.int .i64 ua, .int .i64 td, .int .i64 tf, .int .i64 te, .int .i64 ub, .int .i64 th, .int .i64 tg, .int .i64 ti, .int .i64 uc] hR
  refine bodyPost_ret (results_cell_row rfl _ _ (w.heap.size + 1) 33 #[.int .i64 ua, .int .i64 td, .int .i64 tf, .int .i64 te, .int .i64 ub, .int .i64 th, .int .i64 tg, .int .i64 ti, .int .i64 uc] (0, 0) _ (by rfl) hR Try.underlying33 rfl (by kernel_rfl)) rfl ⟨rfl, ?_⟩
  exact Mv.cast (HM.row (by omega) (by omega) _) (by simp only [Bool.not_and, Bool.or_assoc])
end Go.Proofs.Ytjpkkpflamkjkaa
