/- The contracts of root's lengths: the sum of squares, its root, and whether all fits. -/
import Derived.Test.YtjpkkpflamkjkaaF2
import Derived.LoopN
import Derived.Deep.CutBlock
import Derived.Deep.RegionWith
set_option linter.unusedSimpArgs false
set_option linter.unusedVariables false
namespace Go.Proofs.Ytjpkkpflamkjkaa
open Go.RowKit
set_option linter.unnecessarySimpa false
/-- Does the length fit? -/
def lnok (S : Int) : Bool := fw S && decide (rt S ≤ 9223372036854775807)
/-- The length. -/
def ln (S : Int) : Int := if lnok S = true then rt S else 9223372036854775807
def Sm (w wx : World) (s : Int) : Prop := Below w.heap.size w wx ∧ w.heap.size + 1 ≤ wx.heap.size ∧ wx.cell? ⟨w.heap.size, 0, none⟩ = some (.int .i64 (hw s)) ∧ wx.cell? ⟨w.heap.size, 1, none⟩ = some (.int .u64 (lw s)) ∧
  wx.frozen? ⟨w.heap.size, 0, none⟩ = false ∧ wx.frozen? ⟨w.heap.size, 1, none⟩ = false
theorem sq_bd (x : Int) (x0 : -9223372036854775808 ≤ x) (x1 : x ≤ 9223372036854775807) : 0 ≤ x * x ∧ x * x ≤ 85070591730234615865843651857942052864 := by
  have h := Int.mul_le_mul (a := (x.natAbs : Int)) (b := (x.natAbs : Int)) (c := 9223372036854775808) (d := 9223372036854775808) (by omega) (by omega) (by omega) (by decide)
  have e : (x.natAbs : Int) * (x.natAbs : Int) = x * x := by
    rcases (show (x.natAbs : Int) = x ∨ (x.natAbs : Int) = -x by omega) with h | h
    · rw [h]
    · rw [h]; exact Int.neg_mul_neg x x
  rw [e] at h
  exact ⟨by rw [← e]; exact Int.mul_nonneg (by omega) (by omega), h⟩
theorem rt_w (T : Int) (h : rt T ≤ 9223372036854775807) : wrap64 (rt T) = rt T := by
  have h0 : 0 ≤ rt T := Int.natCast_nonneg _
  generalize rt T = r at *
  unfold wrap64; omega
theorem fw_yes' (n : Int) (h0 : 0 ≤ n) (h1 : n ≤ 170141183460469231731687303715884105727) : fw n = true := decide_eq_true (by omega)
theorem fw_no' (n : Int) (h1 : 170141183460469231731687303715884105727 < n) : fw n = false := decide_eq_false (by omega)
theorem frz_later {a : Addr} {v : Value} {W w1 : World} (hb : Below W.heap.size W w1) (q : W.cell? a = some v) (f : W.frozen? a = false) : w1.frozen? a = false := by
  rw [bfrozen hb a (by rw [q]; rfl)]; exact f
theorem Sm.put {w w2 : World} {u v : Value} (b2 : Below w.heap.size w w2) (bz : w.heap.size + 1 ≤ w2.heap.size) (m0 : w2.cell? ⟨w.heap.size, 0, none⟩ = some u) (m1 : w2.cell? ⟨w.heap.size, 1, none⟩ = some v) (h0 : w2.frozen? ⟨w.heap.size, 0, none⟩ = false) (h1 : w2.frozen? ⟨w.heap.size, 1, none⟩ = false) (s : Int) :
    Sm w ((w2.setCell ⟨w.heap.size, 0, none⟩ (.int .i64 (hw s))).setCell ⟨w.heap.size, 1, none⟩ (.int .u64 (lw s))) s := by
  refine ⟨(b2.setCell (Nat.le_refl _) _).setCell (Nat.le_refl _) _, by simpa using bz, ?_, ?_, ?_, ?_⟩ <;> simp (maxDischargeDepth := 6) [go_sem, *]
set_option maxHeartbeats 4000000 in
theorem cLength3 (q : Nat) (x y z : Int) (b : Nat) (o : Bool) (w : World) (x0 : -9223372036854775808 ≤ x) (x1 : x ≤ 9223372036854775807) (y0 : -9223372036854775808 ≤ y) (y1 : y ≤ 9223372036854775807) (z0 : -9223372036854775808 ≤ z) (z1 : z ≤ 9223372036854775807)
    (hc : w.cell? ⟨b, 0, none⟩ = some (.bool o)) (hf : w.frozen? ⟨b, 0, none⟩ = false) (hq0 : w.cell? ⟨q, 0, none⟩ = some (.int .i64 x)) (hq1 : w.cell? ⟨q, 1, none⟩ = some (.int .i64 y)) (hq2 : w.cell? ⟨q, 2, none⟩ = some (.int .i64 z)) :
    Calls Try.prog 71 #[.pointer (some ⟨b, 0, none⟩), .slice (some ⟨q, 0, none⟩) 3 3] w fun e w' => e = .returned (.int .i64 (ln (x * x + y * y + z * z))) ∧ Mv b (o || !lnok (x * x + y * y + z * z)) w w' := by
  obtain ⟨sx0, sx1⟩ := sq_bd x x0 x1
  obtain ⟨Qx, hQx⟩ : ∃ t, x * x = t := ⟨_, rfl⟩
  rw [hQx] at sx0 sx1
  obtain ⟨sy0, sy1⟩ := sq_bd y y0 y1
  obtain ⟨Qy, hQy⟩ : ∃ t, y * y = t := ⟨_, rfl⟩
  rw [hQy] at sy0 sy1
  obtain ⟨sz0, sz1⟩ := sq_bd z z0 z1
  obtain ⟨Qz, hQz⟩ : ∃ t, z * z = t := ⟨_, rfl⟩
  rw [hQz] at sz0 sz1
  rw [hQx, hQy, hQz]
  obtain ⟨T, hT⟩ : ∃ t, Qx + Qy + Qz = t := ⟨_, rfl⟩
  rw [hT]
  have hb := World.block_lt_of_cell? w _ hc
  have hqb := World.block_lt_of_cell? w _ hq0
  dsimp only at hb hqb
  have HT := Lib.hid hT
  clear hT
  obtain ⟨R, hR⟩ : ∃ t, ln T = t := ⟨_, rfl⟩
  obtain ⟨O, hO⟩ : ∃ t, lnok T = t := ⟨_, rfl⟩
  rw [hR, hO]
  have HRO := Lib.hid (And.intro hR hO)
  clear hR hO
  go_enter Try.func71, Try.ntmps71
  go_upto_block 0 with (fail)
  go_cut [6] (fun a wx => a = .bool (fw T) ∧ Sm w wx (cw T))
  case first =>
    go_wp2_with (fail)
    refine wp_loop_rounds 4 ?_
    rw [rounds_succ]
    go_upto_region 6 with (fail)
    have hS : Sm w (w.alloc (Obj.cells #[.int .i64 0, .int .u64 0] 76)) 0 := ⟨by (repeat (first | with_reducible assumption | with_reducible exact Below.refl _ _ | ((with_reducible refine Below.setCell ?_ ?_ _); rotate_left; (first | exact Nat.le_refl _ | (dsimp only; omega) | (simp; done) | (simp; omega))) | with_reducible refine below_alloc ?_ _ | with_reducible apply below_drewN | with_reducible apply Below.drew | with_reducible refine below_step ?_ (by assumption))), by simp, by simp [go_sem]; decide, by simp [go_sem]; decide, by simp [go_sem], by simp [go_sem]⟩
    obtain ⟨b0, bz, c0, c1, f0, f1⟩ := hS
    go_cut [6] (fun a wx => a = .bool (fw Qx) ∧ Sm w wx (cw Qx))
    case first =>
      go_region_with (first
        | (go_at_call 66; refine (cWMul _ _ _ (by omega) (by omega) (by omega) (by omega)).mono ?_; rintro e w1 ⟨rfl, hB⟩; have k0 := cell_later (a := ⟨w.heap.size, 0, none⟩) (v := .int .i64 (hw 0)) hB (by simpa using c0); have k1 := cell_later (a := ⟨w.heap.size, 1, none⟩) (v := .int .u64 (lw 0)) hB (by simpa using c1); have g0 := frz_later (a := ⟨w.heap.size, 0, none⟩) (v := .int .i64 (hw 0)) hB (by simpa using c0) (by simpa using f0); have g1 := frz_later (a := ⟨w.heap.size, 1, none⟩) (v := .int .u64 (lw 0)) hB (by simpa using c1) (by simpa using f1); have bz1 := hB.size; have b1 := below_step b0.drew hB)
        | (go_at_call 56; refine (nWAdd _ _ _ (by omega) (by omega) (by omega) (by omega)).mono ?_; rintro e w2 ⟨rfl, hB2⟩; have m0 := cell_later hB2 k0; have m1 := cell_later hB2 k1; have h0 := frz_later hB2 k0 g0; have h1 := frz_later hB2 k1 g1; have bz2 := hB2.size; have b2 := below_step b1 hB2))
      all_goals go_wp2
      all_goals go_meet
      all_goals exact ⟨rfl, Sm.put b2 (by have t2 := bz2; have t1 := bz1; have t0 := bz; simp at t1; (try simp at t0); omega) m0 m1 h0 h1 _⟩
    case rest =>
      obtain ⟨rfl, hS⟩ := hcut
      by_cases hov : 170141183460469231731687303715884105727 < Qx
      · have fT : fw T = false := fw_no' _ (by have := HT.out; omega)
        have cT : cw T = 0 := by unfold cw; rw [fT]; rfl
        have e1 : fw Qx = false := fw_no' _ hov
        have e2 : cw Qx = 0 := by unfold cw; rw [e1]; rfl
        rw [e2] at hS
        rw [e1]
        go_wp2
        go_meet
        case rel => exact ⟨by rw [fT], by rw [cT]; exact hS⟩
      have e1 : fw Qx = true := fw_yes' _ (by omega) (by omega)
      have e2 : cw Qx = Qx := by unfold cw; rw [e1]; rfl
      rw [e2] at hS
      rw [e1]
      have hqq1 := (hS.1.cell (p := ⟨q, 1, none⟩) (by dsimp only; omega)).trans hq1
      clear e1 e2 b0 bz c0 c1 f0 f1
      go_wp2
      rw [rounds_succ]
      go_upto_region 6 with (fail)
      obtain ⟨s2, hs2⟩ : ∃ t, Qx + Qy = t := ⟨_, rfl⟩
      obtain ⟨b0, bz, c0, c1, f0, f1⟩ := hS
      go_cut [6] (fun a wx => a = .bool (fw s2) ∧ Sm w wx (cw s2))
      case first =>
        go_region_with (first
          | (go_at_call 66; refine (cWMul _ _ _ (by omega) (by omega) (by omega) (by omega)).mono ?_; rintro e w1 ⟨rfl, hB⟩; have k0 := cell_later (a := ⟨w.heap.size, 0, none⟩) (v := .int .i64 (hw Qx)) hB (by simpa using c0); have k1 := cell_later (a := ⟨w.heap.size, 1, none⟩) (v := .int .u64 (lw Qx)) hB (by simpa using c1); have g0 := frz_later (a := ⟨w.heap.size, 0, none⟩) (v := .int .i64 (hw Qx)) hB (by simpa using c0) (by simpa using f0); have g1 := frz_later (a := ⟨w.heap.size, 1, none⟩) (v := .int .u64 (lw Qx)) hB (by simpa using c1) (by simpa using f1); have bz1 := hB.size; have b1 := below_step b0.drew hB)
          | (go_at_call 56; refine (nWAdd _ _ _ (by omega) (by omega) (by omega) (by omega)).mono ?_; rintro e w2 ⟨rfl, hB2⟩; have m0 := cell_later hB2 k0; have m1 := cell_later hB2 k1; have h0 := frz_later hB2 k0 g0; have h1 := frz_later hB2 k1 g1; have bz2 := hB2.size; have b2 := below_step b1 hB2))
        all_goals go_wp2
        all_goals go_meet
        all_goals exact ⟨rfl, Sm.put b2 (by have t2 := bz2; have t1 := bz1; have t0 := bz; simp at t1; (try simp at t0); omega) m0 m1 h0 h1 _⟩
      case rest =>
        obtain ⟨rfl, hS⟩ := hcut
        by_cases hov : 170141183460469231731687303715884105727 < s2
        · have fT : fw T = false := fw_no' _ (by have := HT.out; omega)
          have cT : cw T = 0 := by unfold cw; rw [fT]; rfl
          have e1 : fw s2 = false := fw_no' _ hov
          have e2 : cw s2 = 0 := by unfold cw; rw [e1]; rfl
          rw [e2] at hS
          rw [e1]
          go_wp2
          go_meet
          case rel => exact ⟨by rw [fT], by rw [cT]; exact hS⟩
        have e1 : fw s2 = true := fw_yes' _ (by omega) (by omega)
        have e2 : cw s2 = s2 := by unfold cw; rw [e1]; rfl
        rw [e2] at hS
        rw [e1]
        have hqq2 := (hS.1.cell (p := ⟨q, 2, none⟩) (by dsimp only; omega)).trans hq2
        clear e1 e2 b0 bz c0 c1 f0 f1
        go_wp2
        rw [rounds_succ]
        go_upto_region 6 with (fail)
        obtain ⟨s3, hs3⟩ : ∃ t, s2 + Qz = t := ⟨_, rfl⟩
        obtain ⟨b0, bz, c0, c1, f0, f1⟩ := hS
        go_cut [6] (fun a wx => a = .bool (fw s3) ∧ Sm w wx (cw s3))
        case first =>
          go_region_with (first
            | (go_at_call 66; refine (cWMul _ _ _ (by omega) (by omega) (by omega) (by omega)).mono ?_; rintro e w1 ⟨rfl, hB⟩; have k0 := cell_later (a := ⟨w.heap.size, 0, none⟩) (v := .int .i64 (hw s2)) hB (by simpa using c0); have k1 := cell_later (a := ⟨w.heap.size, 1, none⟩) (v := .int .u64 (lw s2)) hB (by simpa using c1); have g0 := frz_later (a := ⟨w.heap.size, 0, none⟩) (v := .int .i64 (hw s2)) hB (by simpa using c0) (by simpa using f0); have g1 := frz_later (a := ⟨w.heap.size, 1, none⟩) (v := .int .u64 (lw s2)) hB (by simpa using c1) (by simpa using f1); have bz1 := hB.size; have b1 := below_step b0.drew hB)
            | (go_at_call 56; refine (nWAdd _ _ _ (by omega) (by omega) (by omega) (by omega)).mono ?_; rintro e w2 ⟨rfl, hB2⟩; have m0 := cell_later hB2 k0; have m1 := cell_later hB2 k1; have h0 := frz_later hB2 k0 g0; have h1 := frz_later hB2 k1 g1; have bz2 := hB2.size; have b2 := below_step b1 hB2))
          all_goals go_wp2
          all_goals go_meet
          all_goals exact ⟨rfl, Sm.put b2 (by have t2 := bz2; have t1 := bz1; have t0 := bz; simp at t1; (try simp at t0); omega) m0 m1 h0 h1 _⟩
        case rest =>
          obtain ⟨rfl, hS⟩ := hcut
          by_cases hov : 170141183460469231731687303715884105727 < s3
          · have fT : fw T = false := fw_no' _ (by have := HT.out; omega)
            have cT : cw T = 0 := by unfold cw; rw [fT]; rfl
            have e1 : fw s3 = false := fw_no' _ hov
            have e2 : cw s3 = 0 := by unfold cw; rw [e1]; rfl
            rw [e2] at hS
            rw [e1]
            go_wp2
            go_meet
            case rel => exact ⟨by rw [fT], by rw [cT]; exact hS⟩
          have e1 : fw s3 = true := fw_yes' _ (by omega) (by omega)
          have e2 : cw s3 = s3 := by unfold cw; rw [e1]; rfl
          rw [e2] at hS
          rw [e1]
          clear e1 e2 b0 bz c0 c1 f0 f1
          go_wp2
          rw [rounds_succ]
          go_wp2
          go_meet
          case rel =>
            have hT := HT.out
            obtain rfl : T = s3 := by omega
            exact ⟨by rw [fw_yes' _ (by omega) (by omega)], by rw [show cw T = T by unfold cw; rw [fw_yes' _ (by omega) (by omega)]; rfl]; exact hS⟩
  case rest =>
    obtain ⟨rfl, b0, bz, c0, c1, f0, f1⟩ := hcut
    have HM := Mv.below (Mv.refl hc hf) b0
    have hc1 := HM.cell; have hf1 := HM.free
    have hT := HT.out
    have T0 : 0 ≤ T := by omega
    clear hT HT
    by_cases hw1 : T ≤ 170141183460469231731687303715884105727
    · have e1 : fw T = true := fw_yes' _ T0 hw1
      have e2 : cw T = T := by unfold cw; rw [e1]; rfl
      rw [e2] at c0 c1
      rw [e1]
      by_cases hr : rt T ≤ 9223372036854775807
      · have l1 : lnok T = true := by unfold lnok; rw [e1, decide_eq_true hr]; rfl
        have l2 : ln T = rt T := by unfold ln; rw [l1]; rfl
        obtain ⟨hR, hO⟩ := HRO.out
        rw [l2] at hR; rw [l1] at hO
        have kr := fun w => nWRoot T w (by omega) (by omega)
        have r0 : 0 ≤ rt T := Int.natCast_nonneg _
        rw [hR] at kr r0 hr
        subst hO
        clear HRO l1 l2 hR
        have rw64 : wrap64 R = R := by unfold wrap64; omega
        go_wp2_with (first | (go_at_call 84; refine (kr _).mono ?_; rintro e w1 ⟨rfl, hB⟩; have HM1 := Mv.below HM hB; have hc2 := HM1.cell; have hf2 := HM1.free))
        go_ret
        exact ⟨rfl, by simpa using HM1⟩
      · have l1 : lnok T = false := by unfold lnok; rw [e1, decide_eq_false hr]; rfl
        have l2 : ln T = 9223372036854775807 := by unfold ln; rw [l1]; rfl
        obtain ⟨hR, hO⟩ := HRO.out
        rw [l2] at hR; rw [l1] at hO
        have kr := fun w => nWRoot T w (by omega) (by omega)
        obtain ⟨r, hr2⟩ : ∃ t, rt T = t := ⟨_, rfl⟩
        rw [hr2] at kr hr
        subst hR; subst hO
        clear HRO l1 l2 hr2
        go_wp2_with (first | (go_at_call 84; refine (kr _).mono ?_; rintro e w1 ⟨rfl, hB⟩; have HM1 := Mv.below HM hB; have hc2 := HM1.cell; have hf2 := HM1.free))
        go_ret
        exact ⟨rfl, by simpa using Mv.note HM1 true⟩
    · have e1 : fw T = false := fw_no' _ (by omega)
      have e2 : cw T = 0 := by unfold cw; rw [e1]; rfl
      rw [e2] at c0 c1
      rw [e1]
      have l1 : lnok T = false := by unfold lnok; rw [e1]; rfl
      have l2 : ln T = 9223372036854775807 := by unfold ln; rw [l1]; rfl
      obtain ⟨hR, hO⟩ := HRO.out
      rw [l2] at hR; rw [l1] at hO
      subst hR; subst hO
      clear HRO
      have r0 : rt 0 = 0 := by decide
      go_wp2_with (first | (go_at_call 84; refine (nWRoot 0 _ (by omega) (by omega)).mono ?_; rintro e w1 ⟨rfl, hB⟩; have HM1 := Mv.below HM hB; have hc2 := HM1.cell; have hf2 := HM1.free))
      go_ret
      exact ⟨rfl, by simpa using Mv.note HM1 true⟩
theorem cLen3 (x y z : Int) (b : Nat) (o : Bool) (w : World) (x0 : -9223372036854775808 ≤ x) (x1 : x ≤ 9223372036854775807) (y0 : -9223372036854775808 ≤ y) (y1 : y ≤ 9223372036854775807) (z0 : -9223372036854775808 ≤ z) (z1 : z ≤ 9223372036854775807)
    (hc : w.cell? ⟨b, 0, none⟩ = some (.bool o)) (hf : w.frozen? ⟨b, 0, none⟩ = false) :
    Calls Try.prog 59 #[.pointer (some ⟨b, 0, none⟩), .int .i64 x, .int .i64 y, .int .i64 z] w fun e w' => e = .returned (.int .i64 (ln (x * x + y * y + z * z))) ∧ Mv b (o || !lnok (x * x + y * y + z * z)) w w' := by
  have hb := World.block_lt_of_cell? w _ hc
  dsimp only at hb
  go_enter Try.func59, Try.ntmps59
  go_wp2_with (fail)
  have HA := (Mv.refl hc hf).alloc (Obj.cells #[.int .i64 x, .int .i64 y, .int .i64 z] 22)
  go_at_call 71
  refine (cLength3 w.heap.size x y z b o _ x0 x1 y0 y1 z0 z1 (by simpa using HA.cell) (by simpa using HA.free) (by simp [go_sem]) (by simp [go_sem]) (by simp [go_sem])).mono ?_
  rintro e w1 ⟨rfl, hM⟩
  go_wp2_with (fail)
  go_ret
  exact ⟨rfl, HA.trans hM⟩
set_option maxHeartbeats 4000000 in
theorem cLength4 (q : Nat) (x y z u : Int) (b : Nat) (o : Bool) (w : World) (x0 : -9223372036854775808 ≤ x) (x1 : x ≤ 9223372036854775807) (y0 : -9223372036854775808 ≤ y) (y1 : y ≤ 9223372036854775807) (z0 : -9223372036854775808 ≤ z) (z1 : z ≤ 9223372036854775807) (u0 : -9223372036854775808 ≤ u) (u1 : u ≤ 9223372036854775807)
    (hc : w.cell? ⟨b, 0, none⟩ = some (.bool o)) (hf : w.frozen? ⟨b, 0, none⟩ = false) (hq0 : w.cell? ⟨q, 0, none⟩ = some (.int .i64 x)) (hq1 : w.cell? ⟨q, 1, none⟩ = some (.int .i64 y)) (hq2 : w.cell? ⟨q, 2, none⟩ = some (.int .i64 z)) (hq3 : w.cell? ⟨q, 3, none⟩ = some (.int .i64 u)) :
    Calls Try.prog 71 #[.pointer (some ⟨b, 0, none⟩), .slice (some ⟨q, 0, none⟩) 4 4] w fun e w' => e = .returned (.int .i64 (ln (x * x + y * y + z * z + u * u))) ∧ Mv b (o || !lnok (x * x + y * y + z * z + u * u)) w w' := by
  obtain ⟨sx0, sx1⟩ := sq_bd x x0 x1
  obtain ⟨Qx, hQx⟩ : ∃ t, x * x = t := ⟨_, rfl⟩
  rw [hQx] at sx0 sx1
  obtain ⟨sy0, sy1⟩ := sq_bd y y0 y1
  obtain ⟨Qy, hQy⟩ : ∃ t, y * y = t := ⟨_, rfl⟩
  rw [hQy] at sy0 sy1
  obtain ⟨sz0, sz1⟩ := sq_bd z z0 z1
  obtain ⟨Qz, hQz⟩ : ∃ t, z * z = t := ⟨_, rfl⟩
  rw [hQz] at sz0 sz1
  obtain ⟨su0, su1⟩ := sq_bd u u0 u1
  obtain ⟨Qu, hQu⟩ : ∃ t, u * u = t := ⟨_, rfl⟩
  rw [hQu] at su0 su1
  rw [hQx, hQy, hQz, hQu]
  obtain ⟨T, hT⟩ : ∃ t, Qx + Qy + Qz + Qu = t := ⟨_, rfl⟩
  rw [hT]
  have hb := World.block_lt_of_cell? w _ hc
  have hqb := World.block_lt_of_cell? w _ hq0
  dsimp only at hb hqb
  have HT := Lib.hid hT
  clear hT
  obtain ⟨R, hR⟩ : ∃ t, ln T = t := ⟨_, rfl⟩
  obtain ⟨O, hO⟩ : ∃ t, lnok T = t := ⟨_, rfl⟩
  rw [hR, hO]
  have HRO := Lib.hid (And.intro hR hO)
  clear hR hO
  go_enter Try.func71, Try.ntmps71
  go_upto_block 0 with (fail)
  go_cut [6] (fun a wx => a = .bool (fw T) ∧ Sm w wx (cw T))
  case first =>
    go_wp2_with (fail)
    refine wp_loop_rounds 5 ?_
    rw [rounds_succ]
    go_upto_region 6 with (fail)
    have hS : Sm w (w.alloc (Obj.cells #[.int .i64 0, .int .u64 0] 76)) 0 := ⟨by (repeat (first | with_reducible assumption | with_reducible exact Below.refl _ _ | ((with_reducible refine Below.setCell ?_ ?_ _); rotate_left; (first | exact Nat.le_refl _ | (dsimp only; omega) | (simp; done) | (simp; omega))) | with_reducible refine below_alloc ?_ _ | with_reducible apply below_drewN | with_reducible apply Below.drew | with_reducible refine below_step ?_ (by assumption))), by simp, by simp [go_sem]; decide, by simp [go_sem]; decide, by simp [go_sem], by simp [go_sem]⟩
    obtain ⟨b0, bz, c0, c1, f0, f1⟩ := hS
    go_cut [6] (fun a wx => a = .bool (fw Qx) ∧ Sm w wx (cw Qx))
    case first =>
      go_region_with (first
        | (go_at_call 66; refine (cWMul _ _ _ (by omega) (by omega) (by omega) (by omega)).mono ?_; rintro e w1 ⟨rfl, hB⟩; have k0 := cell_later (a := ⟨w.heap.size, 0, none⟩) (v := .int .i64 (hw 0)) hB (by simpa using c0); have k1 := cell_later (a := ⟨w.heap.size, 1, none⟩) (v := .int .u64 (lw 0)) hB (by simpa using c1); have g0 := frz_later (a := ⟨w.heap.size, 0, none⟩) (v := .int .i64 (hw 0)) hB (by simpa using c0) (by simpa using f0); have g1 := frz_later (a := ⟨w.heap.size, 1, none⟩) (v := .int .u64 (lw 0)) hB (by simpa using c1) (by simpa using f1); have bz1 := hB.size; have b1 := below_step b0.drew hB)
        | (go_at_call 56; refine (nWAdd _ _ _ (by omega) (by omega) (by omega) (by omega)).mono ?_; rintro e w2 ⟨rfl, hB2⟩; have m0 := cell_later hB2 k0; have m1 := cell_later hB2 k1; have h0 := frz_later hB2 k0 g0; have h1 := frz_later hB2 k1 g1; have bz2 := hB2.size; have b2 := below_step b1 hB2))
      all_goals go_wp2
      all_goals go_meet
      all_goals exact ⟨rfl, Sm.put b2 (by have t2 := bz2; have t1 := bz1; have t0 := bz; simp at t1; (try simp at t0); omega) m0 m1 h0 h1 _⟩
    case rest =>
      obtain ⟨rfl, hS⟩ := hcut
      by_cases hov : 170141183460469231731687303715884105727 < Qx
      · have fT : fw T = false := fw_no' _ (by have := HT.out; omega)
        have cT : cw T = 0 := by unfold cw; rw [fT]; rfl
        have e1 : fw Qx = false := fw_no' _ hov
        have e2 : cw Qx = 0 := by unfold cw; rw [e1]; rfl
        rw [e2] at hS
        rw [e1]
        go_wp2
        go_meet
        case rel => exact ⟨by rw [fT], by rw [cT]; exact hS⟩
      have e1 : fw Qx = true := fw_yes' _ (by omega) (by omega)
      have e2 : cw Qx = Qx := by unfold cw; rw [e1]; rfl
      rw [e2] at hS
      rw [e1]
      have hqq1 := (hS.1.cell (p := ⟨q, 1, none⟩) (by dsimp only; omega)).trans hq1
      clear e1 e2 b0 bz c0 c1 f0 f1
      go_wp2
      rw [rounds_succ]
      go_upto_region 6 with (fail)
      obtain ⟨s2, hs2⟩ : ∃ t, Qx + Qy = t := ⟨_, rfl⟩
      obtain ⟨b0, bz, c0, c1, f0, f1⟩ := hS
      go_cut [6] (fun a wx => a = .bool (fw s2) ∧ Sm w wx (cw s2))
      case first =>
        go_region_with (first
          | (go_at_call 66; refine (cWMul _ _ _ (by omega) (by omega) (by omega) (by omega)).mono ?_; rintro e w1 ⟨rfl, hB⟩; have k0 := cell_later (a := ⟨w.heap.size, 0, none⟩) (v := .int .i64 (hw Qx)) hB (by simpa using c0); have k1 := cell_later (a := ⟨w.heap.size, 1, none⟩) (v := .int .u64 (lw Qx)) hB (by simpa using c1); have g0 := frz_later (a := ⟨w.heap.size, 0, none⟩) (v := .int .i64 (hw Qx)) hB (by simpa using c0) (by simpa using f0); have g1 := frz_later (a := ⟨w.heap.size, 1, none⟩) (v := .int .u64 (lw Qx)) hB (by simpa using c1) (by simpa using f1); have bz1 := hB.size; have b1 := below_step b0.drew hB)
          | (go_at_call 56; refine (nWAdd _ _ _ (by omega) (by omega) (by omega) (by omega)).mono ?_; rintro e w2 ⟨rfl, hB2⟩; have m0 := cell_later hB2 k0; have m1 := cell_later hB2 k1; have h0 := frz_later hB2 k0 g0; have h1 := frz_later hB2 k1 g1; have bz2 := hB2.size; have b2 := below_step b1 hB2))
        all_goals go_wp2
        all_goals go_meet
        all_goals exact ⟨rfl, Sm.put b2 (by have t2 := bz2; have t1 := bz1; have t0 := bz; simp at t1; (try simp at t0); omega) m0 m1 h0 h1 _⟩
      case rest =>
        obtain ⟨rfl, hS⟩ := hcut
        by_cases hov : 170141183460469231731687303715884105727 < s2
        · have fT : fw T = false := fw_no' _ (by have := HT.out; omega)
          have cT : cw T = 0 := by unfold cw; rw [fT]; rfl
          have e1 : fw s2 = false := fw_no' _ hov
          have e2 : cw s2 = 0 := by unfold cw; rw [e1]; rfl
          rw [e2] at hS
          rw [e1]
          go_wp2
          go_meet
          case rel => exact ⟨by rw [fT], by rw [cT]; exact hS⟩
        have e1 : fw s2 = true := fw_yes' _ (by omega) (by omega)
        have e2 : cw s2 = s2 := by unfold cw; rw [e1]; rfl
        rw [e2] at hS
        rw [e1]
        have hqq2 := (hS.1.cell (p := ⟨q, 2, none⟩) (by dsimp only; omega)).trans hq2
        clear e1 e2 b0 bz c0 c1 f0 f1
        go_wp2
        rw [rounds_succ]
        go_upto_region 6 with (fail)
        obtain ⟨s3, hs3⟩ : ∃ t, s2 + Qz = t := ⟨_, rfl⟩
        obtain ⟨b0, bz, c0, c1, f0, f1⟩ := hS
        go_cut [6] (fun a wx => a = .bool (fw s3) ∧ Sm w wx (cw s3))
        case first =>
          go_region_with (first
            | (go_at_call 66; refine (cWMul _ _ _ (by omega) (by omega) (by omega) (by omega)).mono ?_; rintro e w1 ⟨rfl, hB⟩; have k0 := cell_later (a := ⟨w.heap.size, 0, none⟩) (v := .int .i64 (hw s2)) hB (by simpa using c0); have k1 := cell_later (a := ⟨w.heap.size, 1, none⟩) (v := .int .u64 (lw s2)) hB (by simpa using c1); have g0 := frz_later (a := ⟨w.heap.size, 0, none⟩) (v := .int .i64 (hw s2)) hB (by simpa using c0) (by simpa using f0); have g1 := frz_later (a := ⟨w.heap.size, 1, none⟩) (v := .int .u64 (lw s2)) hB (by simpa using c1) (by simpa using f1); have bz1 := hB.size; have b1 := below_step b0.drew hB)
            | (go_at_call 56; refine (nWAdd _ _ _ (by omega) (by omega) (by omega) (by omega)).mono ?_; rintro e w2 ⟨rfl, hB2⟩; have m0 := cell_later hB2 k0; have m1 := cell_later hB2 k1; have h0 := frz_later hB2 k0 g0; have h1 := frz_later hB2 k1 g1; have bz2 := hB2.size; have b2 := below_step b1 hB2))
          all_goals go_wp2
          all_goals go_meet
          all_goals exact ⟨rfl, Sm.put b2 (by have t2 := bz2; have t1 := bz1; have t0 := bz; simp at t1; (try simp at t0); omega) m0 m1 h0 h1 _⟩
        case rest =>
          obtain ⟨rfl, hS⟩ := hcut
          by_cases hov : 170141183460469231731687303715884105727 < s3
          · have fT : fw T = false := fw_no' _ (by have := HT.out; omega)
            have cT : cw T = 0 := by unfold cw; rw [fT]; rfl
            have e1 : fw s3 = false := fw_no' _ hov
            have e2 : cw s3 = 0 := by unfold cw; rw [e1]; rfl
            rw [e2] at hS
            rw [e1]
            go_wp2
            go_meet
            case rel => exact ⟨by rw [fT], by rw [cT]; exact hS⟩
          have e1 : fw s3 = true := fw_yes' _ (by omega) (by omega)
          have e2 : cw s3 = s3 := by unfold cw; rw [e1]; rfl
          rw [e2] at hS
          rw [e1]
          have hqq3 := (hS.1.cell (p := ⟨q, 3, none⟩) (by dsimp only; omega)).trans hq3
          clear e1 e2 b0 bz c0 c1 f0 f1
          go_wp2
          rw [rounds_succ]
          go_upto_region 6 with (fail)
          obtain ⟨s4, hs4⟩ : ∃ t, s3 + Qu = t := ⟨_, rfl⟩
          obtain ⟨b0, bz, c0, c1, f0, f1⟩ := hS
          go_cut [6] (fun a wx => a = .bool (fw s4) ∧ Sm w wx (cw s4))
          case first =>
            go_region_with (first
              | (go_at_call 66; refine (cWMul _ _ _ (by omega) (by omega) (by omega) (by omega)).mono ?_; rintro e w1 ⟨rfl, hB⟩; have k0 := cell_later (a := ⟨w.heap.size, 0, none⟩) (v := .int .i64 (hw s3)) hB (by simpa using c0); have k1 := cell_later (a := ⟨w.heap.size, 1, none⟩) (v := .int .u64 (lw s3)) hB (by simpa using c1); have g0 := frz_later (a := ⟨w.heap.size, 0, none⟩) (v := .int .i64 (hw s3)) hB (by simpa using c0) (by simpa using f0); have g1 := frz_later (a := ⟨w.heap.size, 1, none⟩) (v := .int .u64 (lw s3)) hB (by simpa using c1) (by simpa using f1); have bz1 := hB.size; have b1 := below_step b0.drew hB)
              | (go_at_call 56; refine (nWAdd _ _ _ (by omega) (by omega) (by omega) (by omega)).mono ?_; rintro e w2 ⟨rfl, hB2⟩; have m0 := cell_later hB2 k0; have m1 := cell_later hB2 k1; have h0 := frz_later hB2 k0 g0; have h1 := frz_later hB2 k1 g1; have bz2 := hB2.size; have b2 := below_step b1 hB2))
            all_goals go_wp2
            all_goals go_meet
            all_goals exact ⟨rfl, Sm.put b2 (by have t2 := bz2; have t1 := bz1; have t0 := bz; simp at t1; (try simp at t0); omega) m0 m1 h0 h1 _⟩
          case rest =>
            obtain ⟨rfl, hS⟩ := hcut
            by_cases hov : 170141183460469231731687303715884105727 < s4
            · have fT : fw T = false := fw_no' _ (by have := HT.out; omega)
              have cT : cw T = 0 := by unfold cw; rw [fT]; rfl
              have e1 : fw s4 = false := fw_no' _ hov
              have e2 : cw s4 = 0 := by unfold cw; rw [e1]; rfl
              rw [e2] at hS
              rw [e1]
              go_wp2
              go_meet
              case rel => exact ⟨by rw [fT], by rw [cT]; exact hS⟩
            have e1 : fw s4 = true := fw_yes' _ (by omega) (by omega)
            have e2 : cw s4 = s4 := by unfold cw; rw [e1]; rfl
            rw [e2] at hS
            rw [e1]
            clear e1 e2 b0 bz c0 c1 f0 f1
            go_wp2
            rw [rounds_succ]
            go_wp2
            go_meet
            case rel =>
              have hT := HT.out
              obtain rfl : T = s4 := by omega
              exact ⟨by rw [fw_yes' _ (by omega) (by omega)], by rw [show cw T = T by unfold cw; rw [fw_yes' _ (by omega) (by omega)]; rfl]; exact hS⟩
  case rest =>
    obtain ⟨rfl, b0, bz, c0, c1, f0, f1⟩ := hcut
    have HM := Mv.below (Mv.refl hc hf) b0
    have hc1 := HM.cell; have hf1 := HM.free
    have hT := HT.out
    have T0 : 0 ≤ T := by omega
    clear hT HT
    by_cases hw1 : T ≤ 170141183460469231731687303715884105727
    · have e1 : fw T = true := fw_yes' _ T0 hw1
      have e2 : cw T = T := by unfold cw; rw [e1]; rfl
      rw [e2] at c0 c1
      rw [e1]
      by_cases hr : rt T ≤ 9223372036854775807
      · have l1 : lnok T = true := by unfold lnok; rw [e1, decide_eq_true hr]; rfl
        have l2 : ln T = rt T := by unfold ln; rw [l1]; rfl
        obtain ⟨hR, hO⟩ := HRO.out
        rw [l2] at hR; rw [l1] at hO
        have kr := fun w => nWRoot T w (by omega) (by omega)
        have r0 : 0 ≤ rt T := Int.natCast_nonneg _
        rw [hR] at kr r0 hr
        subst hO
        clear HRO l1 l2 hR
        have rw64 : wrap64 R = R := by unfold wrap64; omega
        go_wp2_with (first | (go_at_call 84; refine (kr _).mono ?_; rintro e w1 ⟨rfl, hB⟩; have HM1 := Mv.below HM hB; have hc2 := HM1.cell; have hf2 := HM1.free))
        go_ret
        exact ⟨rfl, by simpa using HM1⟩
      · have l1 : lnok T = false := by unfold lnok; rw [e1, decide_eq_false hr]; rfl
        have l2 : ln T = 9223372036854775807 := by unfold ln; rw [l1]; rfl
        obtain ⟨hR, hO⟩ := HRO.out
        rw [l2] at hR; rw [l1] at hO
        have kr := fun w => nWRoot T w (by omega) (by omega)
        obtain ⟨r, hr2⟩ : ∃ t, rt T = t := ⟨_, rfl⟩
        rw [hr2] at kr hr
        subst hR; subst hO
        clear HRO l1 l2 hr2
        go_wp2_with (first | (go_at_call 84; refine (kr _).mono ?_; rintro e w1 ⟨rfl, hB⟩; have HM1 := Mv.below HM hB; have hc2 := HM1.cell; have hf2 := HM1.free))
        go_ret
        exact ⟨rfl, by simpa using Mv.note HM1 true⟩
    · have e1 : fw T = false := fw_no' _ (by omega)
      have e2 : cw T = 0 := by unfold cw; rw [e1]; rfl
      rw [e2] at c0 c1
      rw [e1]
      have l1 : lnok T = false := by unfold lnok; rw [e1]; rfl
      have l2 : ln T = 9223372036854775807 := by unfold ln; rw [l1]; rfl
      obtain ⟨hR, hO⟩ := HRO.out
      rw [l2] at hR; rw [l1] at hO
      subst hR; subst hO
      clear HRO
      have r0 : rt 0 = 0 := by decide
      go_wp2_with (first | (go_at_call 84; refine (nWRoot 0 _ (by omega) (by omega)).mono ?_; rintro e w1 ⟨rfl, hB⟩; have HM1 := Mv.below HM hB; have hc2 := HM1.cell; have hf2 := HM1.free))
      go_ret
      exact ⟨rfl, by simpa using Mv.note HM1 true⟩
theorem cLen4 (x y z u : Int) (b : Nat) (o : Bool) (w : World) (x0 : -9223372036854775808 ≤ x) (x1 : x ≤ 9223372036854775807) (y0 : -9223372036854775808 ≤ y) (y1 : y ≤ 9223372036854775807) (z0 : -9223372036854775808 ≤ z) (z1 : z ≤ 9223372036854775807) (u0 : -9223372036854775808 ≤ u) (u1 : u ≤ 9223372036854775807)
    (hc : w.cell? ⟨b, 0, none⟩ = some (.bool o)) (hf : w.frozen? ⟨b, 0, none⟩ = false) :
    Calls Try.prog 45 #[.pointer (some ⟨b, 0, none⟩), .int .i64 x, .int .i64 y, .int .i64 z, .int .i64 u] w fun e w' => e = .returned (.int .i64 (ln (x * x + y * y + z * z + u * u))) ∧ Mv b (o || !lnok (x * x + y * y + z * z + u * u)) w w' := by
  have hb := World.block_lt_of_cell? w _ hc
  dsimp only at hb
  go_enter Try.func45, Try.ntmps45
  go_wp2_with (fail)
  have HA := (Mv.refl hc hf).alloc (Obj.cells #[.int .i64 x, .int .i64 y, .int .i64 z, .int .i64 u] 22)
  go_at_call 71
  refine (cLength4 w.heap.size x y z u b o _ x0 x1 y0 y1 z0 z1 u0 u1 (by simpa using HA.cell) (by simpa using HA.free) (by simp [go_sem]) (by simp [go_sem]) (by simp [go_sem]) (by simp [go_sem])).mono ?_
  rintro e w1 ⟨rfl, hM⟩
  go_wp2_with (fail)
  go_ret
  exact ⟨rfl, HA.trans hM⟩
end Go.Proofs.Ytjpkkpflamkjkaa
