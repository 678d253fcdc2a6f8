/- The contract of the document's Add (chapter 1). -/
import Derived.Test.YtjpkkpflamkjkaaB6
set_option linter.unusedSimpArgs false
set_option linter.unusedVariables false
namespace Go.Proofs.Ytjpkkpflamkjkaa
open Go.RowKit
set_option linter.unnecessarySimpa false
def Nc (B : Nat) (g : Bool) (x0 x1 x2 x3 : Int) (wx : World) : Prop :=
  (wx.cell? ⟨B, 0, none⟩ = some (.bool g) ∧ wx.cell? ⟨B, 1, none⟩ = some (.int .u64 x0) ∧ wx.cell? ⟨B, 2, none⟩ = some (.int .u64 x1) ∧ wx.cell? ⟨B, 3, none⟩ = some (.int .u64 x2) ∧ wx.cell? ⟨B, 4, none⟩ = some (.int .u64 x3)) ∧
  (wx.frozen? ⟨B, 0, none⟩ = false ∧ wx.frozen? ⟨B, 1, none⟩ = false ∧ wx.frozen? ⟨B, 2, none⟩ = false ∧ wx.frozen? ⟨B, 3, none⟩ = false ∧ wx.frozen? ⟨B, 4, none⟩ = false)
theorem Nc.later {B : Nat} {g : Bool} {x0 x1 x2 x3 : Int} {W w1 : World} (h : Nc B g x0 x1 x2 x3 W) (hB : Below W.heap.size W w1) : Nc B g x0 x1 x2 x3 w1 := by
  obtain ⟨⟨a, b, c, d, e⟩, f, g, h, i, j⟩ := h
  exact ⟨⟨cell_later hB a, cell_later hB b, cell_later hB c, cell_later hB d, cell_later hB e⟩, frz_later hB a f, frz_later hB b g, frz_later hB c h, frz_later hB d i, frz_later hB e j⟩
theorem Nc.drew {B : Nat} {g : Bool} {x0 x1 x2 x3 : Int} {W : World} (h : Nc B g x0 x1 x2 x3 W) : Nc B g x0 x1 x2 x3 W.drew := by
  obtain ⟨⟨a, b, c, d, e⟩, f, g, h, i, j⟩ := h
  unfold Nc; simp [go_sem, *]
theorem Nc.set0 {B : Nat} {g g' : Bool} {x0 x1 x2 x3 : Int} {W : World} (h : Nc B g x0 x1 x2 x3 W) : Nc B g' x0 x1 x2 x3 (W.setCell ⟨B, 0, none⟩ (.bool g')) := by
  obtain ⟨⟨a, b, c, d, e⟩, f, g, h, i, j⟩ := h
  unfold Nc; simp (maxDischargeDepth := 6) [go_sem, *]
theorem Nc.set3 {B : Nat} {g : Bool} {x0 x1 x2 x3 : Int} {v : Value} {W : World} (h : Nc B g x0 x1 x2 x3 W) : Nc B g x0 x1 x2 x3 (W.setCell ⟨B + 1, 0, none⟩ v) := by
  obtain ⟨⟨a, b, c, d, e⟩, f, g, h, i, j⟩ := h
  unfold Nc; simp (maxDischargeDepth := 6) [go_sem, *]
set_option maxHeartbeats 4000000 in
theorem cRAdd (x y : Int) (w : World) (hx : (x.natAbs : Int) ≤ 170141183460469231731687303715884105728) (hy : (y.natAbs : Int) ≤ 170141183460469231731687303715884105728) :
    Calls Try.prog 74 #[.agg #[.bool (decide (x < 0)), .int .u64 (d0 (x.natAbs)), .int .u64 (d1 (x.natAbs)), .int .u64 (d2 (x.natAbs)), .int .u64 (d3 (x.natAbs))], .agg #[.bool (decide (y < 0)), .int .u64 (d0 (y.natAbs)), .int .u64 (d1 (y.natAbs)), .int .u64 (d2 (y.natAbs)), .int .u64 (d3 (y.natAbs))]] w fun e w' => e = .returned (.tuple #[.agg #[.bool (decide (cw (x + y) < 0)), .int .u64 (d0 ((cw (x + y)).natAbs)), .int .u64 (d1 ((cw (x + y)).natAbs)), .int .u64 (d2 ((cw (x + y)).natAbs)), .int .u64 (d3 ((cw (x + y)).natAbs))], .bool (fw (x + y))]) ∧ Below w.heap.size w w' := by
  obtain ⟨g, hg⟩ : ∃ t, decide (x < 0) = t := ⟨_, rfl⟩
  obtain ⟨h, hh⟩ : ∃ t, decide (y < 0) = t := ⟨_, rfl⟩
  obtain ⟨m, hm⟩ : ∃ t, (x.natAbs : Int) = t := ⟨_, rfl⟩
  obtain ⟨n, hn⟩ : ∃ t, (y.natAbs : Int) = t := ⟨_, rfl⟩
  have m0 : 0 ≤ m := by omega
  have n0 : 0 ≤ n := by omega
  obtain ⟨S, hS⟩ : ∃ t, x + y = t := ⟨_, rfl⟩
  have F : Hid (x = sgv g m ∧ y = sgv h n ∧ (g = true → m ≠ 0) ∧ (h = true → n ≠ 0)) := Lib.hid (by
    subst hg hh
    refine ⟨?_, ?_, fun k => ?_, fun k => ?_⟩
    · unfold sgv; by_cases k : x < 0 <;> simp [k] <;> omega
    · unfold sgv; by_cases k : y < 0 <;> simp [k] <;> omega
    · have := of_decide_eq_true k; omega
    · have := of_decide_eq_true k; omega)
  obtain ⟨rg, hrg⟩ : ∃ t, decide (cw S < 0) = t := ⟨_, rfl⟩
  obtain ⟨rm, hrm⟩ : ∃ t, ((cw S).natAbs : Int) = t := ⟨_, rfl⟩
  obtain ⟨ro, hro⟩ : ∃ t, fw S = t := ⟨_, rfl⟩
  rw [hm] at hx; rw [hn] at hy
  rw [hg, hh, hm, hn, hS, hrg, hrm, hro]
  have R := Lib.hid (And.intro hrg (And.intro hrm hro))
  have HS := Lib.hid hS
  clear hrg hrm hro hg hh hm hn hS
  go_enter Try.func74, Try.ntmps74
  go_upto_if 18 with (fail)
  go_name_world W0 hW0
  have hz : W0.heap.size = w.heap.size + 1 + 1 + 1 + 1 := by rw [← hW0]; simp
  have BW : Below w.heap.size w W0 := by rw [← hW0]; (repeat (first | with_reducible assumption | with_reducible exact Below.refl _ _ | ((with_reducible refine Below.setCell ?_ ?_ _); rotate_left; (first | exact Nat.le_refl _ | (dsimp only; omega) | (simp; done) | (simp; omega))) | with_reducible refine below_alloc ?_ _ | with_reducible apply below_drewN | with_reducible apply Below.drew | with_reducible refine below_step ?_ (by assumption)))
  have ha : Nc w.heap.size g (d0 m) (d1 m) (d2 m) (d3 m) W0 := by rw [← hW0]; unfold Nc; simp [go_sem]
  have hb : Nc (w.heap.size + 1) h (d0 n) (d1 n) (d2 n) (d3 n) W0 := by rw [← hW0]; unfold Nc; simp [go_sem]
  have hr : Nc (w.heap.size + 1 + 1) false 0 0 0 0 W0 := by rw [← hW0]; unfold Nc; simp [go_sem]
  have ho : Nc (w.heap.size + 1 + 1 + 1) false 0 0 0 0 W0 := by rw [← hW0]; unfold Nc; simp [go_sem]
  clear hW0
  go_cut [7] (fun a wx => ∃ (g' : Bool) (p : Int) (ok : Bool), a = .bool ok ∧ Below w.heap.size w wx ∧ w.heap.size + 1 + 1 + 1 + 1 ≤ wx.heap.size ∧ Nc (w.heap.size + 1 + 1) false 0 0 0 0 wx ∧ Nc (w.heap.size + 1 + 1 + 1) g' (d0 p) (d1 p) (d2 p) (d3 p) wx ∧ 0 ≤ p ∧ p ≤ 340282366920938463463374607431768211455 ∧ Hid ((ok = true → S = sgv g' p) ∧ (ok = false → fw S = false)))
  case first =>
    by_cases hgh : g = h
    · subst hgh
      rw [show (g == g) = true by cases g <;> rfl]
      obtain ⟨⟨u0, u1, u2, u3, u4⟩, u5, u6, u7, u8, u9⟩ := id ha
      obtain ⟨⟨v0, v1, v2, v3, v4⟩, v5, v6, v7, v8, v9⟩ := id hb
      go_wp2_with (fail)
      go_at_call 87
      refine (cRPlus m n _ m0 (by omega) n0 (by omega)).mono ?_
      rintro e w1 ⟨rfl, hB⟩
      have Bw2 := below_step BW hB
      have hz2 := hB.size
      have hz3 : w.heap.size + 1 + 1 + 1 < w1.heap.size := by omega
      have hz4 : w.heap.size + 1 + 1 < w1.heap.size := by omega
      have hz5 : w.heap.size < w1.heap.size := by omega
      have ha := ha.later hB; have hr := hr.later hB; have ho := ho.later hB
      clear hB u0 u1 u2 u3 u4 u5 u6 u7 u8 u9 v0 v1 v2 v3 v4 v5 v6 v7 v8 v9
      obtain ⟨⟨a0, a1, a2, a3, a4⟩, a5, a6, a7, a8, a9⟩ := ha
      obtain ⟨⟨o0, o1, o2, o3, o4⟩, o5, o6, o7, o8, o9⟩ := ho
      obtain ⟨p, hp⟩ : ∃ t, (m + n) % 340282366920938463463374607431768211456 = t := ⟨_, rfl⟩
      obtain ⟨c, hc⟩ : ∃ t, (m + n) / 340282366920938463463374607431768211456 = t := ⟨_, rfl⟩
      rw [hp, hc]
      have HPC := Lib.hid (And.intro hp hc)
      clear hp hc
      go_wp2
      go_meet
      case rel =>
        obtain ⟨hp, hc⟩ := HPC.out
        have hS := HS.out
        obtain ⟨f1, f2, f3, f4⟩ := F.out
        refine ⟨g, p, (c == 0), rfl, ?_, ?_, ?_, ?_, by omega, by omega, Lib.hid ⟨fun k => ?_, fun k => ?_⟩⟩
        · (repeat (first | with_reducible assumption | with_reducible exact Below.refl _ _ | ((with_reducible refine Below.setCell ?_ ?_ _); rotate_left; (first | exact Nat.le_refl _ | (dsimp only; omega) | (simp; done) | (simp; omega))) | with_reducible refine below_alloc ?_ _ | with_reducible apply below_drewN | with_reducible apply Below.drew | with_reducible refine below_step ?_ (by assumption)))
        · simp; omega
        · obtain ⟨⟨r0, r1, r2, r3, r4⟩, r5, r6, r7, r8, r9⟩ := hr
          unfold Nc; simp (maxDischargeDepth := 8) [go_sem, *]
        · unfold Nc; simp (maxDischargeDepth := 8) [go_sem, *]
        · have : c = 0 := by simpa using k
          rw [← hS, f1, f2]; unfold sgv; split <;> omega
        · have : c ≠ 0 := by simpa using k
          rw [← hS, f1, f2]; unfold sgv fw; split <;> simp <;> omega
    · have hgh2 : (g == h) = false := by simpa using hgh
      rw [hgh2]
      obtain ⟨⟨u0, u1, u2, u3, u4⟩, u5, u6, u7, u8, u9⟩ := id ha
      obtain ⟨⟨v0, v1, v2, v3, v4⟩, v5, v6, v7, v8, v9⟩ := id hb
      go_wp2_with (fail)
      go_at_call 88
      refine (cRLess m n _ m0 (by omega) n0 (by omega)).mono ?_
      rintro e w1 ⟨rfl, hB⟩
      have Bw2 := below_step BW hB
      have hz2 := hB.size
      have hz3 : w.heap.size + 1 + 1 + 1 < w1.heap.size := by omega
      have hz4 : w.heap.size + 1 + 1 < w1.heap.size := by omega
      have hz5 : w.heap.size < w1.heap.size := by omega
      have ha := ha.later hB; have hb := hb.later hB; have hr := hr.later hB; have ho := ho.later hB
      clear hB u0 u1 u2 u3 u4 u5 u6 u7 u8 u9 v0 v1 v2 v3 v4 v5 v6 v7 v8 v9
      obtain ⟨⟨a0, a1, a2, a3, a4⟩, a5, a6, a7, a8, a9⟩ := id ha
      obtain ⟨⟨b0, b1, b2, b3, b4⟩, b5, b6, b7, b8, b9⟩ := id hb
      by_cases hmn : m < n
      · go_upto_region 8 with (fail)
        go_region_held3 (fun w' => w'.cell? ⟨w.heap.size, 0, none⟩ = some (.bool (g)) ∧ w'.cell? ⟨w.heap.size, 1, none⟩ = some (.int .u64 (d0 (m))) ∧ w'.cell? ⟨w.heap.size, 2, none⟩ = some (.int .u64 (d1 (m))) ∧ w'.cell? ⟨w.heap.size, 3, none⟩ = some (.int .u64 (d2 (m))) ∧ w'.cell? ⟨w.heap.size, 4, none⟩ = some (.int .u64 (d3 (m))) ∧ w'.cell? ⟨w.heap.size + 1, 0, none⟩ = some (.bool (h)) ∧ w'.cell? ⟨w.heap.size + 1, 1, none⟩ = some (.int .u64 (d0 (n))) ∧ w'.cell? ⟨w.heap.size + 1, 2, none⟩ = some (.int .u64 (d1 (n))) ∧ w'.cell? ⟨w.heap.size + 1, 3, none⟩ = some (.int .u64 (d2 (n))) ∧ w'.cell? ⟨w.heap.size + 1, 4, none⟩ = some (.int .u64 (d3 (n)))) (simp (maxDischargeDepth := 6) [go_sem, *]) (first | (go_at_call 89; refine (cRMinus n m _ n0 (by omega) m0 (by omega)).mono ?_; rintro e w2 ⟨rfl, hR⟩; have hcR := bsome hR; have hfR := bfrozen hR; have ho2 := ho.drew.later hR; have hr2 := hr.drew.later hR; have hz6 := hR.size; have Bw3 := below_step Bw2.drew hR; obtain ⟨⟨o0, o1, o2, o3, o4⟩, o5, o6, o7, o8, o9⟩ := ho2))
        go_wp2
        go_meet
        case rel =>
          have hS := HS.out
          obtain ⟨f1, f2, f3, f4⟩ := F.out
          refine ⟨h, n - m, true, rfl, ?_, ?_, ?_, ?_, by omega, by omega, Lib.hid ⟨fun k => ?_, fun k => by cases k⟩⟩
          · (repeat (first | with_reducible assumption | with_reducible exact Below.refl _ _ | ((with_reducible refine Below.setCell ?_ ?_ _); rotate_left; (first | exact Nat.le_refl _ | (dsimp only; omega) | (simp; done) | (simp; omega))) | with_reducible refine below_alloc ?_ _ | with_reducible apply below_drewN | with_reducible apply Below.drew | with_reducible refine below_step ?_ (by assumption)))
          · have hz7 : w1.drew.heap.size = w1.heap.size := rfl
            simp; omega
          · obtain ⟨⟨r0, r1, r2, r3, r4⟩, r5, r6, r7, r8, r9⟩ := hr2
            unfold Nc; simp (maxDischargeDepth := 8) [go_sem, *]
          · unfold Nc; simp (maxDischargeDepth := 8) [go_sem, *]
          · rw [← hS, f1, f2]; cases g <;> cases h <;> simp [sgv] at * <;> omega
      · go_upto_region 9 with (fail)
        go_region_held3 (fun w' => w'.cell? ⟨w.heap.size, 0, none⟩ = some (.bool (g)) ∧ w'.cell? ⟨w.heap.size, 1, none⟩ = some (.int .u64 (d0 (m))) ∧ w'.cell? ⟨w.heap.size, 2, none⟩ = some (.int .u64 (d1 (m))) ∧ w'.cell? ⟨w.heap.size, 3, none⟩ = some (.int .u64 (d2 (m))) ∧ w'.cell? ⟨w.heap.size, 4, none⟩ = some (.int .u64 (d3 (m))) ∧ w'.cell? ⟨w.heap.size + 1, 0, none⟩ = some (.bool (h)) ∧ w'.cell? ⟨w.heap.size + 1, 1, none⟩ = some (.int .u64 (d0 (n))) ∧ w'.cell? ⟨w.heap.size + 1, 2, none⟩ = some (.int .u64 (d1 (n))) ∧ w'.cell? ⟨w.heap.size + 1, 3, none⟩ = some (.int .u64 (d2 (n))) ∧ w'.cell? ⟨w.heap.size + 1, 4, none⟩ = some (.int .u64 (d3 (n)))) (simp (maxDischargeDepth := 6) [go_sem, *]) (first | (go_at_call 89; refine (cRMinus m n _ m0 (by omega) n0 (by omega)).mono ?_; rintro e w2 ⟨rfl, hR⟩; have hcR := bsome hR; have hfR := bfrozen hR; have ho2 := ho.drew.later hR; have hr2 := hr.drew.later hR; have hz6 := hR.size; have Bw3 := below_step Bw2.drew hR; obtain ⟨⟨o0, o1, o2, o3, o4⟩, o5, o6, o7, o8, o9⟩ := ho2))
        go_wp2
        go_meet
        case rel =>
          have hS := HS.out
          obtain ⟨f1, f2, f3, f4⟩ := F.out
          refine ⟨g, m - n, true, rfl, ?_, ?_, ?_, ?_, by omega, by omega, Lib.hid ⟨fun k => ?_, fun k => by cases k⟩⟩
          · (repeat (first | with_reducible assumption | with_reducible exact Below.refl _ _ | ((with_reducible refine Below.setCell ?_ ?_ _); rotate_left; (first | exact Nat.le_refl _ | (dsimp only; omega) | (simp; done) | (simp; omega))) | with_reducible refine below_alloc ?_ _ | with_reducible apply below_drewN | with_reducible apply Below.drew | with_reducible refine below_step ?_ (by assumption)))
          · have hz7 : w1.drew.heap.size = w1.heap.size := rfl
            simp; omega
          · obtain ⟨⟨r0, r1, r2, r3, r4⟩, r5, r6, r7, r8, r9⟩ := hr2
            unfold Nc; simp (maxDischargeDepth := 8) [go_sem, *]
          · unfold Nc; simp (maxDischargeDepth := 8) [go_sem, *]
          · rw [← hS, f1, f2]; cases g <;> cases h <;> simp [sgv] at * <;> omega
  case rest =>
    obtain ⟨g', p, ok, rfl, B1, Z1, hr, ho, p0, p1, HK⟩ := hcut
    obtain ⟨⟨o0, o1, o2, o3, o4⟩, o5, o6, o7, o8, o9⟩ := id ho
    clear ha hb BW hz F HS
    have kz := cRZero g' p
    by_cases hp : p = 0
    · rw [decide_eq_true hp] at kz
      have HPZ := Lib.hid hp
      clear hp
      go_wp2_with (fail)
      go_at_call 90
      refine (kz _ p0 p1).mono ?_
      rintro e w1 ⟨rfl, hB⟩
      have Bw2 := below_step B1 hB
      have hz2 := hB.size
      have hr := hr.later hB; have ho := ho.later hB
      clear hB kz o0 o1 o2 o3 o4 o5 o6 o7 o8 o9 B1
      obtain ⟨⟨o0, o1, o2, o3, o4⟩, o5, o6, o7, o8, o9⟩ := id ho
      have HV : Hid ((ok = true → S = sgv false p) ∧ decide (sgv false p < 0) = false ∧ ((sgv false p).natAbs : Int) = p) := Lib.hid (by have hp := HPZ.out; have k := HK.out.1; refine ⟨fun h => ?_, ?_, ?_⟩ <;> first | (rw [k h, hp]; unfold sgv; simp) | (rw [hp]; simp [sgv]))
      have kw := cRWords false p
      go_wp2_with (fail)
      go_at_call 91
      refine (kw _ p0 p1).mono ?_
      rintro e w2 ⟨rfl, hB⟩
      have Bw4 : Below w.heap.size w w2 := below_step (W := _) (by (repeat (first | with_reducible assumption | with_reducible exact Below.refl _ _ | ((with_reducible refine Below.setCell ?_ ?_ _); rotate_left; (first | exact Nat.le_refl _ | (dsimp only; omega) | (simp; done) | (simp; omega))) | with_reducible refine below_alloc ?_ _ | with_reducible apply below_drewN | with_reducible apply Below.drew | with_reducible refine below_step ?_ (by assumption)))) hB
      have hr := (hr.set3).later hB; have ho := (ho.set0).later hB
      have hz5 := hB.size
      clear hB kw Bw2
      obtain ⟨⟨s0, s1, s2, s3, s4⟩, s5, s6, s7, s8, s9⟩ := hr
      obtain ⟨⟨t0, t1, t2, t3, t4⟩, t5, t6, t7, t8, t9⟩ := ho
      obtain ⟨fb, hfb⟩ : ∃ t, fw (sgv false p) = t := ⟨_, rfl⟩
      rw [hfb]
      cases ok with
      | false =>
          have fS := HK.out.2 rfl
          clear hfb
          obtain ⟨hrg, hrm, hro⟩ := R.out
          have c0 : cw S = 0 := by unfold cw; rw [fS]; rfl
          rw [c0] at hrg hrm
          rw [fS] at hro
          obtain rfl : rg = false := by rw [← hrg]; rfl
          obtain rfl : rm = 0 := by rw [← hrm]; rfl
          subst hro
          clear fS c0 hrg hrm R HK HV
          go_wp2
          simp (maxDischargeDepth := 8) [bodyPost, results, Try.results74, go_sem, *]
          first | (refine ⟨⟨by rfl, by rfl, by rfl, by rfl⟩, ?_⟩; (repeat (first | with_reducible assumption | with_reducible exact Below.refl _ _ | ((with_reducible refine Below.setCell ?_ ?_ _); rotate_left; (first | exact Nat.le_refl _ | (dsimp only; omega) | (simp; done) | (simp; omega))) | with_reducible refine below_alloc ?_ _ | with_reducible apply below_drewN | with_reducible apply Below.drew | with_reducible refine below_step ?_ (by assumption)))) | (refine ⟨?_, ?_⟩; · (first | decide | (simp [d0, d1, d2, d3])); · (repeat (first | with_reducible assumption | with_reducible exact Below.refl _ _ | ((with_reducible refine Below.setCell ?_ ?_ _); rotate_left; (first | exact Nat.le_refl _ | (dsimp only; omega) | (simp; done) | (simp; omega))) | with_reducible refine below_alloc ?_ _ | with_reducible apply below_drewN | with_reducible apply Below.drew | with_reducible refine below_step ?_ (by assumption)))) | (repeat (first | with_reducible assumption | with_reducible exact Below.refl _ _ | ((with_reducible refine Below.setCell ?_ ?_ _); rotate_left; (first | exact Nat.le_refl _ | (dsimp only; omega) | (simp; done) | (simp; omega))) | with_reducible refine below_alloc ?_ _ | with_reducible apply below_drewN | with_reducible apply Below.drew | with_reducible refine below_step ?_ (by assumption)))
      | true =>
        have eS := HV.out.1 rfl
        rw [← eS] at hfb
        cases fb with
        | false =>
          have fS := hfb
          clear hfb eS
          obtain ⟨hrg, hrm, hro⟩ := R.out
          have c0 : cw S = 0 := by unfold cw; rw [fS]; rfl
          rw [c0] at hrg hrm
          rw [fS] at hro
          obtain rfl : rg = false := by rw [← hrg]; rfl
          obtain rfl : rm = 0 := by rw [← hrm]; rfl
          subst hro
          clear fS c0 hrg hrm R HK HV
          go_wp2
          simp (maxDischargeDepth := 8) [bodyPost, results, Try.results74, go_sem, *]
          first | (refine ⟨⟨by rfl, by rfl, by rfl, by rfl⟩, ?_⟩; (repeat (first | with_reducible assumption | with_reducible exact Below.refl _ _ | ((with_reducible refine Below.setCell ?_ ?_ _); rotate_left; (first | exact Nat.le_refl _ | (dsimp only; omega) | (simp; done) | (simp; omega))) | with_reducible refine below_alloc ?_ _ | with_reducible apply below_drewN | with_reducible apply Below.drew | with_reducible refine below_step ?_ (by assumption)))) | (refine ⟨?_, ?_⟩; · (first | decide | (simp [d0, d1, d2, d3])); · (repeat (first | with_reducible assumption | with_reducible exact Below.refl _ _ | ((with_reducible refine Below.setCell ?_ ?_ _); rotate_left; (first | exact Nat.le_refl _ | (dsimp only; omega) | (simp; done) | (simp; omega))) | with_reducible refine below_alloc ?_ _ | with_reducible apply below_drewN | with_reducible apply Below.drew | with_reducible refine below_step ?_ (by assumption)))) | (repeat (first | with_reducible assumption | with_reducible exact Below.refl _ _ | ((with_reducible refine Below.setCell ?_ ?_ _); rotate_left; (first | exact Nat.le_refl _ | (dsimp only; omega) | (simp; done) | (simp; omega))) | with_reducible refine below_alloc ?_ _ | with_reducible apply below_drewN | with_reducible apply Below.drew | with_reducible refine below_step ?_ (by assumption)))
        | true =>
          obtain ⟨v1, v2, v3⟩ := HV.out
          rw [← eS] at v2 v3
          obtain ⟨hrg, hrm, hro⟩ := R.out
          have c0 : cw S = S := by unfold cw; rw [hfb]; rfl
          rw [c0] at hrg hrm
          rw [hfb] at hro
          rw [v2] at hrg
          rw [v3] at hrm
          clear v1 v2 v3 c0 eS HV HK R hfb
          subst hrg hrm hro
          go_wp2
          simp (maxDischargeDepth := 8) [bodyPost, results, Try.results74, go_sem, *]
          (repeat (first | with_reducible assumption | with_reducible exact Below.refl _ _ | ((with_reducible refine Below.setCell ?_ ?_ _); rotate_left; (first | exact Nat.le_refl _ | (dsimp only; omega) | (simp; done) | (simp; omega))) | with_reducible refine below_alloc ?_ _ | with_reducible apply below_drewN | with_reducible apply Below.drew | with_reducible refine below_step ?_ (by assumption)))
    · rw [decide_eq_false hp] at kz
      go_wp2_with (fail)
      go_at_call 90
      refine (kz _ p0 p1).mono ?_
      rintro e w1 ⟨rfl, hB⟩
      have Bw2 := below_step B1 hB
      have hz2 := hB.size
      have hr := hr.later hB; have ho := ho.later hB
      clear hB kz o0 o1 o2 o3 o4 o5 o6 o7 o8 o9 B1
      obtain ⟨⟨o0, o1, o2, o3, o4⟩, o5, o6, o7, o8, o9⟩ := id ho
      have HV : Hid ((ok = true → S = sgv g' p) ∧ decide (sgv g' p < 0) = g' ∧ ((sgv g' p).natAbs : Int) = p) := Lib.hid (by have k := HK.out.1; refine ⟨k, ?_, ?_⟩ <;> unfold sgv <;> cases g' <;> simp <;> omega)
      have kw := cRWords g' p
      go_wp2_with (fail)
      go_at_call 91
      refine (kw _ p0 p1).mono ?_
      rintro e w2 ⟨rfl, hB⟩
      have Bw4 : Below w.heap.size w w2 := below_step (W := _) (by (repeat (first | with_reducible assumption | with_reducible exact Below.refl _ _ | ((with_reducible refine Below.setCell ?_ ?_ _); rotate_left; (first | exact Nat.le_refl _ | (dsimp only; omega) | (simp; done) | (simp; omega))) | with_reducible refine below_alloc ?_ _ | with_reducible apply below_drewN | with_reducible apply Below.drew | with_reducible refine below_step ?_ (by assumption)))) hB
      have hr := hr.later hB; have ho := ho.later hB
      have hz5 := hB.size
      clear hB kw Bw2
      obtain ⟨⟨s0, s1, s2, s3, s4⟩, s5, s6, s7, s8, s9⟩ := hr
      obtain ⟨⟨t0, t1, t2, t3, t4⟩, t5, t6, t7, t8, t9⟩ := ho
      obtain ⟨fb, hfb⟩ : ∃ t, fw (sgv g' p) = t := ⟨_, rfl⟩
      rw [hfb]
      cases ok with
      | false =>
          have fS := HK.out.2 rfl
          clear hfb
          obtain ⟨hrg, hrm, hro⟩ := R.out
          have c0 : cw S = 0 := by unfold cw; rw [fS]; rfl
          rw [c0] at hrg hrm
          rw [fS] at hro
          obtain rfl : rg = false := by rw [← hrg]; rfl
          obtain rfl : rm = 0 := by rw [← hrm]; rfl
          subst hro
          clear fS c0 hrg hrm R HK HV
          go_wp2
          simp (maxDischargeDepth := 8) [bodyPost, results, Try.results74, go_sem, *]
          first | (refine ⟨⟨by rfl, by rfl, by rfl, by rfl⟩, ?_⟩; (repeat (first | with_reducible assumption | with_reducible exact Below.refl _ _ | ((with_reducible refine Below.setCell ?_ ?_ _); rotate_left; (first | exact Nat.le_refl _ | (dsimp only; omega) | (simp; done) | (simp; omega))) | with_reducible refine below_alloc ?_ _ | with_reducible apply below_drewN | with_reducible apply Below.drew | with_reducible refine below_step ?_ (by assumption)))) | (refine ⟨?_, ?_⟩; · (first | decide | (simp [d0, d1, d2, d3])); · (repeat (first | with_reducible assumption | with_reducible exact Below.refl _ _ | ((with_reducible refine Below.setCell ?_ ?_ _); rotate_left; (first | exact Nat.le_refl _ | (dsimp only; omega) | (simp; done) | (simp; omega))) | with_reducible refine below_alloc ?_ _ | with_reducible apply below_drewN | with_reducible apply Below.drew | with_reducible refine below_step ?_ (by assumption)))) | (repeat (first | with_reducible assumption | with_reducible exact Below.refl _ _ | ((with_reducible refine Below.setCell ?_ ?_ _); rotate_left; (first | exact Nat.le_refl _ | (dsimp only; omega) | (simp; done) | (simp; omega))) | with_reducible refine below_alloc ?_ _ | with_reducible apply below_drewN | with_reducible apply Below.drew | with_reducible refine below_step ?_ (by assumption)))
      | true =>
        have eS := HV.out.1 rfl
        rw [← eS] at hfb
        cases fb with
        | false =>
          have fS := hfb
          clear hfb eS
          obtain ⟨hrg, hrm, hro⟩ := R.out
          have c0 : cw S = 0 := by unfold cw; rw [fS]; rfl
          rw [c0] at hrg hrm
          rw [fS] at hro
          obtain rfl : rg = false := by rw [← hrg]; rfl
          obtain rfl : rm = 0 := by rw [← hrm]; rfl
          subst hro
          clear fS c0 hrg hrm R HK HV
          go_wp2
          simp (maxDischargeDepth := 8) [bodyPost, results, Try.results74, go_sem, *]
          first | (refine ⟨⟨by rfl, by rfl, by rfl, by rfl⟩, ?_⟩; (repeat (first | with_reducible assumption | with_reducible exact Below.refl _ _ | ((with_reducible refine Below.setCell ?_ ?_ _); rotate_left; (first | exact Nat.le_refl _ | (dsimp only; omega) | (simp; done) | (simp; omega))) | with_reducible refine below_alloc ?_ _ | with_reducible apply below_drewN | with_reducible apply Below.drew | with_reducible refine below_step ?_ (by assumption)))) | (refine ⟨?_, ?_⟩; · (first | decide | (simp [d0, d1, d2, d3])); · (repeat (first | with_reducible assumption | with_reducible exact Below.refl _ _ | ((with_reducible refine Below.setCell ?_ ?_ _); rotate_left; (first | exact Nat.le_refl _ | (dsimp only; omega) | (simp; done) | (simp; omega))) | with_reducible refine below_alloc ?_ _ | with_reducible apply below_drewN | with_reducible apply Below.drew | with_reducible refine below_step ?_ (by assumption)))) | (repeat (first | with_reducible assumption | with_reducible exact Below.refl _ _ | ((with_reducible refine Below.setCell ?_ ?_ _); rotate_left; (first | exact Nat.le_refl _ | (dsimp only; omega) | (simp; done) | (simp; omega))) | with_reducible refine below_alloc ?_ _ | with_reducible apply below_drewN | with_reducible apply Below.drew | with_reducible refine below_step ?_ (by assumption)))
        | true =>
          obtain ⟨v1, v2, v3⟩ := HV.out
          rw [← eS] at v2 v3
          obtain ⟨hrg, hrm, hro⟩ := R.out
          have c0 : cw S = S := by unfold cw; rw [hfb]; rfl
          rw [c0] at hrg hrm
          rw [hfb] at hro
          rw [v2] at hrg
          rw [v3] at hrm
          clear v1 v2 v3 c0 eS HV HK R hfb
          subst hrg hrm hro
          go_wp2
          simp (maxDischargeDepth := 8) [bodyPost, results, Try.results74, go_sem, *]
          (repeat (first | with_reducible assumption | with_reducible exact Below.refl _ _ | ((with_reducible refine Below.setCell ?_ ?_ _); rotate_left; (first | exact Nat.le_refl _ | (dsimp only; omega) | (simp; done) | (simp; omega))) | with_reducible refine below_alloc ?_ _ | with_reducible apply below_drewN | with_reducible apply Below.drew | with_reducible refine below_step ?_ (by assumption)))
end Go.Proofs.Ytjpkkpflamkjkaa
