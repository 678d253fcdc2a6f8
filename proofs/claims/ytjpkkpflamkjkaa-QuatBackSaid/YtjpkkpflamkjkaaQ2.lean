/- The contract of the document's lengths (chapter 3). -/
import Derived.Test.YtjpkkpflamkjkaaQ1
import Derived.Test.YtjpkkpflamkjkaaB9
import Derived.Test.YtjpkkpflamkjkaaB7
set_option linter.unusedSimpArgs false
set_option linter.unusedVariables false
namespace Go.Proofs.Ytjpkkpflamkjkaa
open Go.RowKit
set_option linter.unnecessarySimpa false
theorem cRAddN (m n : Int) (w : World) (m0 : 0 ≤ m) (m1 : m ≤ 170141183460469231731687303715884105728) (n0 : 0 ≤ n) (n1 : n ≤ 170141183460469231731687303715884105728) :
    Calls Try.prog 74 #[.agg #[.bool (false), .int .u64 (d0 (m)), .int .u64 (d1 (m)), .int .u64 (d2 (m)), .int .u64 (d3 (m))], .agg #[.bool (false), .int .u64 (d0 (n)), .int .u64 (d1 (n)), .int .u64 (d2 (n)), .int .u64 (d3 (n))]] w fun e w' => e = .returned (.tuple #[.agg #[.bool (false), .int .u64 (d0 (cw (m + n))), .int .u64 (d1 (cw (m + n))), .int .u64 (d2 (cw (m + n))), .int .u64 (d3 (cw (m + n)))], .bool (fw (m + n))]) ∧ Below w.heap.size w w' := by
  have k := cRAdd m n w (by omega) (by omega)
  have c0 : 0 ≤ cw (m + n) := by unfold cw; split <;> omega
  rw [decide_eq_false (show ¬ m < 0 by omega), decide_eq_false (show ¬ n < 0 by omega), decide_eq_false (show ¬ cw (m + n) < 0 by omega), show (m.natAbs : Int) = m by omega, show (n.natAbs : Int) = n by omega, show ((cw (m + n)).natAbs : Int) = cw (m + n) by omega] at k
  exact k
theorem cRMulN (x : Int) (w : World) (x0 : -9223372036854775808 ≤ x) (x1 : x ≤ 9223372036854775807) :
    Calls Try.prog 75 #[.int .i64 x, .int .i64 x] w fun e w' => e = .returned (.agg #[.bool (false), .int .u64 (d0 (x * x)), .int .u64 (d1 (x * x)), .int .u64 (d2 (x * x)), .int .u64 (d3 (x * x))]) ∧ Below w.heap.size w w' := by
  have k := cRMul x x w x0 x1 x0 x1
  have s := sq_bd x x0 x1
  rw [decide_eq_false (show ¬ x * x < 0 by omega), show ((x * x).natAbs : Int) = x * x by omega] at k
  exact k
theorem cRRootN (m : Int) (w : World) (m0 : 0 ≤ m) (m1 : m ≤ 340282366920938463463374607431768211455) :
    Calls Try.prog 76 #[.agg #[.bool (false), .int .u64 (d0 (m)), .int .u64 (d1 (m)), .int .u64 (d2 (m)), .int .u64 (d3 (m))]] w fun e w' => e = .returned (.int .u64 (rt m)) ∧ Below w.heap.size w w' := by
  have k := cRRoot m w (by omega)
  rw [decide_eq_false (show ¬ m < 0 by omega), show (m.natAbs : Int) = m by omega] at k
  exact k
theorem Nc.put5 {B : Nat} {g : Bool} {x0 x1 x2 x3 : Int} {W : World} (h : Nc B g x0 x1 x2 x3 W) (g' : Bool) (y0 y1 y2 y3 : Int) : Nc B g' y0 y1 y2 y3 (((((W.setCell ⟨B, 0, none⟩ (.bool g')).setCell ⟨B, 1, none⟩ (.int .u64 y0)).setCell ⟨B, 2, none⟩ (.int .u64 y1)).setCell ⟨B, 3, none⟩ (.int .u64 y2)).setCell ⟨B, 4, none⟩ (.int .u64 y3)) := by
  obtain ⟨⟨a, b, c, d, e⟩, f, g, h, i, j⟩ := h
  unfold Nc; simp (maxDischargeDepth := 8) [go_sem, *]
set_option maxHeartbeats 4000000 in
theorem c3Len4 (x y z u : Int) (b : Nat) (o : Bool) (w : World) (x0 : -9223372036854775808 ≤ x) (x1 : x ≤ 9223372036854775807) (y0 : -9223372036854775808 ≤ y) (y1 : y ≤ 9223372036854775807) (z0 : -9223372036854775808 ≤ z) (z1 : z ≤ 9223372036854775807) (u0 : -9223372036854775808 ≤ u) (u1 : u ≤ 9223372036854775807)
    (hc : w.cell? ⟨b, 0, none⟩ = some (.bool o)) (hf : w.frozen? ⟨b, 0, none⟩ = false) :
    Calls Try.prog 49 #[.pointer (some ⟨b, 0, none⟩), .int .i64 x, .int .i64 y, .int .i64 z, .int .i64 u] w fun e w' => e = .returned (.int .i64 (ln (x * x + y * y + z * z + u * u))) ∧ Mv b (o || !lnok (x * x + y * y + z * z + u * u)) w w' := by
  obtain ⟨sx0, sx1⟩ := sq_bd x x0 x1
  obtain ⟨sy0, sy1⟩ := sq_bd y y0 y1
  obtain ⟨sz0, sz1⟩ := sq_bd z z0 z1
  obtain ⟨su0, su1⟩ := sq_bd u u0 u1
  have kx := fun w => cRMulN x w x0 x1
  have ky := fun w => cRMulN y w y0 y1
  have kz := fun w => cRMulN z w z0 z1
  have ku := fun w => cRMulN u w u0 u1
  obtain ⟨Qx, hQx⟩ : ∃ t, x * x = t := ⟨_, rfl⟩
  obtain ⟨Qy, hQy⟩ : ∃ t, y * y = t := ⟨_, rfl⟩
  obtain ⟨Qz, hQz⟩ : ∃ t, z * z = t := ⟨_, rfl⟩
  obtain ⟨Qu, hQu⟩ : ∃ t, u * u = t := ⟨_, rfl⟩
  rw [hQx] at sx0 sx1 kx; rw [hQy] at sy0 sy1 ky; rw [hQz] at sz0 sz1 kz; rw [hQu] at su0 su1 ku
  rw [hQx, hQy, hQz, hQu]
  clear hQx hQy hQz hQu
  obtain ⟨T, hT⟩ : ∃ t, Qx + Qy + Qz + Qu = t := ⟨_, rfl⟩
  rw [hT]
  obtain ⟨R, hR⟩ : ∃ t, ln T = t := ⟨_, rfl⟩
  obtain ⟨O, hO⟩ : ∃ t, lnok T = t := ⟨_, rfl⟩
  rw [hR, hO]
  have HRO := Lib.hid (And.intro hR hO)
  have HT := Lib.hid hT
  clear hR hO hT
  have hb := World.block_lt_of_cell? w _ hc
  dsimp only at hb
  obtain ⟨s1, hs1⟩ : ∃ t, Qx + Qy = t := ⟨_, rfl⟩
  have ka1 := fun w => cRAddN Qx Qy w sx0 (by omega) sy0 (by omega)
  rw [hs1] at ka1
  have s10 : 0 ≤ s1 := by omega
  have s11 : s1 ≤ 170141183460469231731687303715884105728 := by omega
  have HS1 := Lib.hid hs1
  clear hs1
  go_enter Try.func49, Try.ntmps49
  go_wp2_with (fail)
  go_at_call 75
  refine (kx _).mono ?_
  rintro e w1 ⟨rfl, hB⟩
  have B1 := hB
  go_wp2_with (fail)
  go_at_call 75
  refine (ky _).mono ?_
  rintro e w2 ⟨rfl, hB2⟩
  have B2 : Below w.heap.size w w2 := below_step B1 hB2
  go_wp2_with (fail)
  go_at_call 74
  refine (ka1 _).mono ?_
  rintro e w3 ⟨rfl, hB3⟩
  have B3 : Below w.heap.size w w3 := below_step (W := _) (by (repeat (first | with_reducible assumption | with_reducible exact Below.refl _ _ | ((with_reducible refine Below.setCell ?_ ?_ _); rotate_left; (first | exact Nat.le_refl _ | (dsimp only; omega) | (simp; done) | (simp; omega))) | with_reducible refine below_alloc ?_ _ | with_reducible apply below_drewN | with_reducible apply Below.drew | with_reducible refine below_step ?_ (by assumption)))) hB3
  have HM := Mv.below (Mv.refl hc hf) B3
  have hz3 := B3.size
  clear hB hB2 hB3 B1 B2 kx ky ka1
  by_cases h1 : s1 ≤ 170141183460469231731687303715884105727
  · have f1 : fw s1 = true := fw_yes' _ s10 h1
    have g1 : cw s1 = s1 := by unfold cw; rw [f1]; rfl
    rw [f1, g1]
    clear f1 g1
    have hn : Nc w3.heap.size false (d0 s1) (d1 s1) (d2 s1) (d3 s1) (w3.alloc (Obj.cells #[.bool false, .int .u64 (d0 s1), .int .u64 (d1 s1), .int .u64 (d2 s1), .int .u64 (d3 s1)] 95)) := by unfold Nc; simp [go_sem]
    have BW : Below w.heap.size w (w3.alloc (Obj.cells #[.bool false, .int .u64 (d0 s1), .int .u64 (d1 s1), .int .u64 (d2 s1), .int .u64 (d3 s1)] 95)) := by (repeat (first | with_reducible assumption | with_reducible exact Below.refl _ _ | ((with_reducible refine Below.setCell ?_ ?_ _); rotate_left; (first | exact Nat.le_refl _ | (dsimp only; omega) | (simp; done) | (simp; omega))) | with_reducible refine below_alloc ?_ _ | with_reducible apply below_drewN | with_reducible apply Below.drew | with_reducible refine below_step ?_ (by assumption)))
    have zW : w3.heap.size + 1 ≤ (w3.alloc (Obj.cells #[.bool false, .int .u64 (d0 s1), .int .u64 (d1 s1), .int .u64 (d2 s1), .int .u64 (d3 s1)] 95)).heap.size := by simp
    obtain ⟨s2, hs2⟩ : ∃ t, s1 + Qz = t := ⟨_, rfl⟩
    have ka := fun w => cRAddN s1 Qz w (by omega) (by omega) (by omega) (by omega)
    rw [hs2] at ka
    have bs2 : 0 ≤ s2 ∧ s2 ≤ 255211775190703847597530955573826158591 := by omega
    have HXs2 := Lib.hid hs2
    clear hs2
    go_upto_region 3 with (fail)
    obtain ⟨⟨c0, c1, c2, c3, c4⟩, c5, c6, c7, c8, c9⟩ := id hn
    go_cut [12] (fun a wx => a = .bool (fw s2) ∧ Below w.heap.size w wx ∧ w3.heap.size + 1 ≤ wx.heap.size ∧ Nc w3.heap.size false (d0 (cw s2)) (d1 (cw s2)) (d2 (cw s2)) (d3 (cw s2)) wx)
    case first =>
      go_region_with (first
        | (go_at_call 75; refine (kz _).mono ?_; rintro e w5 ⟨rfl, hB⟩; have hn1 := hn.drew.later hB; have zz1 := hB.size; have BB1 := below_step BW.drew hB; obtain ⟨⟨e0, e1, e2, e3, e4⟩, e5, e6, e7, e8, e9⟩ := id hn1)
        | (go_at_call 74; refine (ka _).mono ?_; rintro e w6 ⟨rfl, hB2⟩; have hn2 := hn1.later hB2; have zz2 := hB2.size; have BB2 := below_step BB1 hB2; obtain ⟨⟨f0, f1, f2, f3, f4⟩, f5, f6, f7, f8, f9⟩ := id hn2))
      all_goals go_wp2
      all_goals go_meet
      all_goals exact ⟨rfl, by (repeat (first | with_reducible assumption | with_reducible exact Below.refl _ _ | ((with_reducible refine Below.setCell ?_ ?_ _); rotate_left; (first | exact Nat.le_refl _ | (dsimp only; omega) | (simp; done) | (simp; omega))) | with_reducible refine below_alloc ?_ _ | with_reducible apply below_drewN | with_reducible apply Below.drew | with_reducible refine below_step ?_ (by assumption))), by (have t1 := zz1; have t2 := zz2; have t0 := zW; simp at t1 ⊢; omega), hn2.put5 _ _ _ _ _⟩
    case rest =>
      obtain ⟨rfl, BW, zW, hn⟩ := hcut
      by_cases hov : 170141183460469231731687303715884105727 < s2
      · rw [fw_no' _ hov]
        have hT := HT.out; have e1 := HS1.out; have e2 := HXs2.out
        have l1 : lnok T = false := by unfold lnok; rw [fw_no' T (by omega)]; rfl
        have l2 : ln T = 9223372036854775807 := by unfold ln; rw [l1]; rfl
        obtain ⟨hR, hO⟩ := HRO.out
        rw [l2] at hR; rw [l1] at hO
        subst hR; subst hO
        clear HRO l1 l2
        have HM1 := Mv.below (Mv.refl hc hf) BW
        have hc1 := HM1.cell; have hf1 := HM1.free
        go_wp2
        go_ret
        exact ⟨rfl, by simpa using Mv.note HM1 true⟩
      have fy : fw s2 = true := fw_yes' _ (by omega) (by omega)
      have cy : cw s2 = s2 := by unfold cw; rw [fy]; rfl
      rw [cy] at hn
      rw [fy]
      clear fy cy
      clear ka kz c0 c1 c2 c3 c4 c5 c6 c7 c8 c9
      obtain ⟨s3, hs3⟩ : ∃ t, s2 + Qu = t := ⟨_, rfl⟩
      have ka := fun w => cRAddN s2 Qu w (by omega) (by omega) (by omega) (by omega)
      rw [hs3] at ka
      have bs3 : 0 ≤ s3 ∧ s3 ≤ 255211775190703847597530955573826158591 := by omega
      have HXs3 := Lib.hid hs3
      clear hs3
      go_upto_region 5 with (fail)
      obtain ⟨⟨c0, c1, c2, c3, c4⟩, c5, c6, c7, c8, c9⟩ := id hn
      go_cut [12] (fun a wx => a = .bool (fw s3) ∧ Below w.heap.size w wx ∧ w3.heap.size + 1 ≤ wx.heap.size ∧ Nc w3.heap.size false (d0 (cw s3)) (d1 (cw s3)) (d2 (cw s3)) (d3 (cw s3)) wx)
      case first =>
        go_region_with (first
          | (go_at_call 75; refine (ku _).mono ?_; rintro e w5 ⟨rfl, hB⟩; have hn1 := hn.drew.later hB; have zz1 := hB.size; have BB1 := below_step BW.drew hB; obtain ⟨⟨e0, e1, e2, e3, e4⟩, e5, e6, e7, e8, e9⟩ := id hn1)
          | (go_at_call 74; refine (ka _).mono ?_; rintro e w6 ⟨rfl, hB2⟩; have hn2 := hn1.later hB2; have zz2 := hB2.size; have BB2 := below_step BB1 hB2; obtain ⟨⟨f0, f1, f2, f3, f4⟩, f5, f6, f7, f8, f9⟩ := id hn2))
        all_goals go_wp2
        all_goals go_meet
        all_goals exact ⟨rfl, by (repeat (first | with_reducible assumption | with_reducible exact Below.refl _ _ | ((with_reducible refine Below.setCell ?_ ?_ _); rotate_left; (first | exact Nat.le_refl _ | (dsimp only; omega) | (simp; done) | (simp; omega))) | with_reducible refine below_alloc ?_ _ | with_reducible apply below_drewN | with_reducible apply Below.drew | with_reducible refine below_step ?_ (by assumption))), by (have t1 := zz1; have t2 := zz2; have t0 := zW; simp at t1 ⊢; omega), hn2.put5 _ _ _ _ _⟩
      case rest =>
        obtain ⟨rfl, BW, zW, hn⟩ := hcut
        by_cases hov : 170141183460469231731687303715884105727 < s3
        · rw [fw_no' _ hov]
          have hT := HT.out; have e1 := HS1.out; have e2 := HXs2.out; have e3 := HXs3.out
          have l1 : lnok T = false := by unfold lnok; rw [fw_no' T (by omega)]; rfl
          have l2 : ln T = 9223372036854775807 := by unfold ln; rw [l1]; rfl
          obtain ⟨hR, hO⟩ := HRO.out
          rw [l2] at hR; rw [l1] at hO
          subst hR; subst hO
          clear HRO l1 l2
          have HM1 := Mv.below (Mv.refl hc hf) BW
          have hc1 := HM1.cell; have hf1 := HM1.free
          go_wp2
          go_ret
          exact ⟨rfl, by simpa using Mv.note HM1 true⟩
        have fy : fw s3 = true := fw_yes' _ (by omega) (by omega)
        have cy : cw s3 = s3 := by unfold cw; rw [fy]; rfl
        rw [cy] at hn
        rw [fy]
        clear fy cy
        have hT : T = s3 := by have hT := HT.out; have e1 := HS1.out; have e2 := HXs2.out; have e3 := HXs3.out; omega
        subst hT
        have kr := fun w => cRRootN T w (by omega) (by omega)
        have r0 := rt_nonneg T
        obtain ⟨hR, hO⟩ := HRO.out
        have lk : lnok T = decide (rt T ≤ 9223372036854775807) := by unfold lnok; rw [fw_yes' T (by omega) (by omega)]; rfl
        unfold ln at hR
        rw [lk] at hR hO
        generalize rt T = r at *
        obtain ⟨⟨c0, c1, c2, c3, c4⟩, c5, c6, c7, c8, c9⟩ := id hn
        clear HRO lk
        by_cases hr : r ≤ 9223372036854775807
        · rw [decide_eq_true hr] at hR hO
          rw [if_pos rfl] at hR
          subst hR; subst hO
          have rw64 : wrap64 r = r := by unfold wrap64; omega
          go_wp2_with (first | (go_at_call 76; refine (kr _).mono ?_; rintro e w7 ⟨rfl, hB⟩; have HM1 := Mv.below (Mv.refl hc hf) (below_step BW hB); have hc1 := HM1.cell; have hf1 := HM1.free))
          go_ret
          exact ⟨rfl, by simpa using HM1⟩
        · rw [decide_eq_false hr] at hR hO
          rw [if_neg (by decide)] at hR
          subst hR; subst hO
          go_wp2_with (first | (go_at_call 76; refine (kr _).mono ?_; rintro e w7 ⟨rfl, hB⟩; have HM1 := Mv.below (Mv.refl hc hf) (below_step BW hB); have hc1 := HM1.cell; have hf1 := HM1.free))
          go_ret
          exact ⟨rfl, by simpa using Mv.note HM1 true⟩
  · have BW : Below w.heap.size w (w3.alloc (Obj.cells #[.bool false, .int .u64 (d0 (cw s1)), .int .u64 (d1 (cw s1)), .int .u64 (d2 (cw s1)), .int .u64 (d3 (cw s1))] 95)) := by (repeat (first | with_reducible assumption | with_reducible exact Below.refl _ _ | ((with_reducible refine Below.setCell ?_ ?_ _); rotate_left; (first | exact Nat.le_refl _ | (dsimp only; omega) | (simp; done) | (simp; omega))) | with_reducible refine below_alloc ?_ _ | with_reducible apply below_drewN | with_reducible apply Below.drew | with_reducible refine below_step ?_ (by assumption)))
    rw [fw_no' s1 (by omega)]
    have hT := HT.out; have e1 := HS1.out
    have l1 : lnok T = false := by unfold lnok; rw [fw_no' T (by omega)]; rfl
    have l2 : ln T = 9223372036854775807 := by unfold ln; rw [l1]; rfl
    obtain ⟨hR, hO⟩ := HRO.out
    rw [l2] at hR; rw [l1] at hO
    subst hR; subst hO
    clear HRO l1 l2
    have HM1 := Mv.below (Mv.refl hc hf) BW
    have hc1 := HM1.cell; have hf1 := HM1.free
    go_wp2
    go_ret
    exact ⟨rfl, by simpa using Mv.note HM1 true⟩
end Go.Proofs.Ytjpkkpflamkjkaa
