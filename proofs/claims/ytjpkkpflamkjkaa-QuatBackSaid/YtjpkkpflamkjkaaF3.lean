import Derived.Test.YtjpkkpflamkjkaaF2
set_option linter.unusedSimpArgs false
set_option linter.unusedVariables false
namespace Go.Proofs.Ytjpkkpflamkjkaa
open Go.RowKit
theorem and1w (q : Int) (h0 : 0 ≤ q) (h1 : q ≤ 18446744073709551615) : bits .and .u64 q 1 = q % 2 := by
  obtain ⟨n, rfl⟩ := Int.eq_ofNat_of_zero_le h0
  have h := bits_and_u64_nat n 1 (by omega) (by omega)
  have e : n &&& 1 = n % 2 := Nat.and_two_pow_sub_one_eq_mod n 1
  rw [e] at h
  exact h
theorem orw (k : Nat) (x y : Int) (h : k ≤ 63) (hx : x % 2 ^ k = 0) (hx0 : 0 ≤ x) (hx1 : x ≤ 18446744073709551615) (hy0 : 0 ≤ y) (hy : y < 2 ^ k) : bits .or .u64 x y = x + y := by
  have e : ((2 ^ k : Nat) : Int) = (2 : Int) ^ k := by simp
  have : 2 ^ k ≤ 2 ^ 63 := Nat.pow_le_pow_right (by decide) h
  exact bits_join .u64 64 (by decide) (fun n a b => IntWalk.u64_in n (by omega)) k x y hx0 hx (by omega) hy0 hy (by omega)
theorem dn_hi (p : Int) : hw p / 4294967296 = hw (p / 4294967296) := by unfold hw; omega
theorem dn_lo (p : Int) : bits .or .u64 (IntKind.u64.wrap (IntKind.u64.wrap (hw p) * 4294967296)) (lw p / 4294967296) = lw (p / 4294967296) := by
  rw [orw 32 _ _ (by decide) (by simp only [IntKind.wrap_u64]; omega) (u64w_lo _) (u64w_hi _) (by unfold lw; omega) (by unfold lw; omega)]
  simp only [IntKind.wrap_u64]
  unfold lw hw; omega
theorem dn_rest (p : Int) : IntKind.u32.wrap (lw p) = p % 4294967296 := by rw [IntKind.wrap_u32]; unfold lw; omega
theorem rsh_bd (p : Int) (h0 : -85070591730234615865843651857942052864 ≤ p) (h1 : p ≤ 85070591730234615865843651857942052864) : -170141183460469231731687303715884105728 ≤ rsh p ∧ rsh p ≤ 170141183460469231731687303715884105727 := by
  unfold rsh; split <;> omega
set_option maxHeartbeats 4000000 in
theorem cFMul (x y : Int) (b : Nat) (o : Bool) (w : World) (x0 : -9223372036854775808 ≤ x) (x1 : x ≤ 9223372036854775807) (y0 : -9223372036854775808 ≤ y) (y1 : y ≤ 9223372036854775807)
    (hc : w.cell? ⟨b, 0, none⟩ = some (.bool o)) (hf : w.frozen? ⟨b, 0, none⟩ = false) :
    Calls Try.prog 33 #[.pointer (some ⟨b, 0, none⟩), .int .i64 x, .int .i64 y] w fun e w' => e = .returned (.int .i64 (sat (rsh (x * y)))) ∧ Mv b (o || !fx (rsh (x * y))) w w' := by
  obtain ⟨m0, m1⟩ := mul_bd x y x0 x1 y0 y1
  obtain ⟨p, hp⟩ : ∃ p, x * y = p := ⟨_, rfl⟩
  rw [hp] at m0 m1 ⊢
  obtain ⟨q, hq⟩ : ∃ q, p / 4294967296 = q := ⟨_, rfl⟩
  obtain ⟨R, hR⟩ : ∃ R, p % 4294967296 = R := ⟨_, rfl⟩
  have e1 := dn_hi p
  have e2 := dn_lo p
  have e3 := dn_rest p
  rw [hq] at e1 e2
  rw [hR] at e3
  have e4 := and1w (lw q) (lw_lo q) (lw_hi q)
  have e5 : lw q % 2 = q % 2 := by unfold lw; omega
  rw [e5] at e4
  have b0 : -170141183460469231731687303715884105728 ≤ q := by omega
  have b1 : q ≤ 85070591730234615865843651857942052864 := by omega
  have e6 : cw (q + 1) = q + 1 := cw_yes _ (by omega) (by omega)
  have e7 : fw (q + 1) = true := fw_yes _ (by omega) (by omega)
  have hs : rsh p = if 2147483648 < R ∨ (R = 2147483648 ∧ q % 2 = 1) then q + 1 else q := by unfold rsh; rw [hq, hR]
  rcases (show 2147483648 < R ∨ (R = 2147483648 ∧ q % 2 = 1) ∨ (R = 2147483648 ∧ q % 2 = 0) ∨ R < 2147483648 from by omega) with u | ⟨u, v⟩ | ⟨u, v⟩ | u
  · rw [if_pos (Or.inl u)] at hs
    rw [hs]
    have HQ := Lib.hid hq
    have HRR := Lib.hid hR
    clear hq hR hs e5
    go_enter Try.func33, Try.ntmps33
    go_wp2_with fail; refine (cWMul _ _ _ (by omega) (by omega) (by omega) (by omega)).mono ?_; rintro e w9 ⟨rfl, hB9⟩
    have HM := (Mv.refl hc hf).below hB9
    have hbz := lt_of_cell HM.cell
    have hsz := HM.size
    have hcb := HM.cell
    have hfb := HM.free
    clear hc hf
    go_upto_region 5 with (fail)
    go_region_with (first
        | (go_at_call 55; refine (cWOf _ _ (by decide) (by decide)).mono ?_; rintro e w1 ⟨rfl, hR⟩; have hcR := bsome hR; have hfR := bfrozen hR)
        | (go_at_call 56; refine (nWAdd _ _ _ (by omega) (by omega) (by decide) (by decide)).mono ?_; rintro e w1 ⟨rfl, hR⟩; have hcR := bsome hR; have hfR := bfrozen hR))
    all_goals have k0 : w1.cell? ⟨w9.heap.size + 1, 0, none⟩ = some (.int .i64 (hw q)) := by simp (maxDischargeDepth := 8) [go_sem, *]
    all_goals have k1 : w1.cell? ⟨w9.heap.size + 1, 1, none⟩ = some (.int .u64 (lw q)) := by simp (maxDischargeDepth := 8) [go_sem, *]
    all_goals have k2 : w1.frozen? ⟨w9.heap.size + 1, 0, none⟩ = false := by simp (maxDischargeDepth := 8) [go_sem, *]
    all_goals have k3 : w1.frozen? ⟨w9.heap.size + 1, 1, none⟩ = false := by simp (maxDischargeDepth := 8) [go_sem, *]
    all_goals have HM2 : Mv b o w w1 := by (repeat (first | with_reducible assumption | with_reducible exact Mv.refl (by assumption) (by assumption) | with_reducible apply Mv.alloc | with_reducible apply Mv.drew | with_reducible apply Mv.drewN | ((with_reducible apply Mv.setCell); rotate_left; (first | (dsimp only; omega) | omega | (simp; omega)); (first | (dsimp only; omega) | omega | (simp; omega))) | ((with_reducible apply Mv.below); rotate_left; (with_reducible assumption)) | ((with_reducible apply Mv.trans); rotate_left; (with_reducible assumption))))
    all_goals clear hcR hfR
    all_goals have hc := HM2.cell
    all_goals have hf := HM2.free
    all_goals go_wp2_with (fail)
    all_goals refine (cFit _ b o _ (by omega) (by omega) (by simp (maxDischargeDepth := 8) [go_sem, *]) (by simp (maxDischargeDepth := 8) [go_sem, *])).mono ?_
    all_goals rintro e w4 ⟨rfl, hM⟩
    all_goals go_wp2_with fail
    all_goals go_ret
    all_goals exact ⟨rfl, Mv.trans (o := o) (by (repeat (first | with_reducible assumption | with_reducible exact Mv.refl (by assumption) (by assumption) | with_reducible apply Mv.alloc | with_reducible apply Mv.drew | with_reducible apply Mv.drewN | ((with_reducible apply Mv.setCell); rotate_left; (first | (dsimp only; omega) | omega | (simp; omega)); (first | (dsimp only; omega) | omega | (simp; omega))) | ((with_reducible apply Mv.below); rotate_left; (with_reducible assumption)) | ((with_reducible apply Mv.trans); rotate_left; (with_reducible assumption))))) hM⟩
  · rw [if_pos (Or.inr ⟨u, v⟩)] at hs
    have u1 : ¬ 2147483648 < R := by omega
    rw [hs]
    have HQ := Lib.hid hq
    have HRR := Lib.hid hR
    clear hq hR hs e5
    go_enter Try.func33, Try.ntmps33
    go_wp2_with fail; refine (cWMul _ _ _ (by omega) (by omega) (by omega) (by omega)).mono ?_; rintro e w9 ⟨rfl, hB9⟩
    have HM := (Mv.refl hc hf).below hB9
    have hbz := lt_of_cell HM.cell
    have hsz := HM.size
    have hcb := HM.cell
    have hfb := HM.free
    clear hc hf
    go_upto_region 5 with (fail)
    go_region_with (first
        | (go_at_call 55; refine (cWOf _ _ (by decide) (by decide)).mono ?_; rintro e w1 ⟨rfl, hR⟩; have hcR := bsome hR; have hfR := bfrozen hR)
        | (go_at_call 56; refine (nWAdd _ _ _ (by omega) (by omega) (by decide) (by decide)).mono ?_; rintro e w1 ⟨rfl, hR⟩; have hcR := bsome hR; have hfR := bfrozen hR))
    all_goals have k0 : w1.cell? ⟨w9.heap.size + 1, 0, none⟩ = some (.int .i64 (hw q)) := by simp (maxDischargeDepth := 8) [go_sem, *]
    all_goals have k1 : w1.cell? ⟨w9.heap.size + 1, 1, none⟩ = some (.int .u64 (lw q)) := by simp (maxDischargeDepth := 8) [go_sem, *]
    all_goals have k2 : w1.frozen? ⟨w9.heap.size + 1, 0, none⟩ = false := by simp (maxDischargeDepth := 8) [go_sem, *]
    all_goals have k3 : w1.frozen? ⟨w9.heap.size + 1, 1, none⟩ = false := by simp (maxDischargeDepth := 8) [go_sem, *]
    all_goals have HM2 : Mv b o w w1 := by (repeat (first | with_reducible assumption | with_reducible exact Mv.refl (by assumption) (by assumption) | with_reducible apply Mv.alloc | with_reducible apply Mv.drew | with_reducible apply Mv.drewN | ((with_reducible apply Mv.setCell); rotate_left; (first | (dsimp only; omega) | omega | (simp; omega)); (first | (dsimp only; omega) | omega | (simp; omega))) | ((with_reducible apply Mv.below); rotate_left; (with_reducible assumption)) | ((with_reducible apply Mv.trans); rotate_left; (with_reducible assumption))))
    all_goals clear hcR hfR
    all_goals have hc := HM2.cell
    all_goals have hf := HM2.free
    all_goals go_wp2_with (fail)
    all_goals refine (cFit _ b o _ (by omega) (by omega) (by simp (maxDischargeDepth := 8) [go_sem, *]) (by simp (maxDischargeDepth := 8) [go_sem, *])).mono ?_
    all_goals rintro e w4 ⟨rfl, hM⟩
    all_goals go_wp2_with fail
    all_goals go_ret
    all_goals exact ⟨rfl, Mv.trans (o := o) (by (repeat (first | with_reducible assumption | with_reducible exact Mv.refl (by assumption) (by assumption) | with_reducible apply Mv.alloc | with_reducible apply Mv.drew | with_reducible apply Mv.drewN | ((with_reducible apply Mv.setCell); rotate_left; (first | (dsimp only; omega) | omega | (simp; omega)); (first | (dsimp only; omega) | omega | (simp; omega))) | ((with_reducible apply Mv.below); rotate_left; (with_reducible assumption)) | ((with_reducible apply Mv.trans); rotate_left; (with_reducible assumption))))) hM⟩
  · have u1 : ¬ 2147483648 < R := by omega
    rw [if_neg (by omega)] at hs
    rw [hs]
    have HQ := Lib.hid hq
    have HRR := Lib.hid hR
    clear hq hR hs e5
    go_enter Try.func33, Try.ntmps33
    go_wp2_with fail; refine (cWMul _ _ _ (by omega) (by omega) (by omega) (by omega)).mono ?_; rintro e w9 ⟨rfl, hB9⟩
    have HM := (Mv.refl hc hf).below hB9
    have hbz := lt_of_cell HM.cell
    have hsz := HM.size
    have hcb := HM.cell
    have hfb := HM.free
    clear hc hf
    go_wp2_with (fail)
    refine (cFit _ b o _ (by omega) (by omega) (by simp (maxDischargeDepth := 8) [go_sem, *]) (by simp (maxDischargeDepth := 8) [go_sem, *])).mono ?_
    rintro e w4 ⟨rfl, hM⟩
    go_wp2_with fail
    go_ret
    exact ⟨rfl, Mv.trans (o := o) (by (repeat (first | with_reducible assumption | with_reducible exact Mv.refl (by assumption) (by assumption) | with_reducible apply Mv.alloc | with_reducible apply Mv.drew | with_reducible apply Mv.drewN | ((with_reducible apply Mv.setCell); rotate_left; (first | (dsimp only; omega) | omega | (simp; omega)); (first | (dsimp only; omega) | omega | (simp; omega))) | ((with_reducible apply Mv.below); rotate_left; (with_reducible assumption)) | ((with_reducible apply Mv.trans); rotate_left; (with_reducible assumption))))) hM⟩
  · have u1 : ¬ 2147483648 < R := by omega
    have u2 : R ≠ 2147483648 := by omega
    rw [if_neg (by omega)] at hs
    rw [hs]
    have HQ := Lib.hid hq
    have HRR := Lib.hid hR
    clear hq hR hs e5
    go_enter Try.func33, Try.ntmps33
    go_wp2_with fail; refine (cWMul _ _ _ (by omega) (by omega) (by omega) (by omega)).mono ?_; rintro e w9 ⟨rfl, hB9⟩
    have HM := (Mv.refl hc hf).below hB9
    have hbz := lt_of_cell HM.cell
    have hsz := HM.size
    have hcb := HM.cell
    have hfb := HM.free
    clear hc hf
    go_wp2_with (fail)
    refine (cFit _ b o _ (by omega) (by omega) (by simp (maxDischargeDepth := 8) [go_sem, *]) (by simp (maxDischargeDepth := 8) [go_sem, *])).mono ?_
    rintro e w4 ⟨rfl, hM⟩
    go_wp2_with fail
    go_ret
    exact ⟨rfl, Mv.trans (o := o) (by (repeat (first | with_reducible assumption | with_reducible exact Mv.refl (by assumption) (by assumption) | with_reducible apply Mv.alloc | with_reducible apply Mv.drew | with_reducible apply Mv.drewN | ((with_reducible apply Mv.setCell); rotate_left; (first | (dsimp only; omega) | omega | (simp; omega)); (first | (dsimp only; omega) | omega | (simp; omega))) | ((with_reducible apply Mv.below); rotate_left; (with_reducible assumption)) | ((with_reducible apply Mv.trans); rotate_left; (with_reducible assumption))))) hM⟩
