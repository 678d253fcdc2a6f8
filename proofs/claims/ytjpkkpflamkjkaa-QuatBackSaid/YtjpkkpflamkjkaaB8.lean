/- The contract of the document's square (chapter 1). -/
import Derived.Test.YtjpkkpflamkjkaaB6
set_option linter.unusedSimpArgs false
set_option linter.unusedVariables false
namespace Go.Proofs.Ytjpkkpflamkjkaa
open Go.RowKit
set_option maxHeartbeats 8000000 in
theorem cRSquare (n : Int) (w : World) (n0 : 0 ≤ n) (n1 : n ≤ 18446744073709551615) :
    Calls Try.prog 94 #[.int .u64 n] w fun e w' => e = .returned (.agg #[.int .u64 (d0 (n * n)), .int .u64 (d1 (n * n)), .int .u64 (d2 (n * n)), .int .u64 (d3 (n * n))]) ∧ Below w.heap.size w w' := by
  obtain ⟨l0, hl0⟩ : ∃ t, n % 4294967296 = t := ⟨_, rfl⟩
  obtain ⟨l1, hl1⟩ : ∃ t, n / 4294967296 = t := ⟨_, rfl⟩
  have pr : ∀ u v : Int, 0 ≤ u → u ≤ 4294967295 → 0 ≤ v → v ≤ 4294967295 → 0 ≤ u * v ∧ u * v ≤ 18446744065119617025 := fun u v h1 h2 h3 h4 => ⟨Int.mul_nonneg h1 h3, Int.le_trans (Int.mul_le_mul h2 h4 h3 (by decide)) (by decide)⟩
  have bl0 : 0 ≤ l0 ∧ l0 ≤ 4294967295 := by omega
  have bl1 : 0 ≤ l1 ∧ l1 ≤ 4294967295 := by omega
  have p00 := pr l0 l0 (by omega) (by omega) (by omega) (by omega)
  have p01 := pr l0 l1 (by omega) (by omega) (by omega) (by omega)
  have p10 := pr l1 l0 (by omega) (by omega) (by omega) (by omega)
  have p11 := pr l1 l1 (by omega) (by omega) (by omega) (by omega)
  obtain ⟨A, hA⟩ : ∃ t, l0 * l0 = t := ⟨_, rfl⟩
  obtain ⟨B, hB⟩ : ∃ t, l0 * l1 = t := ⟨_, rfl⟩
  obtain ⟨C, hC⟩ : ∃ t, l1 * l0 = t := ⟨_, rfl⟩
  obtain ⟨D, hD⟩ : ∃ t, l1 * l1 = t := ⟨_, rfl⟩
  rw [hA] at p00; rw [hB] at p01; rw [hC] at p10; rw [hD] at p11
  obtain ⟨m, hm⟩ : ∃ t, n * n = t := ⟨_, rfl⟩
  have XY : Hid (m = A + (B + C) * 4294967296 + D * 18446744073709551616) := Lib.hid (by
    rw [← hm, show n = l0 + l1 * 4294967296 by omega, Int.add_mul, Int.mul_add, Int.mul_add, hA, ← Int.mul_assoc, hB, Int.mul_right_comm l1, hC, Int.mul_right_comm l1 4294967296, ← Int.mul_assoc l1, hD]
    omega)
  rw [hm]
  clear hm
  have wA : IntKind.u64.wrap (l0 * l0) = A := by rw [hA, IntKind.wrap_u64]; omega
  have wB : IntKind.u64.wrap (l0 * l1) = B := by rw [hB, IntKind.wrap_u64]; omega
  have wC : IntKind.u64.wrap (l1 * l0) = C := by rw [hC, IntKind.wrap_u64]; omega
  have wD : IntKind.u64.wrap (l1 * l1) = D := by rw [hD, IntKind.wrap_u64]; omega
  clear hA hB hC hD pr
  go_enter Try.func94, Try.ntmps94
  go_wp2_with (first | (go_at_call 92; refine (cRLow _ _ (by omega) (by omega)).mono ?_; rintro e w1 ⟨rfl, rfl⟩))
  clear hl0 hl1
  go_name_world W0 hW0
  have hz : W0.heap.size = w.heap.size + 1 + 1 + 1 := by rw [← hW0]; simp
  have BW : Below w.heap.size w W0 := by rw [← hW0]; (repeat (first | with_reducible assumption | with_reducible exact Below.refl _ _ | ((with_reducible refine Below.setCell ?_ ?_ _); rotate_left; (first | exact Nat.le_refl _ | (dsimp only; omega) | (simp; done) | (simp; omega))) | with_reducible refine below_alloc ?_ _ | with_reducible apply below_drewN | with_reducible apply Below.drew | with_reducible refine below_step ?_ (by assumption)))
  have rc0_0 : W0.cell? ⟨w.heap.size, 0, none⟩ = some (.int .u64 0) := by rw [← hW0]; simp [go_sem]
  have rf0_0 : W0.frozen? ⟨w.heap.size, 0, none⟩ = false := by rw [← hW0]; simp [go_sem]
  have rc0_1 : W0.cell? ⟨w.heap.size, 1, none⟩ = some (.int .u64 0) := by rw [← hW0]; simp [go_sem]
  have rf0_1 : W0.frozen? ⟨w.heap.size, 1, none⟩ = false := by rw [← hW0]; simp [go_sem]
  have rc0_2 : W0.cell? ⟨w.heap.size, 2, none⟩ = some (.int .u64 0) := by rw [← hW0]; simp [go_sem]
  have rf0_2 : W0.frozen? ⟨w.heap.size, 2, none⟩ = false := by rw [← hW0]; simp [go_sem]
  have rc0_3 : W0.cell? ⟨w.heap.size, 3, none⟩ = some (.int .u64 0) := by rw [← hW0]; simp [go_sem]
  have rf0_3 : W0.frozen? ⟨w.heap.size, 3, none⟩ = false := by rw [← hW0]; simp [go_sem]
  have rc1_0 : W0.cell? ⟨w.heap.size + 1, 0, none⟩ = some (.int .u64 l0) := by rw [← hW0]; simp [go_sem]
  have rc1_1 : W0.cell? ⟨w.heap.size + 1, 1, none⟩ = some (.int .u64 l1) := by rw [← hW0]; simp [go_sem]
  have rc2_0 : W0.cell? ⟨w.heap.size + 1 + 1, 0, none⟩ = some (.int .u64 0) := by rw [← hW0]; simp [go_sem]
  have rf2_0 : W0.frozen? ⟨w.heap.size + 1 + 1, 0, none⟩ = false := by rw [← hW0]; simp [go_sem]
  have rc2_1 : W0.cell? ⟨w.heap.size + 1 + 1, 1, none⟩ = some (.int .u64 0) := by rw [← hW0]; simp [go_sem]
  have rf2_1 : W0.frozen? ⟨w.heap.size + 1 + 1, 1, none⟩ = false := by rw [← hW0]; simp [go_sem]
  have rc2_2 : W0.cell? ⟨w.heap.size + 1 + 1, 2, none⟩ = some (.int .u64 0) := by rw [← hW0]; simp [go_sem]
  have rf2_2 : W0.frozen? ⟨w.heap.size + 1 + 1, 2, none⟩ = false := by rw [← hW0]; simp [go_sem]
  have rc2_3 : W0.cell? ⟨w.heap.size + 1 + 1, 3, none⟩ = some (.int .u64 0) := by rw [← hW0]; simp [go_sem]
  have rf2_3 : W0.frozen? ⟨w.heap.size + 1 + 1, 3, none⟩ = false := by rw [← hW0]; simp [go_sem]
  clear hW0
  refine wp_loop_rounds 3 ?_
  rw [rounds_succ]
  go_upto_block 2 with (fail)
  go_wp2_with (fail)
  refine wp_loop_rounds 3 ?_
  rw [rounds_succ]
  go_upto_block 3 with (fail)
  have hS0 : St0 W0 (w.heap.size + 1 + 1) 0 0 0 0 W0 := ⟨Below.refl _ _, rfl, rc2_0, rc2_1, rc2_2, rc2_3, rf2_0, rf2_1, rf2_2, rf2_3⟩
  have hD : Hid (Dg 0 0 0 0) := Lib.hid (by unfold Dg; omega)
  have HP : Hid (av 0 0 0 0 + A * pw 0 = A) := Lib.hid (by simp [av, pw])
  go_cut [] (fun wx => ∃ o0 o1 o2 o3 : Int, St0 W0 (w.heap.size + 1 + 1) o0 o1 o2 o3 wx ∧ Hid (Dg o0 o1 o2 o3) ∧ Hid (av o0 o1 o2 o3 = A))
  case first =>
    go_upto_region 9 with (fail)
    go_quiet (fail)
    go_wp2_with (fail)
    have hS := hS0.drewN nq
    go_loopw [7, 8] (fun c at_ wx => ∃ (o0 o1 o2 o3 cc aa : Int), c = .int .u64 cc ∧ at_ = .int .i64 aa ∧ St0 W0 (w.heap.size + 1 + 1) o0 o1 o2 o3 wx ∧ 0 ≤ cc ∧ cc ≤ 18446744073709551615 ∧ 0 ≤ aa ∧ aa ≤ 4 ∧ Hid (Dg o0 o1 o2 o3) ∧ Hid (av o0 o1 o2 o3 + cc * pw aa = A)) (fun _ at_ _ => (4 - RowKit.intOf at_).toNat)
    case atStart => exact ⟨0, 0, 0, 0, A, 0, rfl, rfl, hS, by omega, by omega, by omega, by omega, hD, HP⟩
    case round =>
      obtain ⟨o0, o1, o2, o3, cc, aa, rfl, rfl, ⟨b0, bz, c0, c1, c2, c3, f0, f1, f2, f3⟩, C0, C1, A0, A1, HD, HV⟩ := hrel
      by_cases hc : cc = 0
      · subst hc
        by_cases h4 : aa = 4
        · subst h4
          go_wp2_with (fail)
          go_meet
          case rel => exact ⟨o0, o1, o2, o3, ⟨b0, bz, c0, c1, c2, c3, f0, f1, f2, f3⟩, HD, Lib.hid (by have := HV.out; omega)⟩
        · have h4 : aa < 4 := by omega
          go_wp2_with (fail)
          go_meet
          case rel => exact ⟨o0, o1, o2, o3, ⟨b0, bz, c0, c1, c2, c3, f0, f1, f2, f3⟩, HD, Lib.hid (by have := HV.out; omega)⟩
      · have hp : 0 < cc := by omega
        obtain ⟨lc, hlc⟩ : ∃ t, cc % 4294967296 = t := ⟨_, rfl⟩
        obtain ⟨ch, hch⟩ : ∃ t, cc / 4294967296 = t := ⟨_, rfl⟩
        rcases (show aa = 0 ∨ aa = 1 ∨ aa = 2 ∨ aa = 3 ∨ aa = 4 by omega) with h | h | h | h | h
        · subst h
          obtain ⟨s, hs⟩ : ∃ t, o0 + lc = t := ⟨_, rfl⟩
          obtain ⟨sl, hsl⟩ : ∃ t, s % 4294967296 = t := ⟨_, rfl⟩
          obtain ⟨sh, hsh⟩ : ∃ t, s / 4294967296 = t := ⟨_, rfl⟩
          obtain ⟨C2, hC2⟩ : ∃ t, ch + sh = t := ⟨_, rfl⟩
          have DD := HD.out
          unfold Dg at DD
          have ws : IntKind.u64.wrap (o0 + lc) = s := by rw [IntKind.wrap_u64]; omega
          have wc : IntKind.u64.wrap (ch + sh) = C2 := by rw [IntKind.wrap_u64]; omega
          have k0 : 0 ≤ s := by omega
          have k1 : s ≤ 18446744073709551615 := by omega
          have K : Hid (Dg sl o1 o2 o3 ∧ av sl o1 o2 o3 + C2 * pw 1 = A ∧ 0 ≤ C2 ∧ C2 ≤ 18446744073709551615) := Lib.hid (by have V := HV.out; simp only [av, pw, Dg] at V ⊢; simp at V ⊢; refine ⟨?_, ?_, ?_, ?_⟩ <;> omega)
          clear DD hs hC2
          go_upto_region 13 with (fail)
          go_region_held3 (fun (w' : World) => w'.cell? ⟨w.heap.size + 1 + 1, 0, none⟩ = some (.int .u64 o0)) (first | exact c0 | exact (by assumption) | simp [*]) (first | (go_at_call 92; refine (cRLow _ _ (by omega) (by omega)).mono ?_; rintro e w1 ⟨rfl, rfl⟩))
          go_wp2_with (first | (go_at_call 92; refine (cRLow _ _ (by omega) (by omega)).mono ?_; rintro e w1 ⟨rfl, rfl⟩))
          obtain ⟨k1, k2, k3, k4⟩ := K.out
          have hs1 := (St0.drew (⟨b0, bz, c0, c1, c2, c3, f0, f1, f2, f3⟩ : St0 W0 (w.heap.size + 1 + 1) o0 o1 o2 o3 _)).set0 sl
          exact ⟨⟨sl, o1, o2, o3, C2, 1, rfl, rfl, hs1, k3, k4, by omega, by omega, Lib.hid k1, Lib.hid k2⟩, by simp [RowKit.intOf]⟩
        · subst h
          obtain ⟨s, hs⟩ : ∃ t, o1 + lc = t := ⟨_, rfl⟩
          obtain ⟨sl, hsl⟩ : ∃ t, s % 4294967296 = t := ⟨_, rfl⟩
          obtain ⟨sh, hsh⟩ : ∃ t, s / 4294967296 = t := ⟨_, rfl⟩
          obtain ⟨C2, hC2⟩ : ∃ t, ch + sh = t := ⟨_, rfl⟩
          have DD := HD.out
          unfold Dg at DD
          have ws : IntKind.u64.wrap (o1 + lc) = s := by rw [IntKind.wrap_u64]; omega
          have wc : IntKind.u64.wrap (ch + sh) = C2 := by rw [IntKind.wrap_u64]; omega
          have k0 : 0 ≤ s := by omega
          have k1 : s ≤ 18446744073709551615 := by omega
          have K : Hid (Dg o0 sl o2 o3 ∧ av o0 sl o2 o3 + C2 * pw 2 = A ∧ 0 ≤ C2 ∧ C2 ≤ 18446744073709551615) := Lib.hid (by have V := HV.out; simp only [av, pw, Dg] at V ⊢; simp at V ⊢; refine ⟨?_, ?_, ?_, ?_⟩ <;> omega)
          clear DD hs hC2
          go_upto_region 13 with (fail)
          go_region_held3 (fun (w' : World) => w'.cell? ⟨w.heap.size + 1 + 1, 1, none⟩ = some (.int .u64 o1)) (first | exact c1 | exact (by assumption) | simp [*]) (first | (go_at_call 92; refine (cRLow _ _ (by omega) (by omega)).mono ?_; rintro e w1 ⟨rfl, rfl⟩))
          go_wp2_with (first | (go_at_call 92; refine (cRLow _ _ (by omega) (by omega)).mono ?_; rintro e w1 ⟨rfl, rfl⟩))
          obtain ⟨k1, k2, k3, k4⟩ := K.out
          have hs1 := (St0.drew (⟨b0, bz, c0, c1, c2, c3, f0, f1, f2, f3⟩ : St0 W0 (w.heap.size + 1 + 1) o0 o1 o2 o3 _)).set1 sl
          exact ⟨⟨o0, sl, o2, o3, C2, 2, rfl, rfl, hs1, k3, k4, by omega, by omega, Lib.hid k1, Lib.hid k2⟩, by simp [RowKit.intOf]⟩
        · subst h
          obtain ⟨s, hs⟩ : ∃ t, o2 + lc = t := ⟨_, rfl⟩
          obtain ⟨sl, hsl⟩ : ∃ t, s % 4294967296 = t := ⟨_, rfl⟩
          obtain ⟨sh, hsh⟩ : ∃ t, s / 4294967296 = t := ⟨_, rfl⟩
          obtain ⟨C2, hC2⟩ : ∃ t, ch + sh = t := ⟨_, rfl⟩
          have DD := HD.out
          unfold Dg at DD
          have ws : IntKind.u64.wrap (o2 + lc) = s := by rw [IntKind.wrap_u64]; omega
          have wc : IntKind.u64.wrap (ch + sh) = C2 := by rw [IntKind.wrap_u64]; omega
          have k0 : 0 ≤ s := by omega
          have k1 : s ≤ 18446744073709551615 := by omega
          have K : Hid (Dg o0 o1 sl o3 ∧ av o0 o1 sl o3 + C2 * pw 3 = A ∧ 0 ≤ C2 ∧ C2 ≤ 18446744073709551615) := Lib.hid (by have V := HV.out; simp only [av, pw, Dg] at V ⊢; simp at V ⊢; refine ⟨?_, ?_, ?_, ?_⟩ <;> omega)
          clear DD hs hC2
          go_upto_region 13 with (fail)
          go_region_held3 (fun (w' : World) => w'.cell? ⟨w.heap.size + 1 + 1, 2, none⟩ = some (.int .u64 o2)) (first | exact c2 | exact (by assumption) | simp [*]) (first | (go_at_call 92; refine (cRLow _ _ (by omega) (by omega)).mono ?_; rintro e w1 ⟨rfl, rfl⟩))
          go_wp2_with (first | (go_at_call 92; refine (cRLow _ _ (by omega) (by omega)).mono ?_; rintro e w1 ⟨rfl, rfl⟩))
          obtain ⟨k1, k2, k3, k4⟩ := K.out
          have hs1 := (St0.drew (⟨b0, bz, c0, c1, c2, c3, f0, f1, f2, f3⟩ : St0 W0 (w.heap.size + 1 + 1) o0 o1 o2 o3 _)).set2 sl
          exact ⟨⟨o0, o1, sl, o3, C2, 3, rfl, rfl, hs1, k3, k4, by omega, by omega, Lib.hid k1, Lib.hid k2⟩, by simp [RowKit.intOf]⟩
        · subst h
          obtain ⟨s, hs⟩ : ∃ t, o3 + lc = t := ⟨_, rfl⟩
          obtain ⟨sl, hsl⟩ : ∃ t, s % 4294967296 = t := ⟨_, rfl⟩
          obtain ⟨sh, hsh⟩ : ∃ t, s / 4294967296 = t := ⟨_, rfl⟩
          obtain ⟨C2, hC2⟩ : ∃ t, ch + sh = t := ⟨_, rfl⟩
          have DD := HD.out
          unfold Dg at DD
          have ws : IntKind.u64.wrap (o3 + lc) = s := by rw [IntKind.wrap_u64]; omega
          have wc : IntKind.u64.wrap (ch + sh) = C2 := by rw [IntKind.wrap_u64]; omega
          have k0 : 0 ≤ s := by omega
          have k1 : s ≤ 18446744073709551615 := by omega
          have K : Hid (Dg o0 o1 o2 sl ∧ av o0 o1 o2 sl + C2 * pw 4 = A ∧ 0 ≤ C2 ∧ C2 ≤ 18446744073709551615) := Lib.hid (by have V := HV.out; simp only [av, pw, Dg] at V ⊢; simp at V ⊢; refine ⟨?_, ?_, ?_, ?_⟩ <;> omega)
          clear DD hs hC2
          go_upto_region 13 with (fail)
          go_region_held3 (fun (w' : World) => w'.cell? ⟨w.heap.size + 1 + 1, 3, none⟩ = some (.int .u64 o3)) (first | exact c3 | exact (by assumption) | simp [*]) (first | (go_at_call 92; refine (cRLow _ _ (by omega) (by omega)).mono ?_; rintro e w1 ⟨rfl, rfl⟩))
          go_wp2_with (first | (go_at_call 92; refine (cRLow _ _ (by omega) (by omega)).mono ?_; rintro e w1 ⟨rfl, rfl⟩))
          obtain ⟨k1, k2, k3, k4⟩ := K.out
          have hs1 := (St0.drew (⟨b0, bz, c0, c1, c2, c3, f0, f1, f2, f3⟩ : St0 W0 (w.heap.size + 1 + 1) o0 o1 o2 o3 _)).set3 sl
          exact ⟨⟨o0, o1, o2, sl, C2, 4, rfl, rfl, hs1, k3, k4, by omega, by omega, Lib.hid k1, Lib.hid k2⟩, by simp [RowKit.intOf]⟩
        · subst h
          exfalso; have V := HV.out; have DD := HD.out; simp only [av, pw, Dg] at V DD; simp at V; omega
  case rest =>
    obtain ⟨p0_0, p0_1, p0_2, p0_3, ⟨b0, bz, c0, c1, c2, c3, f0, f1, f2, f3⟩, HD, HV⟩ := hcut
    clear hS0 hD HP
    have rl1_0 := (b0.cell (p := ⟨w.heap.size + 1, 0, none⟩) (by dsimp only; omega)).trans rc1_0
    have rl1_1 := (b0.cell (p := ⟨w.heap.size + 1, 1, none⟩) (by dsimp only; omega)).trans rc1_1
    go_wp2_with (fail)
    rw [rounds_succ]
    go_upto_block 3 with (fail)
    have hS0 : St0 W0 (w.heap.size + 1 + 1) p0_0 p0_1 p0_2 p0_3 _ := ⟨b0, bz, c0, c1, c2, c3, f0, f1, f2, f3⟩
    have hD := HD
    have HP : Hid (av p0_0 p0_1 p0_2 p0_3 + B * pw 1 = (A + B * 4294967296)) := Lib.hid (by have V := HV.out; simp [pw]; omega)
    clear c0 c1 c2 c3 f0 f1 f2 f3
    go_cut [] (fun wx => ∃ o0 o1 o2 o3 : Int, St0 W0 (w.heap.size + 1 + 1) o0 o1 o2 o3 wx ∧ Hid (Dg o0 o1 o2 o3) ∧ Hid (av o0 o1 o2 o3 = (A + B * 4294967296)))
    case first =>
      go_upto_region 9 with (fail)
      go_quiet (fail)
      go_wp2_with (fail)
      have hS := hS0.drewN nq
      go_loopw [7, 8] (fun c at_ wx => ∃ (o0 o1 o2 o3 cc aa : Int), c = .int .u64 cc ∧ at_ = .int .i64 aa ∧ St0 W0 (w.heap.size + 1 + 1) o0 o1 o2 o3 wx ∧ 0 ≤ cc ∧ cc ≤ 18446744073709551615 ∧ 1 ≤ aa ∧ aa ≤ 4 ∧ Hid (Dg o0 o1 o2 o3) ∧ Hid (av o0 o1 o2 o3 + cc * pw aa = (A + B * 4294967296))) (fun _ at_ _ => (4 - RowKit.intOf at_).toNat)
      case atStart => exact ⟨p0_0, p0_1, p0_2, p0_3, B, 1, rfl, rfl, hS, by omega, by omega, by omega, by omega, hD, HP⟩
      case round =>
        obtain ⟨o0, o1, o2, o3, cc, aa, rfl, rfl, ⟨b0, bz, c0, c1, c2, c3, f0, f1, f2, f3⟩, C0, C1, A0, A1, HD, HV⟩ := hrel
        by_cases hc : cc = 0
        · subst hc
          by_cases h4 : aa = 4
          · subst h4
            go_wp2_with (fail)
            go_meet
            case rel => exact ⟨o0, o1, o2, o3, ⟨b0, bz, c0, c1, c2, c3, f0, f1, f2, f3⟩, HD, Lib.hid (by have := HV.out; omega)⟩
          · have h4 : aa < 4 := by omega
            go_wp2_with (fail)
            go_meet
            case rel => exact ⟨o0, o1, o2, o3, ⟨b0, bz, c0, c1, c2, c3, f0, f1, f2, f3⟩, HD, Lib.hid (by have := HV.out; omega)⟩
        · have hp : 0 < cc := by omega
          obtain ⟨lc, hlc⟩ : ∃ t, cc % 4294967296 = t := ⟨_, rfl⟩
          obtain ⟨ch, hch⟩ : ∃ t, cc / 4294967296 = t := ⟨_, rfl⟩
          rcases (show aa = 1 ∨ aa = 2 ∨ aa = 3 ∨ aa = 4 by omega) with h | h | h | h
          · subst h
            obtain ⟨s, hs⟩ : ∃ t, o1 + lc = t := ⟨_, rfl⟩
            obtain ⟨sl, hsl⟩ : ∃ t, s % 4294967296 = t := ⟨_, rfl⟩
            obtain ⟨sh, hsh⟩ : ∃ t, s / 4294967296 = t := ⟨_, rfl⟩
            obtain ⟨C2, hC2⟩ : ∃ t, ch + sh = t := ⟨_, rfl⟩
            have DD := HD.out
            unfold Dg at DD
            have ws : IntKind.u64.wrap (o1 + lc) = s := by rw [IntKind.wrap_u64]; omega
            have wc : IntKind.u64.wrap (ch + sh) = C2 := by rw [IntKind.wrap_u64]; omega
            have k0 : 0 ≤ s := by omega
            have k1 : s ≤ 18446744073709551615 := by omega
            have K : Hid (Dg o0 sl o2 o3 ∧ av o0 sl o2 o3 + C2 * pw 2 = (A + B * 4294967296) ∧ 0 ≤ C2 ∧ C2 ≤ 18446744073709551615) := Lib.hid (by have V := HV.out; simp only [av, pw, Dg] at V ⊢; simp at V ⊢; refine ⟨?_, ?_, ?_, ?_⟩ <;> omega)
            clear DD hs hC2
            go_upto_region 13 with (fail)
            go_region_held3 (fun (w' : World) => w'.cell? ⟨w.heap.size + 1 + 1, 1, none⟩ = some (.int .u64 o1)) (first | exact c1 | exact (by assumption) | simp [*]) (first | (go_at_call 92; refine (cRLow _ _ (by omega) (by omega)).mono ?_; rintro e w1 ⟨rfl, rfl⟩))
            go_wp2_with (first | (go_at_call 92; refine (cRLow _ _ (by omega) (by omega)).mono ?_; rintro e w1 ⟨rfl, rfl⟩))
            obtain ⟨k1, k2, k3, k4⟩ := K.out
            have hs1 := (St0.drew (⟨b0, bz, c0, c1, c2, c3, f0, f1, f2, f3⟩ : St0 W0 (w.heap.size + 1 + 1) o0 o1 o2 o3 _)).set1 sl
            exact ⟨⟨o0, sl, o2, o3, C2, 2, rfl, rfl, hs1, k3, k4, by omega, by omega, Lib.hid k1, Lib.hid k2⟩, by simp [RowKit.intOf]⟩
          · subst h
            obtain ⟨s, hs⟩ : ∃ t, o2 + lc = t := ⟨_, rfl⟩
            obtain ⟨sl, hsl⟩ : ∃ t, s % 4294967296 = t := ⟨_, rfl⟩
            obtain ⟨sh, hsh⟩ : ∃ t, s / 4294967296 = t := ⟨_, rfl⟩
            obtain ⟨C2, hC2⟩ : ∃ t, ch + sh = t := ⟨_, rfl⟩
            have DD := HD.out
            unfold Dg at DD
            have ws : IntKind.u64.wrap (o2 + lc) = s := by rw [IntKind.wrap_u64]; omega
            have wc : IntKind.u64.wrap (ch + sh) = C2 := by rw [IntKind.wrap_u64]; omega
            have k0 : 0 ≤ s := by omega
            have k1 : s ≤ 18446744073709551615 := by omega
            have K : Hid (Dg o0 o1 sl o3 ∧ av o0 o1 sl o3 + C2 * pw 3 = (A + B * 4294967296) ∧ 0 ≤ C2 ∧ C2 ≤ 18446744073709551615) := Lib.hid (by have V := HV.out; simp only [av, pw, Dg] at V ⊢; simp at V ⊢; refine ⟨?_, ?_, ?_, ?_⟩ <;> omega)
            clear DD hs hC2
            go_upto_region 13 with (fail)
            go_region_held3 (fun (w' : World) => w'.cell? ⟨w.heap.size + 1 + 1, 2, none⟩ = some (.int .u64 o2)) (first | exact c2 | exact (by assumption) | simp [*]) (first | (go_at_call 92; refine (cRLow _ _ (by omega) (by omega)).mono ?_; rintro e w1 ⟨rfl, rfl⟩))
            go_wp2_with (first | (go_at_call 92; refine (cRLow _ _ (by omega) (by omega)).mono ?_; rintro e w1 ⟨rfl, rfl⟩))
            obtain ⟨k1, k2, k3, k4⟩ := K.out
            have hs1 := (St0.drew (⟨b0, bz, c0, c1, c2, c3, f0, f1, f2, f3⟩ : St0 W0 (w.heap.size + 1 + 1) o0 o1 o2 o3 _)).set2 sl
            exact ⟨⟨o0, o1, sl, o3, C2, 3, rfl, rfl, hs1, k3, k4, by omega, by omega, Lib.hid k1, Lib.hid k2⟩, by simp [RowKit.intOf]⟩
          · subst h
            obtain ⟨s, hs⟩ : ∃ t, o3 + lc = t := ⟨_, rfl⟩
            obtain ⟨sl, hsl⟩ : ∃ t, s % 4294967296 = t := ⟨_, rfl⟩
            obtain ⟨sh, hsh⟩ : ∃ t, s / 4294967296 = t := ⟨_, rfl⟩
            obtain ⟨C2, hC2⟩ : ∃ t, ch + sh = t := ⟨_, rfl⟩
            have DD := HD.out
            unfold Dg at DD
            have ws : IntKind.u64.wrap (o3 + lc) = s := by rw [IntKind.wrap_u64]; omega
            have wc : IntKind.u64.wrap (ch + sh) = C2 := by rw [IntKind.wrap_u64]; omega
            have k0 : 0 ≤ s := by omega
            have k1 : s ≤ 18446744073709551615 := by omega
            have K : Hid (Dg o0 o1 o2 sl ∧ av o0 o1 o2 sl + C2 * pw 4 = (A + B * 4294967296) ∧ 0 ≤ C2 ∧ C2 ≤ 18446744073709551615) := Lib.hid (by have V := HV.out; simp only [av, pw, Dg] at V ⊢; simp at V ⊢; refine ⟨?_, ?_, ?_, ?_⟩ <;> omega)
            clear DD hs hC2
            go_upto_region 13 with (fail)
            go_region_held3 (fun (w' : World) => w'.cell? ⟨w.heap.size + 1 + 1, 3, none⟩ = some (.int .u64 o3)) (first | exact c3 | exact (by assumption) | simp [*]) (first | (go_at_call 92; refine (cRLow _ _ (by omega) (by omega)).mono ?_; rintro e w1 ⟨rfl, rfl⟩))
            go_wp2_with (first | (go_at_call 92; refine (cRLow _ _ (by omega) (by omega)).mono ?_; rintro e w1 ⟨rfl, rfl⟩))
            obtain ⟨k1, k2, k3, k4⟩ := K.out
            have hs1 := (St0.drew (⟨b0, bz, c0, c1, c2, c3, f0, f1, f2, f3⟩ : St0 W0 (w.heap.size + 1 + 1) o0 o1 o2 o3 _)).set3 sl
            exact ⟨⟨o0, o1, o2, sl, C2, 4, rfl, rfl, hs1, k3, k4, by omega, by omega, Lib.hid k1, Lib.hid k2⟩, by simp [RowKit.intOf]⟩
          · subst h
            exfalso; have V := HV.out; have DD := HD.out; simp only [av, pw, Dg] at V DD; simp at V; omega
    case rest =>
      obtain ⟨p1_0, p1_1, p1_2, p1_3, ⟨b0, bz, c0, c1, c2, c3, f0, f1, f2, f3⟩, HD, HV⟩ := hcut
      clear hS0 hD HP
      have rl1_0 := (b0.cell (p := ⟨w.heap.size + 1, 0, none⟩) (by dsimp only; omega)).trans rc1_0
      have rl1_1 := (b0.cell (p := ⟨w.heap.size + 1, 1, none⟩) (by dsimp only; omega)).trans rc1_1
      go_wp2_with (fail)
      rw [rounds_succ]
      go_wp2_with (fail)
      rw [rounds_succ]
      go_wp2_with (fail)
      refine wp_loop_rounds 3 ?_
      rw [rounds_succ]
      go_upto_block 3 with (fail)
      have hS0 : St0 W0 (w.heap.size + 1 + 1) p1_0 p1_1 p1_2 p1_3 _ := ⟨b0, bz, c0, c1, c2, c3, f0, f1, f2, f3⟩
      have hD := HD
      have HP : Hid (av p1_0 p1_1 p1_2 p1_3 + C * pw 1 = (A + (B + C) * 4294967296)) := Lib.hid (by have V := HV.out; simp [pw]; omega)
      clear c0 c1 c2 c3 f0 f1 f2 f3
      go_cut [] (fun wx => ∃ o0 o1 o2 o3 : Int, St0 W0 (w.heap.size + 1 + 1) o0 o1 o2 o3 wx ∧ Hid (Dg o0 o1 o2 o3) ∧ Hid (av o0 o1 o2 o3 = (A + (B + C) * 4294967296)))
      case first =>
        go_upto_region 9 with (fail)
        go_quiet (fail)
        go_wp2_with (fail)
        have hS := hS0.drewN nq
        go_loopw [7, 8] (fun c at_ wx => ∃ (o0 o1 o2 o3 cc aa : Int), c = .int .u64 cc ∧ at_ = .int .i64 aa ∧ St0 W0 (w.heap.size + 1 + 1) o0 o1 o2 o3 wx ∧ 0 ≤ cc ∧ cc ≤ 18446744073709551615 ∧ 1 ≤ aa ∧ aa ≤ 4 ∧ Hid (Dg o0 o1 o2 o3) ∧ Hid (av o0 o1 o2 o3 + cc * pw aa = (A + (B + C) * 4294967296))) (fun _ at_ _ => (4 - RowKit.intOf at_).toNat)
        case atStart => exact ⟨p1_0, p1_1, p1_2, p1_3, C, 1, rfl, rfl, hS, by omega, by omega, by omega, by omega, hD, HP⟩
        case round =>
          obtain ⟨o0, o1, o2, o3, cc, aa, rfl, rfl, ⟨b0, bz, c0, c1, c2, c3, f0, f1, f2, f3⟩, C0, C1, A0, A1, HD, HV⟩ := hrel
          by_cases hc : cc = 0
          · subst hc
            by_cases h4 : aa = 4
            · subst h4
              go_wp2_with (fail)
              go_meet
              case rel => exact ⟨o0, o1, o2, o3, ⟨b0, bz, c0, c1, c2, c3, f0, f1, f2, f3⟩, HD, Lib.hid (by have := HV.out; omega)⟩
            · have h4 : aa < 4 := by omega
              go_wp2_with (fail)
              go_meet
              case rel => exact ⟨o0, o1, o2, o3, ⟨b0, bz, c0, c1, c2, c3, f0, f1, f2, f3⟩, HD, Lib.hid (by have := HV.out; omega)⟩
          · have hp : 0 < cc := by omega
            obtain ⟨lc, hlc⟩ : ∃ t, cc % 4294967296 = t := ⟨_, rfl⟩
            obtain ⟨ch, hch⟩ : ∃ t, cc / 4294967296 = t := ⟨_, rfl⟩
            rcases (show aa = 1 ∨ aa = 2 ∨ aa = 3 ∨ aa = 4 by omega) with h | h | h | h
            · subst h
              obtain ⟨s, hs⟩ : ∃ t, o1 + lc = t := ⟨_, rfl⟩
              obtain ⟨sl, hsl⟩ : ∃ t, s % 4294967296 = t := ⟨_, rfl⟩
              obtain ⟨sh, hsh⟩ : ∃ t, s / 4294967296 = t := ⟨_, rfl⟩
              obtain ⟨C2, hC2⟩ : ∃ t, ch + sh = t := ⟨_, rfl⟩
              have DD := HD.out
              unfold Dg at DD
              have ws : IntKind.u64.wrap (o1 + lc) = s := by rw [IntKind.wrap_u64]; omega
              have wc : IntKind.u64.wrap (ch + sh) = C2 := by rw [IntKind.wrap_u64]; omega
              have k0 : 0 ≤ s := by omega
              have k1 : s ≤ 18446744073709551615 := by omega
              have K : Hid (Dg o0 sl o2 o3 ∧ av o0 sl o2 o3 + C2 * pw 2 = (A + (B + C) * 4294967296) ∧ 0 ≤ C2 ∧ C2 ≤ 18446744073709551615) := Lib.hid (by have V := HV.out; simp only [av, pw, Dg] at V ⊢; simp at V ⊢; refine ⟨?_, ?_, ?_, ?_⟩ <;> omega)
              clear DD hs hC2
              go_upto_region 13 with (fail)
              go_region_held3 (fun (w' : World) => w'.cell? ⟨w.heap.size + 1 + 1, 1, none⟩ = some (.int .u64 o1)) (first | exact c1 | exact (by assumption) | simp [*]) (first | (go_at_call 92; refine (cRLow _ _ (by omega) (by omega)).mono ?_; rintro e w1 ⟨rfl, rfl⟩))
              go_wp2_with (first | (go_at_call 92; refine (cRLow _ _ (by omega) (by omega)).mono ?_; rintro e w1 ⟨rfl, rfl⟩))
              obtain ⟨k1, k2, k3, k4⟩ := K.out
              have hs1 := (St0.drew (⟨b0, bz, c0, c1, c2, c3, f0, f1, f2, f3⟩ : St0 W0 (w.heap.size + 1 + 1) o0 o1 o2 o3 _)).set1 sl
              exact ⟨⟨o0, sl, o2, o3, C2, 2, rfl, rfl, hs1, k3, k4, by omega, by omega, Lib.hid k1, Lib.hid k2⟩, by simp [RowKit.intOf]⟩
            · subst h
              obtain ⟨s, hs⟩ : ∃ t, o2 + lc = t := ⟨_, rfl⟩
              obtain ⟨sl, hsl⟩ : ∃ t, s % 4294967296 = t := ⟨_, rfl⟩
              obtain ⟨sh, hsh⟩ : ∃ t, s / 4294967296 = t := ⟨_, rfl⟩
              obtain ⟨C2, hC2⟩ : ∃ t, ch + sh = t := ⟨_, rfl⟩
              have DD := HD.out
              unfold Dg at DD
              have ws : IntKind.u64.wrap (o2 + lc) = s := by rw [IntKind.wrap_u64]; omega
              have wc : IntKind.u64.wrap (ch + sh) = C2 := by rw [IntKind.wrap_u64]; omega
              have k0 : 0 ≤ s := by omega
              have k1 : s ≤ 18446744073709551615 := by omega
              have K : Hid (Dg o0 o1 sl o3 ∧ av o0 o1 sl o3 + C2 * pw 3 = (A + (B + C) * 4294967296) ∧ 0 ≤ C2 ∧ C2 ≤ 18446744073709551615) := Lib.hid (by have V := HV.out; simp only [av, pw, Dg] at V ⊢; simp at V ⊢; refine ⟨?_, ?_, ?_, ?_⟩ <;> omega)
              clear DD hs hC2
              go_upto_region 13 with (fail)
              go_region_held3 (fun (w' : World) => w'.cell? ⟨w.heap.size + 1 + 1, 2, none⟩ = some (.int .u64 o2)) (first | exact c2 | exact (by assumption) | simp [*]) (first | (go_at_call 92; refine (cRLow _ _ (by omega) (by omega)).mono ?_; rintro e w1 ⟨rfl, rfl⟩))
              go_wp2_with (first | (go_at_call 92; refine (cRLow _ _ (by omega) (by omega)).mono ?_; rintro e w1 ⟨rfl, rfl⟩))
              obtain ⟨k1, k2, k3, k4⟩ := K.out
              have hs1 := (St0.drew (⟨b0, bz, c0, c1, c2, c3, f0, f1, f2, f3⟩ : St0 W0 (w.heap.size + 1 + 1) o0 o1 o2 o3 _)).set2 sl
              exact ⟨⟨o0, o1, sl, o3, C2, 3, rfl, rfl, hs1, k3, k4, by omega, by omega, Lib.hid k1, Lib.hid k2⟩, by simp [RowKit.intOf]⟩
            · subst h
              obtain ⟨s, hs⟩ : ∃ t, o3 + lc = t := ⟨_, rfl⟩
              obtain ⟨sl, hsl⟩ : ∃ t, s % 4294967296 = t := ⟨_, rfl⟩
              obtain ⟨sh, hsh⟩ : ∃ t, s / 4294967296 = t := ⟨_, rfl⟩
              obtain ⟨C2, hC2⟩ : ∃ t, ch + sh = t := ⟨_, rfl⟩
              have DD := HD.out
              unfold Dg at DD
              have ws : IntKind.u64.wrap (o3 + lc) = s := by rw [IntKind.wrap_u64]; omega
              have wc : IntKind.u64.wrap (ch + sh) = C2 := by rw [IntKind.wrap_u64]; omega
              have k0 : 0 ≤ s := by omega
              have k1 : s ≤ 18446744073709551615 := by omega
              have K : Hid (Dg o0 o1 o2 sl ∧ av o0 o1 o2 sl + C2 * pw 4 = (A + (B + C) * 4294967296) ∧ 0 ≤ C2 ∧ C2 ≤ 18446744073709551615) := Lib.hid (by have V := HV.out; simp only [av, pw, Dg] at V ⊢; simp at V ⊢; refine ⟨?_, ?_, ?_, ?_⟩ <;> omega)
              clear DD hs hC2
              go_upto_region 13 with (fail)
              go_region_held3 (fun (w' : World) => w'.cell? ⟨w.heap.size + 1 + 1, 3, none⟩ = some (.int .u64 o3)) (first | exact c3 | exact (by assumption) | simp [*]) (first | (go_at_call 92; refine (cRLow _ _ (by omega) (by omega)).mono ?_; rintro e w1 ⟨rfl, rfl⟩))
              go_wp2_with (first | (go_at_call 92; refine (cRLow _ _ (by omega) (by omega)).mono ?_; rintro e w1 ⟨rfl, rfl⟩))
              obtain ⟨k1, k2, k3, k4⟩ := K.out
              have hs1 := (St0.drew (⟨b0, bz, c0, c1, c2, c3, f0, f1, f2, f3⟩ : St0 W0 (w.heap.size + 1 + 1) o0 o1 o2 o3 _)).set3 sl
              exact ⟨⟨o0, o1, o2, sl, C2, 4, rfl, rfl, hs1, k3, k4, by omega, by omega, Lib.hid k1, Lib.hid k2⟩, by simp [RowKit.intOf]⟩
            · subst h
              exfalso; have V := HV.out; have DD := HD.out; simp only [av, pw, Dg] at V DD; simp at V; omega
      case rest =>
        obtain ⟨p2_0, p2_1, p2_2, p2_3, ⟨b0, bz, c0, c1, c2, c3, f0, f1, f2, f3⟩, HD, HV⟩ := hcut
        clear hS0 hD HP
        have rl1_0 := (b0.cell (p := ⟨w.heap.size + 1, 0, none⟩) (by dsimp only; omega)).trans rc1_0
        have rl1_1 := (b0.cell (p := ⟨w.heap.size + 1, 1, none⟩) (by dsimp only; omega)).trans rc1_1
        go_wp2_with (fail)
        rw [rounds_succ]
        go_upto_block 3 with (fail)
        have hS0 : St0 W0 (w.heap.size + 1 + 1) p2_0 p2_1 p2_2 p2_3 _ := ⟨b0, bz, c0, c1, c2, c3, f0, f1, f2, f3⟩
        have hD := HD
        have HP : Hid (av p2_0 p2_1 p2_2 p2_3 + D * pw 2 = (A + (B + C) * 4294967296 + D * 18446744073709551616)) := Lib.hid (by have V := HV.out; simp [pw]; omega)
        clear c0 c1 c2 c3 f0 f1 f2 f3
        go_cut [] (fun wx => ∃ o0 o1 o2 o3 : Int, St0 W0 (w.heap.size + 1 + 1) o0 o1 o2 o3 wx ∧ Hid (Dg o0 o1 o2 o3) ∧ Hid (av o0 o1 o2 o3 = (A + (B + C) * 4294967296 + D * 18446744073709551616)))
        case first =>
          go_upto_region 9 with (fail)
          go_quiet (fail)
          go_wp2_with (fail)
          have hS := hS0.drewN nq
          go_loopw [7, 8] (fun c at_ wx => ∃ (o0 o1 o2 o3 cc aa : Int), c = .int .u64 cc ∧ at_ = .int .i64 aa ∧ St0 W0 (w.heap.size + 1 + 1) o0 o1 o2 o3 wx ∧ 0 ≤ cc ∧ cc ≤ 18446744073709551615 ∧ 2 ≤ aa ∧ aa ≤ 4 ∧ Hid (Dg o0 o1 o2 o3) ∧ Hid (av o0 o1 o2 o3 + cc * pw aa = (A + (B + C) * 4294967296 + D * 18446744073709551616))) (fun _ at_ _ => (4 - RowKit.intOf at_).toNat)
          case atStart => exact ⟨p2_0, p2_1, p2_2, p2_3, D, 2, rfl, rfl, hS, by omega, by omega, by omega, by omega, hD, HP⟩
          case round =>
            obtain ⟨o0, o1, o2, o3, cc, aa, rfl, rfl, ⟨b0, bz, c0, c1, c2, c3, f0, f1, f2, f3⟩, C0, C1, A0, A1, HD, HV⟩ := hrel
            by_cases hc : cc = 0
            · subst hc
              by_cases h4 : aa = 4
              · subst h4
                go_wp2_with (fail)
                go_meet
                case rel => exact ⟨o0, o1, o2, o3, ⟨b0, bz, c0, c1, c2, c3, f0, f1, f2, f3⟩, HD, Lib.hid (by have := HV.out; omega)⟩
              · have h4 : aa < 4 := by omega
                go_wp2_with (fail)
                go_meet
                case rel => exact ⟨o0, o1, o2, o3, ⟨b0, bz, c0, c1, c2, c3, f0, f1, f2, f3⟩, HD, Lib.hid (by have := HV.out; omega)⟩
            · have hp : 0 < cc := by omega
              obtain ⟨lc, hlc⟩ : ∃ t, cc % 4294967296 = t := ⟨_, rfl⟩
              obtain ⟨ch, hch⟩ : ∃ t, cc / 4294967296 = t := ⟨_, rfl⟩
              rcases (show aa = 2 ∨ aa = 3 ∨ aa = 4 by omega) with h | h | h
              · subst h
                obtain ⟨s, hs⟩ : ∃ t, o2 + lc = t := ⟨_, rfl⟩
                obtain ⟨sl, hsl⟩ : ∃ t, s % 4294967296 = t := ⟨_, rfl⟩
                obtain ⟨sh, hsh⟩ : ∃ t, s / 4294967296 = t := ⟨_, rfl⟩
                obtain ⟨C2, hC2⟩ : ∃ t, ch + sh = t := ⟨_, rfl⟩
                have DD := HD.out
                unfold Dg at DD
                have ws : IntKind.u64.wrap (o2 + lc) = s := by rw [IntKind.wrap_u64]; omega
                have wc : IntKind.u64.wrap (ch + sh) = C2 := by rw [IntKind.wrap_u64]; omega
                have k0 : 0 ≤ s := by omega
                have k1 : s ≤ 18446744073709551615 := by omega
                have K : Hid (Dg o0 o1 sl o3 ∧ av o0 o1 sl o3 + C2 * pw 3 = (A + (B + C) * 4294967296 + D * 18446744073709551616) ∧ 0 ≤ C2 ∧ C2 ≤ 18446744073709551615) := Lib.hid (by have V := HV.out; simp only [av, pw, Dg] at V ⊢; simp at V ⊢; refine ⟨?_, ?_, ?_, ?_⟩ <;> omega)
                clear DD hs hC2
                go_upto_region 13 with (fail)
                go_region_held3 (fun (w' : World) => w'.cell? ⟨w.heap.size + 1 + 1, 2, none⟩ = some (.int .u64 o2)) (first | exact c2 | exact (by assumption) | simp [*]) (first | (go_at_call 92; refine (cRLow _ _ (by omega) (by omega)).mono ?_; rintro e w1 ⟨rfl, rfl⟩))
                go_wp2_with (first | (go_at_call 92; refine (cRLow _ _ (by omega) (by omega)).mono ?_; rintro e w1 ⟨rfl, rfl⟩))
                obtain ⟨k1, k2, k3, k4⟩ := K.out
                have hs1 := (St0.drew (⟨b0, bz, c0, c1, c2, c3, f0, f1, f2, f3⟩ : St0 W0 (w.heap.size + 1 + 1) o0 o1 o2 o3 _)).set2 sl
                exact ⟨⟨o0, o1, sl, o3, C2, 3, rfl, rfl, hs1, k3, k4, by omega, by omega, Lib.hid k1, Lib.hid k2⟩, by simp [RowKit.intOf]⟩
              · subst h
                obtain ⟨s, hs⟩ : ∃ t, o3 + lc = t := ⟨_, rfl⟩
                obtain ⟨sl, hsl⟩ : ∃ t, s % 4294967296 = t := ⟨_, rfl⟩
                obtain ⟨sh, hsh⟩ : ∃ t, s / 4294967296 = t := ⟨_, rfl⟩
                obtain ⟨C2, hC2⟩ : ∃ t, ch + sh = t := ⟨_, rfl⟩
                have DD := HD.out
                unfold Dg at DD
                have ws : IntKind.u64.wrap (o3 + lc) = s := by rw [IntKind.wrap_u64]; omega
                have wc : IntKind.u64.wrap (ch + sh) = C2 := by rw [IntKind.wrap_u64]; omega
                have k0 : 0 ≤ s := by omega
                have k1 : s ≤ 18446744073709551615 := by omega
                have K : Hid (Dg o0 o1 o2 sl ∧ av o0 o1 o2 sl + C2 * pw 4 = (A + (B + C) * 4294967296 + D * 18446744073709551616) ∧ 0 ≤ C2 ∧ C2 ≤ 18446744073709551615) := Lib.hid (by have V := HV.out; simp only [av, pw, Dg] at V ⊢; simp at V ⊢; refine ⟨?_, ?_, ?_, ?_⟩ <;> omega)
                clear DD hs hC2
                go_upto_region 13 with (fail)
                go_region_held3 (fun (w' : World) => w'.cell? ⟨w.heap.size + 1 + 1, 3, none⟩ = some (.int .u64 o3)) (first | exact c3 | exact (by assumption) | simp [*]) (first | (go_at_call 92; refine (cRLow _ _ (by omega) (by omega)).mono ?_; rintro e w1 ⟨rfl, rfl⟩))
                go_wp2_with (first | (go_at_call 92; refine (cRLow _ _ (by omega) (by omega)).mono ?_; rintro e w1 ⟨rfl, rfl⟩))
                obtain ⟨k1, k2, k3, k4⟩ := K.out
                have hs1 := (St0.drew (⟨b0, bz, c0, c1, c2, c3, f0, f1, f2, f3⟩ : St0 W0 (w.heap.size + 1 + 1) o0 o1 o2 o3 _)).set3 sl
                exact ⟨⟨o0, o1, o2, sl, C2, 4, rfl, rfl, hs1, k3, k4, by omega, by omega, Lib.hid k1, Lib.hid k2⟩, by simp [RowKit.intOf]⟩
              · subst h
                exfalso; have V := HV.out; have DD := HD.out; simp only [av, pw, Dg] at V DD; simp at V; omega
        case rest =>
          obtain ⟨p3_0, p3_1, p3_2, p3_3, ⟨b0, bz, c0, c1, c2, c3, f0, f1, f2, f3⟩, HD, HV⟩ := hcut
          clear hS0 hD HP
          have rl1_0 := (b0.cell (p := ⟨w.heap.size + 1, 0, none⟩) (by dsimp only; omega)).trans rc1_0
          have rl1_1 := (b0.cell (p := ⟨w.heap.size + 1, 1, none⟩) (by dsimp only; omega)).trans rc1_1
          obtain ⟨dd0, dd1, dd2, dd3⟩ := HD.out
          obtain ⟨e0, e1, e2, e3⟩ := d_av _ _ _ _ dd0 dd1 dd2 dd3
          have hm2 := HV.out.trans XY.out.symm
          rw [hm2] at e0 e1 e2 e3
          have rr0 := (b0.cell (p := ⟨w.heap.size, 0, none⟩) (by dsimp only; omega)).trans rc0_0
          have rg0 := (b0.frozen (p := ⟨w.heap.size, 0, none⟩) (by dsimp only; omega)).trans rf0_0
          have rr1 := (b0.cell (p := ⟨w.heap.size, 1, none⟩) (by dsimp only; omega)).trans rc0_1
          have rg1 := (b0.frozen (p := ⟨w.heap.size, 1, none⟩) (by dsimp only; omega)).trans rf0_1
          have rr2 := (b0.cell (p := ⟨w.heap.size, 2, none⟩) (by dsimp only; omega)).trans rc0_2
          have rg2 := (b0.frozen (p := ⟨w.heap.size, 2, none⟩) (by dsimp only; omega)).trans rf0_2
          have rr3 := (b0.cell (p := ⟨w.heap.size, 3, none⟩) (by dsimp only; omega)).trans rc0_3
          have rg3 := (b0.frozen (p := ⟨w.heap.size, 3, none⟩) (by dsimp only; omega)).trans rf0_3
          have HBB := BW.trans (b0.mono (by omega))
          clear hm2 dd0 dd1 dd2 dd3 HV HD XY wA wB wC wD p00 p01 p10 p11 bl0 bl1 rl1_0 rl1_1 rc1_0 rc1_1 b0 BW
          subst e0 e1 e2 e3
          go_wp2_with (fail)
          rw [rounds_succ]
          go_wp2_with (fail)
          rw [rounds_succ]
          go_wp2
          simp (maxDischargeDepth := 8) [bodyPost, results, Try.results94, go_sem, *]
          repeat (first | exact HBB | refine Below.setCell ?_ (by first | exact Nat.le_refl _ | (dsimp only; omega)) _)
end Go.Proofs.Ytjpkkpflamkjkaa
