/- Contracts of package wide that hold a loop or a long division. -/
import Derived.Test.YtcijddjfadcanaaA2
set_option linter.unusedSimpArgs false
set_option linter.unusedVariables false
namespace Go.Proofs.Ytcijddjfadcanaa
open Go.RowKit

theorem cWRoot (ah al : Int) (w : World) (h0 : -9223372036854775808 ≤ ah) (h1 : ah ≤ 9223372036854775807) (h2 : 0 ≤ al) (h3 : al ≤ 18446744073709551615) :
    Calls Try.prog 33 #[.agg #[.int .i64 ah, .int .u64 al]] w fun e w' => e = .returned (.int .u64 (rt (wv ah al))) ∧ Below w.heap.size w w' := by
  by_cases z0 : ah < 0
  · have E1 := Lib.hid (rt_neg (wv ah al) (by unfold wv; omega))
    go_enter Try.func33, Try.ntmps33
    go_wp2
    go_ret
    exact ⟨by rw [E1.out]; rfl, by (repeat (first | exact Below.refl _ _ | assumption | apply Below.drew | apply below_drewN | refine below_alloc ?_ _ | refine below_step ?_ (by assumption) | refine Below.alloc ?_ (by first | exact Nat.le_refl _ | omega | (simp; omega) | simp) _ | refine Below.setCell ?_ (by first | exact Nat.le_refl _ | omega | (simp; omega) | simp) _))⟩
  · by_cases z1 : ah = 0 ∧ al = 0
    · obtain ⟨rfl, rfl⟩ := z1
      go_enter Try.func33, Try.ntmps33
      go_wp2
      go_ret
      exact ⟨rfl, by (repeat (first | exact Below.refl _ _ | assumption | apply Below.drew | apply below_drewN | refine below_alloc ?_ _ | refine below_step ?_ (by assumption) | refine Below.alloc ?_ (by first | exact Nat.le_refl _ | omega | (simp; omega) | simp) _ | refine Below.setCell ?_ (by first | exact Nat.le_refl _ | omega | (simp; omega) | simp) _))⟩
    · have key : ((ah == 0) = true ∧ (al == 0) = false) ∨ (ah == 0) = false := by simp; omega
      have hN : 1 ≤ wv ah al := by unfold wv; omega
      have hN' : wv ah al ≤ 170141183460469231731687303715884105727 := wv_hi _ _ h1 h3
      clear z1
      rcases key with ⟨c6, c7⟩ | c6
      all_goals
        go_enter Try.func33, Try.ntmps33
        go_wp2
        go_loopw [4, 5] (fun lo hi wr => ∃ l h : Int, lo = .int .u64 l ∧ hi = .int .u64 h ∧ 1 ≤ l ∧ l ≤ h ∧ h ≤ 13835058055282163712 ∧ Hid (l * l ≤ wv ah al ∧ wv ah al < (h + 1) * (h + 1)) ∧ Below w.heap.size w wr ∧ w.heap.size + 1 < wr.heap.size ∧ wr.cell? ⟨w.heap.size + 1, 0, none⟩ = some (.int .u64 ah) ∧ wr.cell? ⟨w.heap.size + 1, 1, none⟩ = some (.int .u64 al)) (fun lo hi _ => (RowKit.intOf hi - RowKit.intOf lo).toNat)
        case atStart =>
          refine ⟨1, 13835058055282163712, rfl, rfl, by omega, by omega, by omega, Lib.hid ⟨by omega, by omega⟩, ?_, ?_, ?_, ?_⟩
          · (repeat (first | exact Below.refl _ _ | assumption | apply Below.drew | apply below_drewN | refine below_alloc ?_ _ | refine below_step ?_ (by assumption) | refine Below.alloc ?_ (by first | exact Nat.le_refl _ | omega | (simp; omega) | simp) _ | refine Below.setCell ?_ (by first | exact Nat.le_refl _ | omega | (simp; omega) | simp) _))
          · simp
          · simp [go_sem]
          · simp [go_sem]
        case round =>
          obtain ⟨l, h, rfl, rfl, hl, hlh, hh, HS, hB, hz, q0, q1⟩ := hrel
          by_cases hlt : l < h
          · by_cases hm : wv ah al < (l + (h - l + 1) / 2) * (l + (h - l + 1) / 2)
            · have hd : decide (wv ah al < (l + (h - l + 1) / 2) * (l + (h - l + 1) / 2)) = true := decide_eq_true hm
              have HM := Lib.hid hm
              clear hm
              go_wp2_with (first | (go_at_call 56; refine (cMul64 _ _ (by omega) (by omega) (by omega) (by omega) _).mono ?_; rintro e w' ⟨rfl, rfl⟩) | (go_at_call 48; refine (cBelow _ _ _ _ _ h2 h3 (lw_lo _) (lw_hi _)).mono ?_; rintro e w1 ⟨rfl, hb⟩))
              refine ⟨⟨l, _, rfl, rfl, hl, by omega, by omega, Lib.hid ⟨HS.out.1, ?_⟩, hB.trans (hb.mono (by have := hB.size; omega)), by have := hb.size; omega, cell_later hb q0, cell_later hb q1⟩, by simp [RowKit.intOf]; omega⟩
              have hm := HM.out
              rw [show l + (h - l + 1) / 2 - 1 + 1 = l + (h - l + 1) / 2 from by omega]
              exact hm
            · have hd : decide (wv ah al < (l + (h - l + 1) / 2) * (l + (h - l + 1) / 2)) = false := decide_eq_false hm
              have HM := Lib.hid hm
              clear hm
              go_wp2_with (first | (go_at_call 56; refine (cMul64 _ _ (by omega) (by omega) (by omega) (by omega) _).mono ?_; rintro e w' ⟨rfl, rfl⟩) | (go_at_call 48; refine (cBelow _ _ _ _ _ h2 h3 (lw_lo _) (lw_hi _)).mono ?_; rintro e w1 ⟨rfl, hb⟩))
              refine ⟨⟨_, h, rfl, rfl, by omega, by omega, by omega, Lib.hid ⟨?_, HS.out.2⟩, hB.trans (hb.mono (by have := hB.size; omega)), by have := hb.size; omega, cell_later hb q0, cell_later hb q1⟩, by simp [RowKit.intOf]; omega⟩
              have hm := HM.out
              omega
          · obtain rfl : l = h := by omega
            go_wp2
            go_ret
            refine ⟨?_, hB⟩
            rw [rt_unique (wv ah al) l (by omega) HS.out.1 HS.out.2]
            rfl

theorem dbl_hi (r : Int) (h0 : 0 ≤ r) (h1 : r ≤ 170141183460469231731687303715884105727) : bits .or .u64 (IntKind.u64.wrap (hw r * 2)) (lw r / 9223372036854775808) = hw (2 * r) := by
  have e : IntKind.u64.wrap (hw r * 2) = hw r * 2 := IntWalk.u64_in _ (by unfold hw; omega)
  rw [e, bits_join .u64 64 (by decide) (fun n a b => IntWalk.u64_in n (by omega)) 1 _ _ (by unfold hw; omega) (by unfold hw; omega) (by unfold hw; omega) (by unfold lw; omega) (by unfold lw; omega) (by unfold lw; omega)]
  unfold hw lw; omega
theorem dbl_lo (r : Int) : IntKind.u64.wrap (lw r * 2) = lw (2 * r) := by
  rw [IntKind.wrap_u64]; unfold lw; omega
theorem take_lo (r h l : Int) : (lw r - l) % 18446744073709551616 = lw (r - wv h l) := by unfold lw wv; omega
theorem take_hi (r h l : Int) (h0 : 0 ≤ l) (h1 : l ≤ 18446744073709551615) (g0 : 0 ≤ r - wv h l) (g1 : r - wv h l ≤ 170141183460469231731687303715884105727) : (hw r - h - bor (lw r) l) % 18446744073709551616 = hw (r - wv h l) := by
  unfold bor; split <;> (unfold hw lw wv at *; omega)
theorem or1_u32 (m : Int) (h0 : 0 ≤ m) (h1 : m * 2 ≤ 4294967294) : bits .or .u32 (m * 2) 1 = m * 2 + 1 :=
  bits_join .u32 32 (by decide) (fun n a b => IntWalk.u32_in n (by omega)) 1 _ _ (by omega) (by omega) (by omega) (by omega) (by omega) (by omega)
/-- A number's part of another one, in parts of 2^32. -/
def pt (a b : Int) : Int := if 0 ≤ a ∧ a < b then a * 4294967296 / b else 0
theorem pow_succ2 (k : Nat) : (2 : Int) ^ (k + 1) = 2 * 2 ^ k := by rw [Int.pow_succ]; omega
theorem pt_step0 (a b r m : Int) (k : Nat) (hb : 0 < b) (h : r = a * 2 ^ k % b ∧ m = a * 2 ^ k / b) (hlt : 2 * r < b) (hr : 0 ≤ r) :
    2 * r = a * 2 ^ (k + 1) % b ∧ m * 2 = a * 2 ^ (k + 1) / b := by
  have e := Int.mul_ediv_add_emod (a * 2 ^ k) b
  rw [← h.1, ← h.2] at e
  have e2 : a * 2 ^ (k + 1) = 2 * r + b * (m * 2) := by rw [pow_succ2]; grind
  rw [e2, Int.add_mul_emod_self_left, Int.add_mul_ediv_left _ _ (by omega), Int.emod_eq_of_lt (by omega) hlt, Int.ediv_eq_zero_of_lt (by omega) hlt]
  omega
theorem pt_step1 (a b r m : Int) (k : Nat) (hb : 0 < b) (h : r = a * 2 ^ k % b ∧ m = a * 2 ^ k / b) (hlt : ¬ 2 * r < b) (hr : r < b) :
    2 * r - b = a * 2 ^ (k + 1) % b ∧ m * 2 + 1 = a * 2 ^ (k + 1) / b := by
  have e := Int.mul_ediv_add_emod (a * 2 ^ k) b
  rw [← h.1, ← h.2] at e
  have e2 : a * 2 ^ (k + 1) = (2 * r - b) + b * (m * 2 + 1) := by rw [pow_succ2]; grind
  rw [e2, Int.add_mul_emod_self_left, Int.add_mul_ediv_left _ _ (by omega), Int.emod_eq_of_lt (by omega) (by omega), Int.ediv_eq_zero_of_lt (by omega) (by omega)]
  omega
theorem pt_lt (a b : Int) (k : Nat) (ha : 0 ≤ a) (h : a < b) : 0 ≤ a * 2 ^ k / b ∧ a * 2 ^ k / b < 2 ^ k := by
  have p : (0 : Int) < 2 ^ k := Int.pow_pos (by decide)
  refine ⟨Int.ediv_nonneg (Int.mul_nonneg ha (by omega)) (by omega), Int.ediv_lt_of_lt_mul (by omega) ?_⟩
  rw [Int.mul_comm (2 ^ k) b]
  exact Int.mul_lt_mul_of_pos_right h p
theorem pow_le31 (k : Nat) (h : k < 32) : (2 : Int) ^ k ≤ 2147483648 := by
  have := Nat.pow_le_pow_right (n := 2) (by decide) (show k ≤ 31 by omega)
  have e : (((2 ^ k : Nat)) : Int) = (2 : Int) ^ k := by simp
  rw [← e]; omega
set_option maxHeartbeats 2000000 in
theorem cPart (ah al bh bl : Int) (w : World) (h0 : -9223372036854775808 ≤ ah) (h1 : ah ≤ 9223372036854775807) (h2 : 0 ≤ al) (h3 : al ≤ 18446744073709551615)
    (h4 : -9223372036854775808 ≤ bh) (h5 : bh ≤ 9223372036854775807) (h6 : 0 ≤ bl) (h7 : bl ≤ 18446744073709551615) :
    Calls Try.prog 26 #[.agg #[.int .i64 ah, .int .u64 al], .agg #[.int .i64 bh, .int .u64 bl]] w fun e w' => e = .returned (.int .u32 (pt (wv ah al) (wv bh bl))) ∧ Below w.heap.size w w' := by
  have hA0 := wv_lo ah al h0 h2
  have hA1 := wv_hi ah al h1 h3
  have hB0 := wv_lo bh bl h4 h6
  have hB1 := wv_hi bh bl h5 h7
  by_cases z0 : ah < 0
  · have E1 : Hid (pt (wv ah al) (wv bh bl) = 0) := Lib.hid (by unfold pt wv; rw [if_neg (by omega)])
    go_enter Try.func26, Try.ntmps26
    go_wp2
    go_ret
    exact ⟨by rw [E1.out]; rfl, by (repeat (first | exact Below.refl _ _ | assumption | apply Below.drew | apply below_drewN | refine below_alloc ?_ _ | refine below_step ?_ (by assumption) | refine Below.alloc ?_ (by first | exact Nat.le_refl _ | omega | (simp; omega) | simp) _ | refine Below.setCell ?_ (by first | exact Nat.le_refl _ | omega | (simp; omega) | simp) _))⟩
  · by_cases z1 : wv bh bl ≤ wv ah al
    · have E1 : Hid (pt (wv ah al) (wv bh bl) = 0) := Lib.hid (by unfold pt; rw [if_neg (by omega)])
      have e1 : (0 ≤ cmp3 (wv ah al) (wv bh bl)) := by unfold cmp3; rw [if_neg (by omega)]; split <;> omega
      go_enter Try.func26, Try.ntmps26
      go_wp2_with (go_at_call 37; refine (cWCmp _ _ _ _ _ h2 h3 h6 h7).mono ?_; rintro e w1 ⟨rfl, hb⟩)
      go_ret
      exact ⟨by rw [E1.out]; rfl, by refine Below.trans ?_ (hb.mono (by simp; omega)); (repeat (first | exact Below.refl _ _ | assumption | apply Below.drew | apply below_drewN | refine below_alloc ?_ _ | refine below_step ?_ (by assumption) | refine Below.alloc ?_ (by first | exact Nat.le_refl _ | omega | (simp; omega) | simp) _ | refine Below.setCell ?_ (by first | exact Nat.le_refl _ | omega | (simp; omega) | simp) _))⟩
    · have hbh : 0 ≤ bh := by unfold wv at z1; omega
      have hah : 0 ≤ ah := by omega
      have hbh1 : bh ≤ 18446744073709551615 := by omega
      have hA2 : 0 ≤ wv ah al := by unfold wv; omega
      have e1 : ¬ (0 ≤ cmp3 (wv ah al) (wv bh bl)) := by unfold cmp3; rw [if_pos (by omega)]; omega
      go_enter Try.func26, Try.ntmps26
      go_wp2_with (go_at_call 37; refine (cWCmp _ _ _ _ _ h2 h3 h6 h7).mono ?_; rintro e w1 ⟨rfl, hb⟩)
      have q0 := cell_later (a := ⟨w.heap.size, 0, none⟩) (v := .int .i64 ah) hb (by simp [go_sem])
      have q1 := cell_later (a := ⟨w.heap.size, 1, none⟩) (v := .int .u64 al) hb (by simp [go_sem])
      have q2 := cell_later (a := ⟨w.heap.size + 1, 0, none⟩) (v := .int .i64 bh) hb (by simp [go_sem])
      have q3 := cell_later (a := ⟨w.heap.size + 1, 1, none⟩) (v := .int .u64 bl) hb (by simp [go_sem])
      have hz : w.heap.size + 1 < w1.heap.size := by have := hb.size; simp at this; omega
      have hz0 : w.heap.size < w1.heap.size := by omega
      have hB1 : Below w.heap.size w w1 := by refine Below.trans ?_ (hb.mono (by simp; omega)); (repeat (first | exact Below.refl _ _ | assumption | apply Below.drew | apply below_drewN | refine below_alloc ?_ _ | refine below_step ?_ (by assumption) | refine Below.alloc ?_ (by first | exact Nat.le_refl _ | omega | (simp; omega) | simp) _ | refine Below.setCell ?_ (by first | exact Nat.le_refl _ | omega | (simp; omega) | simp) _))
      have eah : IntKind.u64.wrap ah = ah := IntWalk.u64_in ah (by omega)
      have ebh : IntKind.u64.wrap bh = bh := IntWalk.u64_in bh (by omega)
      clear hb
      go_region_held3 (fun w' => w'.cell? ⟨w.heap.size, 0, none⟩ = some (.int .i64 ah) ∧ w'.cell? ⟨w.heap.size, 1, none⟩ = some (.int .u64 al) ∧ w'.cell? ⟨w.heap.size + 1, 0, none⟩ = some (.int .i64 bh) ∧ w'.cell? ⟨w.heap.size + 1, 1, none⟩ = some (.int .u64 bl)) (simp [go_sem, *]) (fail)
      all_goals go_wp2
      · go_loopw [33, 7] (fun i n wr => ∃ (k : Nat) (r m : Int), i = .int .i64 k ∧ n = .int .u32 m ∧ k ≤ 32 ∧ 0 ≤ r ∧ r < wv bh bl ∧ 0 ≤ m ∧ Hid (r = wv ah al * 2 ^ k % wv bh bl ∧ m = wv ah al * 2 ^ k / wv bh bl) ∧ Below w.heap.size w wr ∧ w1.heap.size + 1 < wr.heap.size ∧ wr.cell? ⟨w1.heap.size, 0, none⟩ = some (.int .u64 (hw r)) ∧ wr.cell? ⟨w1.heap.size, 1, none⟩ = some (.int .u64 (lw r)) ∧ wr.frozen? ⟨w1.heap.size, 0, none⟩ = false ∧ wr.frozen? ⟨w1.heap.size, 1, none⟩ = false ∧ wr.cell? ⟨w1.heap.size + 1, 0, none⟩ = some (.int .u64 bh) ∧ wr.cell? ⟨w1.heap.size + 1, 1, none⟩ = some (.int .u64 bl)) (fun i _ _ => 32 - (RowKit.intOf i).toNat)
        case atStart =>
          refine ⟨0, wv ah al, 0, rfl, rfl, by omega, hA2, by omega, by omega, Lib.hid ?_, ?_, ?_, ?_, ?_, ?_, ?_, ?_, ?_⟩
          · rw [Int.emod_eq_of_lt (by omega) (by omega), Int.ediv_eq_zero_of_lt (by omega) (by omega)]; omega
          · refine Below.trans hB1 ?_; (repeat (first | exact Below.refl _ _ | assumption | apply Below.drew | apply below_drewN | refine below_alloc ?_ _ | refine below_step ?_ (by assumption) | refine Below.alloc ?_ (by first | exact Nat.le_refl _ | omega | (simp; omega) | simp) _ | refine Below.setCell ?_ (by first | exact Nat.le_refl _ | omega | (simp; omega) | simp) _))
          · simp
          · simp [go_sem, hw_wv ah al h2 h3]
          · simp [go_sem, lw_wv ah al h2 h3]
          · simp [go_sem]
          · simp [go_sem]
          · simp [go_sem]
          · simp [go_sem]
        case round =>
          obtain ⟨k, r, m, rfl, rfl, hk, hr0, hr1, hm0, HS, hB, hsz, q4, q5, f0, f1, q6, q7⟩ := hrel
          by_cases hlt : k < 32
          · have d1 := dbl_hi r hr0 (by omega)
            have d2 := dbl_lo r
            have hm2 : m * 2 ≤ 4294967294 := by have := HS.out.2; have := pt_lt (wv ah al) (wv bh bl) k hA2 (by omega); have := pow_le31 k hlt; omega
            have hz1 : w1.heap.size < wr.heap.size := by omega
            by_cases hd : 2 * r < wv bh bl
            · have d3 : decide (2 * r < wv bh bl) = true := decide_eq_true hd
              go_wp2_with (go_at_call 48; refine (cBelow _ _ _ _ _ (lw_lo _) (lw_hi _) h6 h7).mono ?_; rintro e w2 ⟨rfl, hb⟩)
              refine ⟨⟨k + 1, 2 * r, m * 2, by go_num, rfl, by omega, by omega, hd, by omega, Lib.hid (pt_step0 _ _ r m k (by omega) HS.out hd hr0), ?_, ?_, cell_later hb (by simp [go_sem, *]), cell_later hb (by simp [go_sem, *]), (hb.frozen (p := ⟨w1.heap.size, 0, none⟩) (by simp; omega)).trans (by simp [go_sem, *]), (hb.frozen (p := ⟨w1.heap.size, 1, none⟩) (by simp; omega)).trans (by simp [go_sem, *]), cell_later hb (by simp [go_sem, *]), cell_later hb (by simp [go_sem, *])⟩, by simp [RowKit.intOf]; omega⟩
              · refine hB.trans (Below.trans ?_ (hb.mono (by simp; omega)))
                (repeat (first | exact Below.refl _ _ | assumption | apply Below.drew | apply below_drewN | refine below_alloc ?_ _ | refine below_step ?_ (by assumption) | refine Below.alloc ?_ (by first | exact Nat.le_refl _ | omega | (simp; omega) | simp) _ | refine Below.setCell ?_ (by first | exact Nat.le_refl _ | omega | (simp; omega) | simp) _))
              · have := hb.size; simp at this; omega
            · have d3 : decide (2 * r < wv bh bl) = false := decide_eq_false hd
              have d0 : 0 ≤ hw (2 * r) := by unfold hw; omega
              have d4 : (lw (2 * r) - bl) % 18446744073709551616 = lw (2 * r - wv bh bl) := take_lo _ _ _
              have d5 : (hw (2 * r) - bh - bor (lw (2 * r)) bl) % 18446744073709551616 = hw (2 * r - wv bh bl) := take_hi _ _ _ h6 h7 (by omega) (by omega)
              have d6 : bits .or .u32 (m * 2) 1 = m * 2 + 1 := or1_u32 m hm0 hm2
              go_wp2_with (go_at_call 48; refine (cBelow _ _ _ _ _ (lw_lo _) (lw_hi _) h6 h7).mono ?_; rintro e w2 ⟨rfl, hb⟩; have y0 := cell_later (a := ⟨w1.heap.size, 0, none⟩) (v := .int .u64 (hw (2 * r))) hb (by simp [go_sem, *]); have y1 := cell_later (a := ⟨w1.heap.size, 1, none⟩) (v := .int .u64 (lw (2 * r))) hb (by simp [go_sem, *]); have y2 := cell_later (a := ⟨w1.heap.size + 1, 0, none⟩) (v := .int .u64 bh) hb (by simp [go_sem, *]); have y3 := cell_later (a := ⟨w1.heap.size + 1, 1, none⟩) (v := .int .u64 bl) hb (by simp [go_sem, *]); have g0 : w2.frozen? ⟨w1.heap.size, 0, none⟩ = false := (hb.frozen (p := ⟨w1.heap.size, 0, none⟩) (by simp; omega)).trans (by simp [go_sem, *]); have g1 : w2.frozen? ⟨w1.heap.size, 1, none⟩ = false := (hb.frozen (p := ⟨w1.heap.size, 1, none⟩) (by simp; omega)).trans (by simp [go_sem, *]); have hs2 : w1.heap.size + 1 < w2.heap.size := by have := hb.size; simp at this; omega)
              refine ⟨⟨k + 1, 2 * r - wv bh bl, m * 2 + 1, by go_num, rfl, by omega, by omega, by omega, by omega, Lib.hid (pt_step1 _ _ r m k (by omega) HS.out (by omega) hr1), ?_, by simpa using hs2, by simp [go_sem, *], by simp [go_sem, *], by simp [go_sem, *], by simp [go_sem, *], by simp [go_sem, *], by simp [go_sem, *]⟩, by simp [RowKit.intOf]; omega⟩
              have hB2 := hB.trans (Below.trans (by (repeat (first | exact Below.refl _ _ | assumption | apply Below.drew | apply below_drewN | refine below_alloc ?_ _ | refine below_step ?_ (by assumption) | refine Below.alloc ?_ (by first | exact Nat.le_refl _ | omega | (simp; omega) | simp) _ | refine Below.setCell ?_ (by first | exact Nat.le_refl _ | omega | (simp; omega) | simp) _))) (hb.mono (by simp; omega)))
              (repeat (first | exact Below.refl _ _ | assumption | apply Below.drew | apply below_drewN | refine below_alloc ?_ _ | refine below_step ?_ (by assumption) | refine Below.alloc ?_ (by first | exact Nat.le_refl _ | omega | (simp; omega) | simp) _ | refine Below.setCell ?_ (by first | exact Nat.le_refl _ | omega | (simp; omega) | simp) _))
          · obtain rfl : k = 32 := by omega
            go_wp2
            go_ret
            refine ⟨?_, hB⟩
            have e3 : pt (wv ah al) (wv bh bl) = m := by unfold pt; rw [if_pos ⟨hA2, by omega⟩]; exact HS.out.2.symm
            rw [e3]; rfl
      · go_loopw [33, 7] (fun i n wr => ∃ (k : Nat) (r m : Int), i = .int .i64 k ∧ n = .int .u32 m ∧ k ≤ 32 ∧ 0 ≤ r ∧ r < wv bh bl ∧ 0 ≤ m ∧ Hid (r = wv ah al * 2 ^ k % wv bh bl ∧ m = wv ah al * 2 ^ k / wv bh bl) ∧ Below w.heap.size w wr ∧ w1.heap.size + 1 < wr.heap.size ∧ wr.cell? ⟨w1.heap.size + 1, 0, none⟩ = some (.int .u64 (hw r)) ∧ wr.cell? ⟨w1.heap.size + 1, 1, none⟩ = some (.int .u64 (lw r)) ∧ wr.frozen? ⟨w1.heap.size + 1, 0, none⟩ = false ∧ wr.frozen? ⟨w1.heap.size + 1, 1, none⟩ = false ∧ wr.cell? ⟨w1.heap.size, 0, none⟩ = some (.int .u64 bh) ∧ wr.cell? ⟨w1.heap.size, 1, none⟩ = some (.int .u64 bl)) (fun i _ _ => 32 - (RowKit.intOf i).toNat)
        case atStart =>
          refine ⟨0, wv ah al, 0, rfl, rfl, by omega, hA2, by omega, by omega, Lib.hid ?_, ?_, ?_, ?_, ?_, ?_, ?_, ?_, ?_⟩
          · rw [Int.emod_eq_of_lt (by omega) (by omega), Int.ediv_eq_zero_of_lt (by omega) (by omega)]; omega
          · refine Below.trans hB1 ?_; (repeat (first | exact Below.refl _ _ | assumption | apply Below.drew | apply below_drewN | refine below_alloc ?_ _ | refine below_step ?_ (by assumption) | refine Below.alloc ?_ (by first | exact Nat.le_refl _ | omega | (simp; omega) | simp) _ | refine Below.setCell ?_ (by first | exact Nat.le_refl _ | omega | (simp; omega) | simp) _))
          · simp
          · simp [go_sem, hw_wv ah al h2 h3]
          · simp [go_sem, lw_wv ah al h2 h3]
          · simp [go_sem]
          · simp [go_sem]
          · simp [go_sem]
          · simp [go_sem]
        case round =>
          obtain ⟨k, r, m, rfl, rfl, hk, hr0, hr1, hm0, HS, hB, hsz, q4, q5, f0, f1, q6, q7⟩ := hrel
          by_cases hlt : k < 32
          · have d1 := dbl_hi r hr0 (by omega)
            have d2 := dbl_lo r
            have hm2 : m * 2 ≤ 4294967294 := by have := HS.out.2; have := pt_lt (wv ah al) (wv bh bl) k hA2 (by omega); have := pow_le31 k hlt; omega
            have hz1 : w1.heap.size < wr.heap.size := by omega
            by_cases hd : 2 * r < wv bh bl
            · have d3 : decide (2 * r < wv bh bl) = true := decide_eq_true hd
              go_wp2_with (go_at_call 48; refine (cBelow _ _ _ _ _ (lw_lo _) (lw_hi _) h6 h7).mono ?_; rintro e w2 ⟨rfl, hb⟩)
              refine ⟨⟨k + 1, 2 * r, m * 2, by go_num, rfl, by omega, by omega, hd, by omega, Lib.hid (pt_step0 _ _ r m k (by omega) HS.out hd hr0), ?_, ?_, cell_later hb (by simp [go_sem, *]), cell_later hb (by simp [go_sem, *]), (hb.frozen (p := ⟨w1.heap.size + 1, 0, none⟩) (by simp; omega)).trans (by simp [go_sem, *]), (hb.frozen (p := ⟨w1.heap.size + 1, 1, none⟩) (by simp; omega)).trans (by simp [go_sem, *]), cell_later hb (by simp [go_sem, *]), cell_later hb (by simp [go_sem, *])⟩, by simp [RowKit.intOf]; omega⟩
              · refine hB.trans (Below.trans ?_ (hb.mono (by simp; omega)))
                (repeat (first | exact Below.refl _ _ | assumption | apply Below.drew | apply below_drewN | refine below_alloc ?_ _ | refine below_step ?_ (by assumption) | refine Below.alloc ?_ (by first | exact Nat.le_refl _ | omega | (simp; omega) | simp) _ | refine Below.setCell ?_ (by first | exact Nat.le_refl _ | omega | (simp; omega) | simp) _))
              · have := hb.size; simp at this; omega
            · have d3 : decide (2 * r < wv bh bl) = false := decide_eq_false hd
              have d0 : 0 ≤ hw (2 * r) := by unfold hw; omega
              have d4 : (lw (2 * r) - bl) % 18446744073709551616 = lw (2 * r - wv bh bl) := take_lo _ _ _
              have d5 : (hw (2 * r) - bh - bor (lw (2 * r)) bl) % 18446744073709551616 = hw (2 * r - wv bh bl) := take_hi _ _ _ h6 h7 (by omega) (by omega)
              have d6 : bits .or .u32 (m * 2) 1 = m * 2 + 1 := or1_u32 m hm0 hm2
              go_wp2_with (go_at_call 48; refine (cBelow _ _ _ _ _ (lw_lo _) (lw_hi _) h6 h7).mono ?_; rintro e w2 ⟨rfl, hb⟩; have y0 := cell_later (a := ⟨w1.heap.size + 1, 0, none⟩) (v := .int .u64 (hw (2 * r))) hb (by simp [go_sem, *]); have y1 := cell_later (a := ⟨w1.heap.size + 1, 1, none⟩) (v := .int .u64 (lw (2 * r))) hb (by simp [go_sem, *]); have y2 := cell_later (a := ⟨w1.heap.size, 0, none⟩) (v := .int .u64 bh) hb (by simp [go_sem, *]); have y3 := cell_later (a := ⟨w1.heap.size, 1, none⟩) (v := .int .u64 bl) hb (by simp [go_sem, *]); have g0 : w2.frozen? ⟨w1.heap.size + 1, 0, none⟩ = false := (hb.frozen (p := ⟨w1.heap.size + 1, 0, none⟩) (by simp; omega)).trans (by simp [go_sem, *]); have g1 : w2.frozen? ⟨w1.heap.size + 1, 1, none⟩ = false := (hb.frozen (p := ⟨w1.heap.size + 1, 1, none⟩) (by simp; omega)).trans (by simp [go_sem, *]); have hs2 : w1.heap.size + 1 < w2.heap.size := by have := hb.size; simp at this; omega)
              refine ⟨⟨k + 1, 2 * r - wv bh bl, m * 2 + 1, by go_num, rfl, by omega, by omega, by omega, by omega, Lib.hid (pt_step1 _ _ r m k (by omega) HS.out (by omega) hr1), ?_, by simpa using hs2, by simp [go_sem, *], by simp [go_sem, *], by simp [go_sem, *], by simp [go_sem, *], by simp [go_sem, *], by simp [go_sem, *]⟩, by simp [RowKit.intOf]; omega⟩
              have hB2 := hB.trans (Below.trans (by (repeat (first | exact Below.refl _ _ | assumption | apply Below.drew | apply below_drewN | refine below_alloc ?_ _ | refine below_step ?_ (by assumption) | refine Below.alloc ?_ (by first | exact Nat.le_refl _ | omega | (simp; omega) | simp) _ | refine Below.setCell ?_ (by first | exact Nat.le_refl _ | omega | (simp; omega) | simp) _))) (hb.mono (by simp; omega)))
              (repeat (first | exact Below.refl _ _ | assumption | apply Below.drew | apply below_drewN | refine below_alloc ?_ _ | refine below_step ?_ (by assumption) | refine Below.alloc ?_ (by first | exact Nat.le_refl _ | omega | (simp; omega) | simp) _ | refine Below.setCell ?_ (by first | exact Nat.le_refl _ | omega | (simp; omega) | simp) _))
          · obtain rfl : k = 32 := by omega
            go_wp2
            go_ret
            refine ⟨?_, hB⟩
            have e3 : pt (wv ah al) (wv bh bl) = m := by unfold pt; rw [if_pos ⟨hA2, by omega⟩]; exact HS.out.2.symm
            rw [e3]; rfl
end Go.Proofs.Ytcijddjfadcanaa
