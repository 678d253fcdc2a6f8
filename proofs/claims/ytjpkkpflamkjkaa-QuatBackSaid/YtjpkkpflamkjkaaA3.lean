/- Contracts of package wide that hold a loop or a long division. -/
import Derived.Test.YtjpkkpflamkjkaaA2
set_option linter.unusedSimpArgs false
set_option linter.unusedVariables false
namespace Go.Proofs.Ytjpkkpflamkjkaa
open Go.RowKit

theorem cWRoot (ah al : Int) (w : World) (h0 : -9223372036854775808 ≤ ah) (h1 : ah ≤ 9223372036854775807) (h2 : 0 ≤ al) (h3 : al ≤ 18446744073709551615) :
    Calls Try.prog 84 #[.agg #[.int .i64 ah, .int .u64 al]] w fun e w' => e = .returned (.int .u64 (rt (wv ah al))) ∧ Below w.heap.size w w' := by
  by_cases z0 : ah < 0
  · have E1 := Lib.hid (rt_neg (wv ah al) (by unfold wv; omega))
    go_enter Try.func84, Try.ntmps84
    go_wp2
    go_ret
    exact ⟨by rw [E1.out]; rfl, by (repeat (first | exact Below.refl _ _ | assumption | apply Below.drew | apply below_drewN | refine below_alloc ?_ _ | refine below_step ?_ (by assumption) | refine Below.alloc ?_ (by first | exact Nat.le_refl _ | omega | (simp; omega) | simp) _ | refine Below.setCell ?_ (by first | exact Nat.le_refl _ | omega | (simp; omega) | simp) _))⟩
  · by_cases z1 : ah = 0 ∧ al = 0
    · obtain ⟨rfl, rfl⟩ := z1
      go_enter Try.func84, Try.ntmps84
      go_wp2
      go_ret
      exact ⟨rfl, by (repeat (first | exact Below.refl _ _ | assumption | apply Below.drew | apply below_drewN | refine below_alloc ?_ _ | refine below_step ?_ (by assumption) | refine Below.alloc ?_ (by first | exact Nat.le_refl _ | omega | (simp; omega) | simp) _ | refine Below.setCell ?_ (by first | exact Nat.le_refl _ | omega | (simp; omega) | simp) _))⟩
    · have key : ((ah == 0) = true ∧ (al == 0) = false) ∨ (ah == 0) = false := by simp; omega
      have hN : 1 ≤ wv ah al := by unfold wv; omega
      have hN' : wv ah al ≤ 170141183460469231731687303715884105727 := wv_hi _ _ h1 h3
      clear z1
      rcases key with ⟨c6, c7⟩ | c6
      all_goals
        go_enter Try.func84, Try.ntmps84
        go_wp2
        go_loopw [4, 5] (fun lo hi wr => ∃ l h : Int, lo = .int .u64 l ∧ hi = .int .u64 h ∧ 1 ≤ l ∧ l ≤ h ∧ h ≤ 13835058055282163712 ∧ Hid (l * l ≤ wv ah al ∧ wv ah al < (h + 1) * (h + 1)) ∧ Below w.heap.size w wr ∧ w.heap.size + 1 < wr.heap.size ∧ wr.cell? ⟨w.heap.size + 1, 0, none⟩ = some (.int .u64 ah) ∧ wr.cell? ⟨w.heap.size + 1, 1, none⟩ = some (.int .u64 al)) (fun lo hi _ => (RowKit.intOf hi - RowKit.intOf lo).toNat)
        case atStart =>
          refine ⟨1, 13835058055282163712, rfl, rfl, by omega, by omega, by omega, Lib.hid ⟨by omega, by omega⟩, ?_, ?_, ?_, ?_⟩
          · (repeat (first | exact Below.refl _ _ | assumption | apply Below.drew | apply below_drewN | refine below_alloc ?_ _ | refine below_step ?_ (by assumption) | refine Below.alloc ?_ (by first | exact Nat.le_refl _ | omega | (simp; omega) | simp) _ | refine Below.setCell ?_ (by first | exact Nat.le_refl _ | omega | (simp; omega) | simp) _))
          · simp
          · simp [go_sem]
          · simp [go_sem]
        case round =>
          obtain ⟨l, h, rfl, rfl, hl, hlh, hh, HS, hB, hz, q0, q1⟩ := hrel
          by_cases hlt : l < h
          · by_cases hm : wv ah al < (l + (h - l + 1) / 2) * (l + (h - l + 1) / 2)
            · have hd : decide (wv ah al < (l + (h - l + 1) / 2) * (l + (h - l + 1) / 2)) = true := decide_eq_true hm
              have HM := Lib.hid hm
              clear hm
              go_wp2_with (first | (go_at_call 83; refine (cMul64 _ _ (by omega) (by omega) (by omega) (by omega) _).mono ?_; rintro e w' ⟨rfl, rfl⟩) | (go_at_call 101; refine (cBelow _ _ _ _ _ h2 h3 (lw_lo _) (lw_hi _)).mono ?_; rintro e w1 ⟨rfl, hb⟩))
              refine ⟨⟨l, _, rfl, rfl, hl, by omega, by omega, Lib.hid ⟨HS.out.1, ?_⟩, hB.trans (hb.mono (by have := hB.size; omega)), by have := hb.size; omega, cell_later hb q0, cell_later hb q1⟩, by simp [RowKit.intOf]; omega⟩
              have hm := HM.out
              rw [show l + (h - l + 1) / 2 - 1 + 1 = l + (h - l + 1) / 2 from by omega]
              exact hm
            · have hd : decide (wv ah al < (l + (h - l + 1) / 2) * (l + (h - l + 1) / 2)) = false := decide_eq_false hm
              have HM := Lib.hid hm
              clear hm
              go_wp2_with (first | (go_at_call 83; refine (cMul64 _ _ (by omega) (by omega) (by omega) (by omega) _).mono ?_; rintro e w' ⟨rfl, rfl⟩) | (go_at_call 101; refine (cBelow _ _ _ _ _ h2 h3 (lw_lo _) (lw_hi _)).mono ?_; rintro e w1 ⟨rfl, hb⟩))
              refine ⟨⟨_, h, rfl, rfl, by omega, by omega, by omega, Lib.hid ⟨?_, HS.out.2⟩, hB.trans (hb.mono (by have := hB.size; omega)), by have := hb.size; omega, cell_later hb q0, cell_later hb q1⟩, by simp [RowKit.intOf]; omega⟩
              have hm := HM.out
              omega
          · obtain rfl : l = h := by omega
            go_wp2
            go_ret
            refine ⟨?_, hB⟩
            rw [rt_unique (wv ah al) l (by omega) HS.out.1 HS.out.2]
            rfl

end Go.Proofs.Ytjpkkpflamkjkaa
