/- Contracts of package plane. -/
import Derived.Test.YthieinnlpfdemaaH0
set_option linter.unusedSimpArgs false
set_option linter.unusedVariables false
namespace Go.Proofs.Ythieinnlpfdemaa
open Go.RowKit
set_option maxHeartbeats 2000000 in
theorem c7Near (a : Addr) (n c : Nat) (X Y : Nat → Int) (w : World) (hn : n ≤ 9223372036854775807) (hx : ∀ j, j < n → w.cell? (a.add (j * 2)) = some (.int .i64 (X j))) (hy : ∀ j, j < n → w.cell? ⟨(a.add (j * 2)).block, (a.add (j * 2)).off + 1, none⟩ = some (.int .i64 (Y j))) :
    Calls Try.prog 27 #[.slice (some a) n c] w fun e w' => e = .returned (.bool (nrs X Y n)) ∧ Below w.heap.size w w' := by
  have HX := Lib.hid hx
  have HY := Lib.hid hy
  clear hx hy
  go_enter Try.func27, Try.ntmps27
  go_wp2
  go_loopw [3] (fun i wr => ∃ k : Nat, i = .int .i64 k ∧ k ≤ n ∧ Hid (nrs X Y k = true) ∧ Below w.heap.size w wr) (fun i _ => n - (RowKit.intOf i).toNat)
  case atStart => exact ⟨0, rfl, by omega, Lib.hid rfl, Below.refl _ _⟩
  case round =>
    obtain ⟨k, rfl, hk, HN, hB⟩ := hrel
    by_cases hlt : k < n
    · have c0 := cell_later hB (HX.out k hlt)
      have c1 := cell_later hB (HY.out k hlt)
      cases hp : pn (X k) (Y k) with
      | true =>
        have HS : Hid (nrs X Y (k + 1) = true) := Lib.hid (by simp only [nrs, Bool.and_eq_true]; exact ⟨HN.out, hp⟩)
        rw [pn_iff] at hp
        generalize X k = x at *
        generalize Y k = y at *
        obtain ⟨p1, p2, p3, p4⟩ := hp
        go_wp2
        exact ⟨⟨k + 1, by go_num, by omega, HS, by (repeat (first | with_reducible assumption | with_reducible exact Below.refl _ _ | ((with_reducible refine Below.setCell ?_ ?_ _); rotate_left; (first | exact Nat.le_refl _ | (dsimp only; omega) | (simp; done) | (simp; omega))) | with_reducible refine below_alloc ?_ _ | with_reducible apply below_drewN | with_reducible apply Below.drew | with_reducible refine below_step ?_ (by assumption)))⟩, by simp [RowKit.intOf]; omega⟩
      | false =>
        have HS : Hid (nrs X Y n = false) := Lib.hid (nrs_no hp hlt)
        unfold pn at hp
        simp only [decide_eq_false_iff_not] at hp
        generalize X k = x at *
        generalize Y k = y at *
        rcases (show 281474976710656 < x ∨ (x ≤ 281474976710656 ∧ x < -281474976710656) ∨ (x ≤ 281474976710656 ∧ -281474976710656 ≤ x ∧ 281474976710656 < y) ∨ (x ≤ 281474976710656 ∧ -281474976710656 ≤ x ∧ y ≤ 281474976710656 ∧ y < -281474976710656) by omega) with h1 | ⟨h1, h2⟩ | ⟨h1, h2, h3⟩ | ⟨h1, h2, h3, h4⟩
        all_goals clear hp
        all_goals go_wp2
        all_goals go_ret
        all_goals exact ⟨by rw [HS.out]; rfl, by (repeat (first | with_reducible assumption | with_reducible exact Below.refl _ _ | ((with_reducible refine Below.setCell ?_ ?_ _); rotate_left; (first | exact Nat.le_refl _ | (dsimp only; omega) | (simp; done) | (simp; omega))) | with_reducible refine below_alloc ?_ _ | with_reducible apply below_drewN | with_reducible apply Below.drew | with_reducible refine below_step ?_ (by assumption)))⟩
    · obtain rfl : k = n := by omega
      go_wp2
      go_ret
      exact ⟨by rw [HN.out]; rfl, hB⟩
end Go.Proofs.Ythieinnlpfdemaa
