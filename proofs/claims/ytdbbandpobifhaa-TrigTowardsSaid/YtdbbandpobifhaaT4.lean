/- Contracts of package trig: directions. -/
import Derived.Test.YtdbbandpobifhaaT3
set_option linter.unusedSimpArgs false
set_option linter.unusedVariables false
namespace Go.Proofs.Ytdbbandpobifhaa
open Go.RowKit
set_option maxHeartbeats 4000000 in
theorem cFst (x y a : Int) (w : World) (h : IsF x y a) (x0 : 0 ≤ x) (x1 : x ≤ 9223372036854775807) (y0 : 0 ≤ y) (y1 : y ≤ 9223372036854775807) :
    Calls Try.prog 29 #[.int .i64 x, .int .i64 y] w fun e w' => e = .returned (.int .u32 a) ∧ Below w.heap.size w w' := by
  have HF := Lib.hid h
  have ha0 := h.1
  have ha1 := h.2.1
  clear h
  go_enter Try.func29, Try.ntmps29
  go_wp2
  go_loopw [5, 6] (fun l h wr => ∃ lo hi : Int, l = .int .u32 lo ∧ h = .int .u32 hi ∧ 0 ≤ lo ∧ lo ≤ a ∧ a ≤ hi ∧ hi ≤ 1073741824 ∧ Below w.heap.size w wr) (fun l h _ => (RowKit.intOf h - RowKit.intOf l).toNat)
  case atStart => exact ⟨0, 1073741824, rfl, rfl, by decide, ha0, ha1, by decide, Below.refl _ _⟩
  case round =>
    obtain ⟨lo, hi, rfl, rfl, l0, l1, h0, h1, HB⟩ := hrel
    by_cases hlt : lo < hi
    · obtain ⟨m, hm⟩ : ∃ m, lo + (hi - lo + 1) / 2 = m := ⟨_, rfl⟩
      have mb : lo < m ∧ m ≤ hi := by omega
      have t := HF.out.test x0 y0 m (by omega) (by omega)
      have kc := fun W => cCos m W (by omega) (by omega)
      have ks := fun W => cSin m W (by omega) (by omega)
      have cb := cosv_bd m
      have sb := sinv_bd m (by omega) (by omega)
      have k1 := fun W => cWMul y (cosv m) W (by omega) (by omega) (by omega) (by omega)
      have k2 := fun W => cWMul x (sinv m) W (by omega) (by omega) (by omega) (by omega)
      have k3 := fun W => nWCmp (y * cosv m) (x * sinv m) W
      generalize cmp3 (y * cosv m) (x * sinv m) = z at *
      generalize y * cosv m = p1 at *
      generalize x * sinv m = p2 at *
      generalize cosv m = c at *
      generalize sinv m = s at *
      have HT := Lib.hid t
      clear t cb sb
      by_cases hz : 0 ≤ z
      · go_wp2_with (first | (go_at_call 15; (with_reducible refine (kc _).mono ?_); rintro e w1 ⟨rfl, hM⟩) | (go_at_call 13; (with_reducible refine (ks _).mono ?_); rintro e w1 ⟨rfl, hM⟩) | (go_at_call 20; (with_reducible refine (k1 _).mono ?_); rintro e w1 ⟨rfl, hM⟩) | (go_at_call 20; (with_reducible refine (k2 _).mono ?_); rintro e w1 ⟨rfl, hM⟩) | (go_at_call 21; (with_reducible refine (k3 _).mono ?_); rintro e w1 ⟨rfl, hM⟩))
        exact ⟨⟨m, hi, rfl, rfl, by omega, HT.out.1 hz, h0, h1, by (repeat (first | with_reducible assumption | with_reducible exact Below.refl _ _ | ((with_reducible refine Below.setCell ?_ ?_ _); rotate_left; (first | exact Nat.le_refl _ | (dsimp only; omega) | (simp; done) | (simp; omega))) | with_reducible refine below_alloc ?_ _ | with_reducible apply below_drewN | with_reducible apply Below.drew | with_reducible refine below_step ?_ (by assumption)))⟩, by simp [RowKit.intOf] <;> omega⟩
      · have hna : ¬ m ≤ a := fun hh => hz (HT.out.2 hh)
        go_wp2_with (first | (go_at_call 15; (with_reducible refine (kc _).mono ?_); rintro e w1 ⟨rfl, hM⟩) | (go_at_call 13; (with_reducible refine (ks _).mono ?_); rintro e w1 ⟨rfl, hM⟩) | (go_at_call 20; (with_reducible refine (k1 _).mono ?_); rintro e w1 ⟨rfl, hM⟩) | (go_at_call 20; (with_reducible refine (k2 _).mono ?_); rintro e w1 ⟨rfl, hM⟩) | (go_at_call 21; (with_reducible refine (k3 _).mono ?_); rintro e w1 ⟨rfl, hM⟩))
        exact ⟨⟨lo, m - 1, rfl, rfl, l0, l1, by omega, by omega, by (repeat (first | with_reducible assumption | with_reducible exact Below.refl _ _ | ((with_reducible refine Below.setCell ?_ ?_ _); rotate_left; (first | exact Nat.le_refl _ | (dsimp only; omega) | (simp; done) | (simp; omega))) | with_reducible refine below_alloc ?_ _ | with_reducible apply below_drewN | with_reducible apply Below.drew | with_reducible refine below_step ?_ (by assumption)))⟩, by simp [RowKit.intOf] <;> omega⟩
    · obtain rfl : lo = a := by omega
      obtain rfl : hi = lo := by omega
      go_wp2
      go_ret
      exact ⟨rfl, HB⟩
/-- A direction, turned back by a quarter. -/
theorem isT_rot {u v e : Int} (h : u < 0 ∨ v < 0) (ht : IsT u v e) : IsT v (-u) (e - 1073741824) ∧ 1073741824 ≤ e := by
  rcases ht with ⟨rfl, rfl, _⟩ | ⟨hn, a, ⟨h1, h2, ha, rfl⟩ | ⟨h1, h2, ha, rfl⟩ | ⟨h1, h2, ha, rfl⟩ | ⟨h1, h2, ha, rfl⟩⟩
  · omega
  · omega
  · exact ⟨Or.inr ⟨by omega, a, Or.inl ⟨by omega, by omega, ha, by omega⟩⟩, by have := ha.1; omega⟩
  · exact ⟨Or.inr ⟨by omega, a, Or.inr (Or.inl ⟨by omega, by omega, ha, by omega⟩)⟩, by have := ha.1; omega⟩
  · exact ⟨Or.inr ⟨by omega, a, Or.inr (Or.inr (Or.inl ⟨by omega, by omega, by rw [Int.neg_neg]; exact ha, by omega⟩))⟩, by have := ha.1; omega⟩
theorem isT_first {u v e : Int} (u0 : 0 ≤ u) (v0 : 0 ≤ v) (hn : ¬ (u = 0 ∧ v = 0)) (ht : IsT u v e) : IsF u v e := by
  rcases ht with ⟨rfl, rfl, _⟩ | ⟨_, a, ⟨h1, h2, ha, rfl⟩ | ⟨h1, h2, ha, rfl⟩ | ⟨h1, h2, ha, rfl⟩ | ⟨h1, h2, ha, rfl⟩⟩
  · omega
  · exact ha
  all_goals omega
theorem isT_nil {e : Int} (ht : IsT 0 0 e) : e = 0 := by
  rcases ht with ⟨_, _, h⟩ | ⟨hn, _⟩
  · exact h
  · exact absurd ⟨rfl, rfl⟩ hn
/-- How often a direction is turned back. -/
def rots (u v : Int) : Nat := if 0 ≤ u ∧ 0 ≤ v then 0 else if 0 ≤ v then 1 else if u ≤ 0 then 2 else 3
theorem rots_less {u v : Int} (h : u < 0 ∨ v < 0) : rots v (-u) < rots u v := by
  unfold rots
  rcases (show (u < 0 ∧ 0 ≤ v) ∨ (u ≤ 0 ∧ v < 0) ∨ (0 < u ∧ v < 0) by omega) with ⟨h1, h2⟩ | ⟨h1, h2⟩ | ⟨h1, h2⟩
  · rw [if_pos (by omega), if_neg (by omega), if_pos (by omega)]; decide
  · rw [if_neg (by omega), if_pos (by omega), if_neg (by omega), if_neg (by omega), if_pos (by omega)]; decide
  · rw [if_neg (by omega), if_neg (by omega), if_pos (by omega), if_neg (by omega), if_neg (by omega), if_neg (by omega)]; decide
set_option maxHeartbeats 4000000 in
theorem cTow (x y d : Int) (w : World) (x0 : -9223372036854775808 ≤ x) (x1 : x ≤ 9223372036854775807) (y0 : -9223372036854775808 ≤ y) (y1 : y ≤ 9223372036854775807)
    (h : IsT (max x (-9223372036854775807)) (max y (-9223372036854775807)) d) :
    Calls Try.prog 17 #[.int .i64 x, .int .i64 y] w fun e w' => e = .returned (.int .u32 d) ∧ Below w.heap.size w w' := by
  have hX : -9223372036854775807 ≤ max x (-9223372036854775807) ∧ max x (-9223372036854775807) ≤ 9223372036854775807 := by omega
  have hY : -9223372036854775807 ≤ max y (-9223372036854775807) ∧ max y (-9223372036854775807) ≤ 9223372036854775807 := by omega
  obtain ⟨X, eX⟩ : ∃ X, max x (-9223372036854775807) = X := ⟨_, rfl⟩
  obtain ⟨Y, eY⟩ : ∃ Y, max y (-9223372036854775807) = Y := ⟨_, rfl⟩
  rw [eX] at hX h
  rw [eY] at hY h
  have HF := Lib.hid h
  have hd := isT_bd h
  clear h
  go_enter Try.func17, Try.ntmps17
  go_wp2
  go_loopw [0, 1, 5] (fun p q t wr => ∃ u v s : Int, p = .int .i64 u ∧ q = .int .i64 v ∧ t = .int .u32 s ∧ -9223372036854775807 ≤ u ∧ u ≤ 9223372036854775807 ∧ -9223372036854775807 ≤ v ∧ v ≤ 9223372036854775807 ∧ 0 ≤ s ∧ s ≤ d ∧ Hid (IsT u v (d - s) ∧ (u = 0 ∧ v = 0 → s = 0)) ∧ Below w.heap.size w wr) (fun p q _ _ => rots (RowKit.intOf p) (RowKit.intOf q))
  case atStart => exact ⟨X, Y, 0, by first | rfl | rw [eX], by first | rfl | rw [eY], rfl, by omega, by omega, by omega, by omega, by omega, by omega, Lib.hid ⟨by rw [Int.sub_zero]; exact HF.out, fun _ => rfl⟩, Below.refl _ _⟩
  case round =>
    obtain ⟨u, v, s, rfl, rfl, rfl, u0, u1, v0, v1, s0, s1, HT, HB⟩ := hrel
    by_cases hn : u < 0 ∨ v < 0
    · have hr := isT_rot hn HT.out.1
      have hb := isT_bd HT.out.1
      have hl := rots_less hn
      have HR := Lib.hid hr.1
      have hs : s + 1073741824 ≤ d := by have := hr.2; omega
      have HL := Lib.hid hl
      clear hr hl
      rcases (show u < 0 ∨ (0 ≤ u ∧ v < 0) by omega) with h1 | ⟨h1, h2⟩
      · go_wp2
        exact ⟨⟨v, -u, s + 1073741824, rfl, rfl, rfl, by omega, by omega, by omega, by omega, by omega, by omega, Lib.hid ⟨by rw [show d - (s + 1073741824) = d - s - 1073741824 by omega]; exact HR.out, by omega⟩, HB⟩, HL.out⟩
      · go_wp2
        exact ⟨⟨v, -u, s + 1073741824, rfl, rfl, rfl, by omega, by omega, by omega, by omega, by omega, by omega, Lib.hid ⟨by rw [show d - (s + 1073741824) = d - s - 1073741824 by omega]; exact HR.out, by omega⟩, HB⟩, HL.out⟩
    · by_cases hz : u = 0 ∧ v = 0
      · obtain ⟨rfl, rfl⟩ := hz
        obtain rfl := HT.out.2 ⟨rfl, rfl⟩
        have h3 := isT_nil HT.out.1
        obtain rfl : d = 0 := by omega
        go_wp2
        go_ret
        exact ⟨rfl, HB⟩
      · have hF := isT_first (by omega) (by omega) hz HT.out.1
        obtain ⟨a, hda⟩ : ∃ a, d - s = a := ⟨_, rfl⟩
        rw [hda] at hF
        have ha := hF.1
        have k1 := fun W => cFst u v a W hF (by omega) (by omega) (by omega) (by omega)
        obtain rfl : d = s + a := by omega
        have hFH := Lib.hid hF
        clear hF hda hX hY eX eY
        rcases (show ¬ u = 0 ∨ (u = 0 ∧ ¬ v = 0) by omega) with h1 | ⟨h1, h2⟩
        · clear hz
          go_wp2_with (first | (go_at_call 29; (with_reducible refine (k1 _).mono ?_); rintro e w1 ⟨rfl, hM⟩))
          go_ret
          exact ⟨rfl, by (repeat (first | with_reducible assumption | with_reducible exact Below.refl _ _ | ((with_reducible refine Below.setCell ?_ ?_ _); rotate_left; (first | exact Nat.le_refl _ | (dsimp only; omega) | (simp; done) | (simp; omega))) | with_reducible refine below_alloc ?_ _ | with_reducible apply below_drewN | with_reducible apply Below.drew | with_reducible refine below_step ?_ (by assumption)))⟩
        · clear hz
          subst h1
          go_wp2_with (first | (go_at_call 29; (with_reducible refine (k1 _).mono ?_); rintro e w1 ⟨rfl, hM⟩))
          go_ret
          exact ⟨rfl, by (repeat (first | with_reducible assumption | with_reducible exact Below.refl _ _ | ((with_reducible refine Below.setCell ?_ ?_ _); rotate_left; (first | exact Nat.le_refl _ | (dsimp only; omega) | (simp; done) | (simp; omega))) | with_reducible refine below_alloc ?_ _ | with_reducible apply below_drewN | with_reducible apply Below.drew | with_reducible refine below_step ?_ (by assumption)))⟩
end Go.Proofs.Ytdbbandpobifhaa
