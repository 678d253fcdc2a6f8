/- A zone without a car is green, and each flag of a zone is green or yellow: the law's code, at every row of cars. -/
import Derived.Test.YtbicnpiifpcnjaaG5
set_option linter.unusedSimpArgs false
set_option linter.unusedVariables false
namespace Go.Proofs.Ytbicnpiifpcnjaa
open Go.RowKit
/-- A slice of cars, as a law is handed it. -/
def Lw (p : Option Addr) (n c : Nat) (S : Nat → Car) (w : World) : Prop := (p = none ∧ n = 0 ∧ c = 0) ∨ ∃ a, p = some a ∧ n ≤ 9223372036854775807 ∧ Ss a n S w
theorem Ss.lt {a : Addr} {n : Nat} {S : Nat → Car} {w : World} (h : Ss a n S w) (hn : 0 < n) : a.block < w.heap.size := by
  have := h 0 hn 0 _ rfl
  have := World.block_lt_of_cell? _ _ this
  rwa [addB, addB] at this
theorem Lw.sl {p : Option Addr} {n c : Nat} {S : Nat → Car} {w W : World} (h : Lw p n c S w) (hB : Below w.heap.size w W) (b : Nat) (hb : w.heap.size ≤ b) : Sl W.heap.size b p n c S W := by
  rcases h with h | ⟨a, h1, h2, h3⟩
  · exact Or.inl h
  · exact Or.inr ⟨a, h1, h2, fun hn => ⟨by have := h3.lt hn; have := hB.size; omega, by have := h3.lt hn; omega⟩, h3.eq0 (fun hn => hB.block _ (h3.lt hn))⟩
theorem Lw.at {p : Option Addr} {n c : Nat} {S : Nat → Car} {w W : World} (h : Lw p n c S w) (hB : Below w.heap.size w W) {k : Nat} (hk : k < n) : ∃ a, p = some a ∧ n ≤ 9223372036854775807 ∧ Qs (a.add (k * 41)) (S k).f (S k).g W := by
  rcases h with ⟨_, h, _⟩ | ⟨a, h1, h2, h3⟩
  · omega
  · exact ⟨a, h1, h2, h3.eq (hB.block _ (h3.lt (by omega))) k hk⟩
/-- Is a car in this zone? -/
def az (n : Int) (S : Nat → Car) (I : Nat) : Nat → Bool
  | 0 => false
  | k + 1 => az n S I k || decide (zn n (S k).f (S k).g = (I : Int))
theorem az_yes (n : Int) (S : Nat → Car) (I len j : Nat) (hj : j < len) (h : zn n (S j).f (S j).g = (I : Int)) : az n S I len = true := by
  induction len with
  | zero => omega
  | succ k ih =>
    unfold az
    by_cases e : j = k
    · subst e; simp [h]
    · rw [ih (by omega)]; rfl
theorem zv_01 (n : Int) (l : List (Nat × Car)) (i : Nat) : zv n l i = 0 ∨ zv n l i = 1 := by
  unfold zv; split
  · exact Or.inr rfl
  · exact Or.inl rfl
theorem zv_az (n : Int) (S : Nat → Car) (I len : Nat) (h : zv n (rl S len) I ≠ 0) : az n S I len = true := by
  unfold zv at h
  split at h
  · rename_i h1
    rw [List.any_eq_true] at h1
    obtain ⟨x, hx, h2⟩ := h1
    unfold rl at hx
    rw [List.mem_filter, List.mem_map] at hx
    obtain ⟨⟨j, hj, rfl⟩, _⟩ := hx
    rw [List.mem_range] at hj
    simp only [Bool.and_eq_true, decide_eq_true_eq] at h2
    exact az_yes n S I len j hj h2.1
  · exact absurd rfl h
set_option maxHeartbeats 8000000 in
set_option maxRecDepth 20000 in
theorem walk_FlagsEmpty (n : Int) (p : Option Addr) (len cap : Nat) (S : Nat → Car) (w : World) (n0 : -9223372036854775808 ≤ n) (n1 : n ≤ 9223372036854775807) (hS : Lw p len cap S w) :
    Calls Try.prog 4 #[.int .i64 n, .slice p len cap] w fun e w' => e = .returned (.bool true) ∧ Below w.heap.size w w' := by
  by_cases hbad : 50 < len ∨ n < 1 ∨ 16 < n
  · go_enter Try.func4, Try.ntmps4
    go_wp2
    all_goals (first | (exfalso; omega) | skip)
    all_goals simp [bodyPost, results, Try.results4, go_sem]
    all_goals exact Below.refl _ _
  obtain ⟨m, rfl⟩ : ∃ m : Nat, n = m := ⟨n.toNat, by omega⟩
  have hl : len ≤ 50 := by omega
  have h1 : 1 ≤ m := by omega
  have h2 : m ≤ 16 := by omega
  have hB0 : Below w.heap.size w (w.alloc (.cells #[.bool false] 25)) := (Below.refl _ _).alloc (Nat.le_refl _) _
  have k1 := cZones m p len cap S w.heap.size false _ h1 h2 (hS.sl hB0 w.heap.size (Nat.le_refl _)) (by simp [go_sem]) (by simp [go_sem])
  clear hbad n0 n1
  go_enter Try.func4, Try.ntmps4
  go_wp2_with (go_at_call 7; refine k1.mono ?_; rintro e W1 ⟨B, rfl, hB1, hrow0, hM1⟩; clear k1)
  have hB1 : Below w.heap.size w W1 := below_mv hB0 hM1 (Nat.le_refl _)
  have hBw : w.heap.size ≤ B := by have := hB0.size; omega
  clear hM1
  go_loopw [7, 8, 9] (fun i _ _ wx => ∃ I : Nat, i = .int .i64 I ∧ I ≤ m ∧ Below w.heap.size w wx ∧ wx.rowIs B 3 m (fun i => .int .i64 (zv m (rl S len) i))) (fun i _ _ _ => m - (RowKit.intOf i).toNat)
  case atStart => exact ⟨0, rfl, by omega, hB1, hrow0⟩
  case round =>
    obtain ⟨I, rfl, hI, hB, hrow⟩ := hrel
    by_cases hlt : I < m
    · go_wp2
      go_loopw [8, 9] (fun s k wx => ∃ K : Nat, k = .int .i64 K ∧ K ≤ len ∧ s = .bool (az m S I K) ∧ Below w.heap.size w wx ∧ wx.rowIs B 3 m (fun i => .int .i64 (zv m (rl S len) i))) (fun _ k _ => len - (RowKit.intOf k).toNat)
      case atStart => exact ⟨0, rfl, by omega, rfl, hB, hrow⟩
      case round =>
        obtain ⟨K, rfl, hK, rfl, hBk, hrowk⟩ := hrel
        by_cases hlk : K < len
        · obtain ⟨a, rfl, hl2, hq⟩ := hS.at hBk hlk
          have kZ := fun W => cZone (m : Int) (S K).f (S K).g W (by omega) (by omega) (S K).bd
          go_wp2_with (first
            | (refine wpList_ld (by rfl) _ rfl _ _ _ rfl (by assumption) ?_)
            | (go_at_call 8; refine (kZ _).mono ?_; rintro e W2 ⟨rfl, hB2⟩))
          · rename_i haz
            exact ⟨⟨K + 1, by go_num, by omega, by rw [az, haz]; rfl, hBk, hrowk⟩, by simp [RowKit.intOf]; omega⟩
          · rename_i haz
            exact ⟨⟨K + 1, by go_num, by omega, by rw [az]; simp only [Bool.not_eq_true] at haz; rw [haz, Bool.false_or]; congr 1, below_step hBk hB2, hrowk.of_block (hB2.block _ hrowk.lt)⟩, by simp [RowKit.intOf]; omega⟩
        · obtain rfl : K = len := by omega
          have hcI := hrowk.cell hlt
          have hZ := zv_01 (m : Int) (rl S K) I
          have hAZ := zv_az (m : Int) S I K
          generalize zv (m : Int) (rl S K) I = Z at *
          generalize az (m : Int) S I K = A at *
          rcases hZ with rfl | rfl
          · cases A <;> go_wp2 <;> exact ⟨⟨I + 1, by go_num, by omega, hBk, hrowk⟩, by simp [RowKit.intOf]; omega⟩
          · obtain rfl := hAZ (by decide)
            go_wp2
            exact ⟨⟨I + 1, by go_num, by omega, hBk, hrowk⟩, by simp [RowKit.intOf]; omega⟩
    · obtain rfl : I = m := by omega
      go_wp2_with (go_at_call 6; refine (cAwake54 _).mono ?_; rintro e W2 ⟨rfl, hB2⟩)
      go_ret
      exact ⟨rfl, below_step hB hB2⟩
end Go.Proofs.Ytbicnpiifpcnjaa
