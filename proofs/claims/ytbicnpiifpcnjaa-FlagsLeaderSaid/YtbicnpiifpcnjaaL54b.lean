/- A car that has done no fewer laps than any other one sees no Blue; one that has ended sees Chequered, and no other one does: the law's code, at every row of cars. -/
import Derived.Test.YtbicnpiifpcnjaaL54a
import Derived.BigQuiet
set_option linter.unusedSimpArgs false
set_option linter.unusedVariables false
namespace Go.Proofs.Ytbicnpiifpcnjaa
open Go.RowKit
/-- The most laps of the first cars. -/
def mx (S : Nat → Car) : Nat → Int
  | 0 => 0
  | k + 1 => if (decide ((k : Int) = 0) || decide (mx S k < (S k).f 31)) = true then (S k).f 31 else mx S k
theorem mx_le (S : Nat → Car) (k j : Nat) (hj : j < k) : (S j).f 31 ≤ mx S k := by
  induction k with
  | zero => omega
  | succ k ih =>
    unfold mx
    split
    · rename_i h
      simp at h
      by_cases e : j = k
      · subst e; exact Int.le_refl _
      · have := ih (by omega)
        rcases h with h | h <;> omega
    · rename_i h
      simp at h
      by_cases e : j = k
      · subst e; omega
      · exact ih (by omega)
theorem fl_blue (n : Int) (S : Nat → Car) (len i : Nat) (h : fl n S len i = 2) : (S i).f 31 ≠ mx S len := by
  unfold fl at h
  split at h
  · omega
  split at h
  · omega
  split at h
  · rename_i hv
    unfold lv at hv
    rw [List.any_eq_true] at hv
    obtain ⟨x, hx, h2⟩ := hv
    unfold rl at hx
    rw [List.mem_filter, List.mem_map] at hx
    obtain ⟨⟨j, hj, rfl⟩, _⟩ := hx
    rw [List.mem_range] at hj
    simp only [lc, Bool.and_eq_true, decide_eq_true_eq] at h2
    have := mx_le S len j hj
    omega
  · split at h
    · rcases zv_01 n (rl S len) (zn n (S i).f (S i).g).toNat with e | e <;> omega
    · omega
theorem fl_end (n : Int) (S : Nat → Car) (len i : Nat) : (S i).g 39 = decide (fl n S len i = 4) := by
  unfold fl
  cases (S i).g 39 with
  | true => rfl
  | false =>
    simp only [Bool.false_eq_true, if_false]
    symm
    rw [decide_eq_false_iff_not]
    split
    · omega
    split
    · omega
    split
    · rcases zv_01 n (rl S len) (zn n (S i).f (S i).g).toNat with e | e <;> omega
    · omega
theorem own_form {W : World} {base : Nat} {e : TypeId} {v : Value} {n : Nat} {xs : List Value} (h : W.ownsRow base e 1 v n xs) : ∃ q c, v = .slice q n c ∧ ∀ j, j < n → ∃ g, q = some ⟨g, 0, none⟩ ∧ base ≤ g ∧ g < W.heap.size ∧ W.cell? ⟨g, j, none⟩ = xs[j]? := by
  by_cases hn : 0 < n
  · obtain ⟨g, cap, h1, h2, h3, h4⟩ := own_cell h hn
    exact ⟨_, cap, h1, fun j hj => ⟨g, rfl, h2, h3, h4 j hj⟩⟩
  · obtain rfl : n = 0 := by omega
    rcases h.2 with ⟨h1, _⟩ | ⟨g, cap, cur, hv, _⟩
    · exact ⟨_, _, h1, fun j hj => by omega⟩
    · exact ⟨_, _, hv, fun j hj => by omega⟩
theorem fls_at (n : Int) (S : Nat → Car) (len k j : Nat) (h : j < k) : (fls n S len k)[j]? = some (.int .i64 (fl n S len j)) := by simp [fls, h]
set_option maxHeartbeats 8000000 in
set_option maxRecDepth 20000 in
theorem walk_FlagsLeader (n : Int) (p : Option Addr) (len cap : Nat) (S : Nat → Car) (w : World) (n0 : -9223372036854775808 ≤ n) (n1 : n ≤ 9223372036854775807) (hS : Lw p len cap S w) :
    Calls Try.prog 3 #[.int .i64 n, .slice p len cap] w fun e w' => e = .returned (.bool true) ∧ Below w.heap.size w w' := by
  by_cases hbad : 50 < len ∨ n < 1 ∨ 16 < n
  · go_enter Try.func3, Try.ntmps3
    go_wp2
    all_goals (first | (exfalso; omega) | skip)
    all_goals simp [bodyPost, results, Try.results3, go_sem]
    all_goals exact Below.refl _ _
  obtain ⟨m, rfl⟩ : ∃ m : Nat, n = m := ⟨n.toNat, by omega⟩
  have hl : len ≤ 50 := by omega
  have h1 : 1 ≤ m := by omega
  have h2 : m ≤ 16 := by omega
  have hB0 : Below w.heap.size w (w.alloc (.cells #[.bool false] 25)) := (Below.refl _ _).alloc (Nat.le_refl _) _
  have k1 := cCars m p len cap S w.heap.size false _ h1 h2 (by omega) (hS.sl hB0 w.heap.size (Nat.le_refl _)) (by simp [go_sem]) (by simp [go_sem])
  clear hbad n0 n1
  go_enter Try.func3, Try.ntmps3
  go_wp2_with (go_at_call 5; refine k1.mono ?_; rintro e W1 ⟨v, rfl, hown, hM1⟩; clear k1; obtain ⟨q, c, rfl, hcell⟩ := own_form hown)
  have hB1 : Below w.heap.size w W1 := below_mv hB0 hM1 (Nat.le_refl _)
  clear hM1 hown
  go_loopw [7, 8] (fun s i wx => ∃ I : Nat, i = .int .i64 I ∧ I ≤ len ∧ s = .int .i64 (mx S I) ∧ Below w.heap.size w wx ∧ Below W1.heap.size W1 wx) (fun _ i _ => len - (RowKit.intOf i).toNat)
  case atStart => exact ⟨0, rfl, by omega, rfl, hB1, Below.refl _ _⟩
  case round =>
    obtain ⟨I, rfl, hI, rfl, hB, hW⟩ := hrel
    by_cases hlt : I < len
    · obtain ⟨a, rfl, hl2, hq⟩ := hS.at hB hlt
      have h31 : wr.cell? ⟨(a.add (I * 41)).block, (a.add (I * 41)).off + 31, none⟩ = some (.int .i64 ((S I).f 31)) := hq 31 _ rfl
      have hfin : ∀ z : Int, z = mx S (I + 1) → (∃ I_1 : Nat, Value.int .i64 ((I : Int) + 1) = .int .i64 I_1 ∧ I_1 ≤ len ∧ Value.int .i64 z = .int .i64 (mx S I_1) ∧ Below w.heap.size w wr ∧ Below W1.heap.size W1 wr) := fun z hz => ⟨I + 1, by go_num, by omega, by rw [hz], hB, hW⟩
      rw [mx] at hfin
      by_cases hI0 : I = 0
      · subst hI0
        have h31 : wr.cell? ⟨a.block, a.off + 31, none⟩ = some (.int .i64 ((S 0).f 31)) := hq 31 _ rfl
        clear hq
        generalize (S 0).f 31 = x at *
        generalize mx S 0 = y at *
        go_wp2
        exact ⟨hfin _ (by simp), by simp [RowKit.intOf]; omega⟩
      · clear hq
        generalize (S I).f 31 = x at *
        generalize mx S I = y at *
        go_wp2
        · rename_i h9
          have h8 : y < x := by rcases h9 with h9 | h9; (simp at h9; omega); exact h9
          exact ⟨hfin _ (by simp [h8]), by simp [RowKit.intOf]; omega⟩
        · rename_i h9
          have h8 : ¬ y < x := by have := h9.2; omega
          exact ⟨hfin _ (by simp [hI0, h8]), by simp [RowKit.intOf]; omega⟩
    · obtain rfl : I = len := by omega
      have hM := mx_le S I
      have hFB := fl_blue m S I
      have hFE := fl_end m S I
      go_wp2
      go_loopw [9] (fun i wx => ∃ J : Nat, i = .int .i64 J ∧ J ≤ I ∧ Below w.heap.size w wx ∧ Below W1.heap.size W1 wx) (fun i _ => I - (RowKit.intOf i).toNat)
      case atStart => exact ⟨0, rfl, by omega, hB, hW⟩
      case round =>
        obtain ⟨J, rfl, hJ, hBj, hWj⟩ := hrel
        by_cases hlj : J < I
        · obtain ⟨a, rfl, hl2, hq⟩ := hS.at hBj hlj
          have h31 : wr.cell? ⟨(a.add (J * 41)).block, (a.add (J * 41)).off + 31, none⟩ = some (.int .i64 ((S J).f 31)) := hq 31 _ rfl
          have h39 : wr.cell? ⟨(a.add (J * 41)).block, (a.add (J * 41)).off + 39, none⟩ = some (.bool ((S J).g 39)) := hq 39 _ rfl
          obtain ⟨g, rfl, hg1, hg2, hgc⟩ := hcell J hlj
          rw [fls_at _ _ _ _ _ hlj] at hgc
          have hgw : wr.cell? ⟨g, J, none⟩ = some (.int .i64 (fl m S I J)) := cell_later hWj hgc
          have hFBJ := hFB J
          rw [hFE J] at h39
          clear hq hgc hFB hFE hcell hM
          generalize fl m S I J = F at *
          generalize (S J).f 31 = x at *
          generalize mx S I = y at *
          go_upto_region 16 with (fail)
          by_cases hxy : x = y
          · have hF2 : F ≠ 2 := fun e => (hFBJ e) hxy
            go_quiet (fail)
            all_goals go_wp2
            · rename_i h9
              exfalso
              rcases h9 with h9 | h9
              · simp at h9; omega
              · by_cases h8 : F = 4 <;> simp [h8] at h9
            · exact ⟨⟨J + 1, by go_num, by omega, by (repeat (first | exact Below.refl _ _ | assumption | apply Below.drew | apply below_drewN | refine below_alloc ?_ _ | refine below_step ?_ (by assumption) | refine Below.alloc ?_ (by first | exact Nat.le_refl _ | omega | (simp; omega) | simp) _ | refine Below.setCell ?_ (by first | exact Nat.le_refl _ | omega | (simp; omega) | simp) _)), by (repeat (first | exact Below.refl _ _ | assumption | apply Below.drew | apply below_drewN | refine below_alloc ?_ _ | refine below_step ?_ (by assumption) | refine Below.alloc ?_ (by first | exact Nat.le_refl _ | omega | (simp; omega) | simp) _ | refine Below.setCell ?_ (by first | exact Nat.le_refl _ | omega | (simp; omega) | simp) _))⟩, by simp [RowKit.intOf]; omega⟩
          · go_quiet (fail)
            all_goals go_wp2
            · rename_i h9
              exfalso
              by_cases h8 : F = 4 <;> simp [h8] at h9
            · exact ⟨⟨J + 1, by go_num, by omega, by (repeat (first | exact Below.refl _ _ | assumption | apply Below.drew | apply below_drewN | refine below_alloc ?_ _ | refine below_step ?_ (by assumption) | refine Below.alloc ?_ (by first | exact Nat.le_refl _ | omega | (simp; omega) | simp) _ | refine Below.setCell ?_ (by first | exact Nat.le_refl _ | omega | (simp; omega) | simp) _)), by (repeat (first | exact Below.refl _ _ | assumption | apply Below.drew | apply below_drewN | refine below_alloc ?_ _ | refine below_step ?_ (by assumption) | refine Below.alloc ?_ (by first | exact Nat.le_refl _ | omega | (simp; omega) | simp) _ | refine Below.setCell ?_ (by first | exact Nat.le_refl _ | omega | (simp; omega) | simp) _))⟩, by simp [RowKit.intOf]; omega⟩
        · obtain rfl : J = I := by omega
          go_wp2_with (go_at_call 6; refine (cAwake54 _).mono ?_; rintro e W2 ⟨rfl, hB2⟩)
          go_ret
          exact ⟨rfl, below_step hBj hB2⟩
end Go.Proofs.Ytbicnpiifpcnjaa
