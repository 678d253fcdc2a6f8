/- Lines: near places, what is wrong with a line. -/
import Derived.Test.YthieinnlpfdemaaH1
import Derived.Test.YthieinnlpfdemaaM2
import Derived.Test.YthieinnlpfdemaaF3
set_option linter.unusedSimpArgs false
set_option linter.unusedVariables false
namespace Go.Proofs.Ythieinnlpfdemaa
open Go.RowKit
/-- A row of places. -/
def Pt (a : Addr) (n : Nat) (X Y : Nat → Int) (w : World) : Prop :=
  ∀ j, j < n → w.cell? (a.add (j * 2)) = some (.int .i64 (X j)) ∧ w.cell? ⟨(a.add (j * 2)).block, (a.add (j * 2)).off + 1, none⟩ = some (.int .i64 (Y j))
theorem Pt.later {a : Addr} {n : Nat} {X Y : Nat → Int} {W w1 : World} (h : Pt a n X Y W) (hB : Below W.heap.size W w1) : Pt a n X Y w1 :=
  fun j hj => ⟨cell_later hB (h j hj).1, cell_later hB (h j hj).2⟩
theorem add_block (a : Addr) (j : Nat) : (a.add j).block = a.block := by unfold Addr.add; split <;> rfl
theorem Pt.mv {a : Addr} {n : Nat} {X Y : Nat → Int} {W w1 : World} {b : Nat} {o : Bool} (h : Pt a n X Y W) (hM : Mv b o W w1) (hne : a.block ≠ b) : Pt a n X Y w1 :=
  fun j hj => ⟨mv_cell hM (by rw [add_block]; exact hne) (h j hj).1, mv_cell hM (by show (a.add (j * 2)).block ≠ b; rw [add_block]; exact hne) (h j hj).2⟩
theorem Pt.put {a : Addr} {n : Nat} {X Y : Nat → Int} {W : World} (h : Pt a n X Y W) {p : Addr} (hne : p.block ≠ a.block) (u : Value) : Pt a n X Y (W.setCell p u) := by
  have e : (W.setCell p u).heap[a.block]? = W.heap[a.block]? := Below.heap_setCell _ _ _ _ (fun q => hne q.symm)
  intro j hj
  refine ⟨?_, ?_⟩
  · rw [World.cell?_of_block (w := W) (by rw [add_block]; exact e)]; exact (h j hj).1
  · rw [World.cell?_of_block (w := W) (by show (W.setCell p u).heap[(a.add (j * 2)).block]? = _; rw [add_block]; exact e)]; exact (h j hj).2
theorem Pt.block {a : Addr} {n : Nat} {X Y : Nat → Int} {W : World} (h : Pt a n X Y W) (hn : 0 < n) : a.block < W.heap.size := by
  have := World.block_lt_of_cell? W _ (h 0 hn).1
  rwa [add_block] at this
/-- What is wrong with a line. -/
def rgt (n : Nat) (near : Bool) : Int := if n < 3 ∨ 64 < n then 42 else if near = true then 0 else 40
theorem cFar (x y : Int) (w : World) : Calls Try.prog 26 #[.agg #[.int .i64 x, .int .i64 y]] w fun e w' => e = .returned (.bool (!pn x y)) ∧ Below w.heap.size w w' := by
  cases hp : pn x y with
  | true =>
    rw [pn_iff] at hp
    obtain ⟨p1, p2, p3, p4⟩ := hp
    have t1 : ¬ 281474976710656 < max x y := by omega
    have t2 : ¬ min x y < -281474976710656 := by omega
    go_enter Try.func26, Try.ntmps26
    go_wp2
    go_ret
    exact ⟨by simp only [Bool.not_true]; first | rfl | (congr 2; simp only [decide_eq_false_iff_not]; exact t2), by (repeat (first | with_reducible assumption | with_reducible exact Below.refl _ _ | ((with_reducible refine Below.setCell ?_ ?_ _); rotate_left; (first | exact Nat.le_refl _ | (dsimp only; omega) | (simp; done) | (simp; omega))) | with_reducible refine below_alloc ?_ _ | with_reducible apply below_drewN | with_reducible apply Below.drew | with_reducible refine below_step ?_ (by assumption)))⟩
  | false =>
    unfold pn at hp
    simp only [decide_eq_false_iff_not] at hp
    by_cases t1 : 281474976710656 < max x y
    · clear hp
      go_enter Try.func26, Try.ntmps26
      go_wp2
      go_ret
      exact ⟨rfl, by (repeat (first | with_reducible assumption | with_reducible exact Below.refl _ _ | ((with_reducible refine Below.setCell ?_ ?_ _); rotate_left; (first | exact Nat.le_refl _ | (dsimp only; omega) | (simp; done) | (simp; omega))) | with_reducible refine below_alloc ?_ _ | with_reducible apply below_drewN | with_reducible apply Below.drew | with_reducible refine below_step ?_ (by assumption)))⟩
    · have t2 : min x y < -281474976710656 := by omega
      clear hp
      go_enter Try.func26, Try.ntmps26
      go_wp2
      go_ret
      exact ⟨by first | rfl | (simp only [Bool.not_false]; congr 2; simp only [decide_eq_true_eq]; exact t2), by (repeat (first | with_reducible assumption | with_reducible exact Below.refl _ _ | ((with_reducible refine Below.setCell ?_ ?_ _); rotate_left; (first | exact Nat.le_refl _ | (dsimp only; omega) | (simp; done) | (simp; omega))) | with_reducible refine below_alloc ?_ _ | with_reducible apply below_drewN | with_reducible apply Below.drew | with_reducible refine below_step ?_ (by assumption)))⟩
set_option maxHeartbeats 2000000 in
theorem cIdx (a : Addr) (n c : Nat) (X Y : Nat → Int) (w : World) (hn : n ≤ 9223372036854775807) (hp : Pt a n X Y w) :
    Calls Try.prog 51 #[.slice (some a) n c, .func (.func 26) #[] #[]] w fun e w' => ∃ r : Int, e = .returned (.int .i64 r) ∧ Hid ((0 ≤ r) ↔ nrs X Y n = false) ∧ Below w.heap.size w w' := by
  have HP := Lib.hid hp
  clear hp
  go_enter Try.func51, Try.ntmps51
  go_wp2
  go_loopw [8] (fun i wr => ∃ k : Nat, i = .int .i64 k ∧ k ≤ n ∧ Hid (nrs X Y k = true) ∧ Below w.heap.size w wr) (fun i _ => n - (RowKit.intOf i).toNat)
  case atStart => exact ⟨0, rfl, by omega, Lib.hid rfl, Below.refl _ _⟩
  case round =>
    obtain ⟨k, rfl, hk, HN, HB⟩ := hrel
    by_cases hlt : k < n
    · have c0 := cell_later HB (HP.out k hlt).1
      have c1 := cell_later HB (HP.out k hlt).2
      have k1 := fun W => cFar (X k) (Y k) W
      cases hpn : pn (X k) (Y k) with
      | true =>
        have HS : Hid (nrs X Y (k + 1) = true) := Lib.hid (by simp only [nrs, Bool.and_eq_true]; exact ⟨HN.out, hpn⟩)
        rw [hpn] at k1
        clear hpn
        generalize X k = x at *
        generalize Y k = y at *
        go_wp2_with ((go_at_call 26; (with_reducible refine (k1 _).mono ?_); rintro e w1 ⟨rfl, hM⟩))
        exact ⟨⟨k + 1, by go_num, by omega, HS, by (repeat (first | with_reducible assumption | with_reducible exact Below.refl _ _ | ((with_reducible refine Below.setCell ?_ ?_ _); rotate_left; (first | exact Nat.le_refl _ | (dsimp only; omega) | (simp; done) | (simp; omega))) | with_reducible refine below_alloc ?_ _ | with_reducible apply below_drewN | with_reducible apply Below.drew | with_reducible refine below_step ?_ (by assumption)))⟩, by simp [RowKit.intOf]; omega⟩
      | false =>
        have HS : Hid (nrs X Y n = false) := Lib.hid (nrs_no hpn hlt)
        rw [hpn] at k1
        clear hpn
        generalize X k = x at *
        generalize Y k = y at *
        go_wp2_with ((go_at_call 26; (with_reducible refine (k1 _).mono ?_); rintro e w1 ⟨rfl, hM⟩))
        go_ret
        exact ⟨(k : Int), rfl, Lib.hid ⟨fun _ => HS.out, fun _ => by omega⟩, by (repeat (first | with_reducible assumption | with_reducible exact Below.refl _ _ | ((with_reducible refine Below.setCell ?_ ?_ _); rotate_left; (first | exact Nat.le_refl _ | (dsimp only; omega) | (simp; done) | (simp; omega))) | with_reducible refine below_alloc ?_ _ | with_reducible apply below_drewN | with_reducible apply Below.drew | with_reducible refine below_step ?_ (by assumption)))⟩
    · obtain rfl : k = n := by omega
      go_wp2
      go_ret
      exact ⟨-1, rfl, Lib.hid ⟨fun h => by omega, fun h => by rw [HN.out] at h; cases h⟩, HB⟩
theorem cCont (a : Addr) (n c : Nat) (X Y : Nat → Int) (w : World) (hn : n ≤ 9223372036854775807) (hp : Pt a n X Y w) :
    Calls Try.prog 25 #[.slice (some a) n c, .func (.func 26) #[] #[]] w fun e w' => e = .returned (.bool (!nrs X Y n)) ∧ Below w.heap.size w w' := by
  have k1 := fun W h => cIdx a n c X Y W hn h
  have HP := Lib.hid hp
  clear hp
  go_enter Try.func25, Try.ntmps25
  go_wp2_with (fail)
  (go_at_call 51; (with_reducible refine (k1 _ HP.out).mono ?_); rintro e w1 ⟨r, rfl, hr, hM⟩)
  go_wp2
  go_ret
  have E : decide (0 ≤ r) = !nrs X Y n := by
    have h := hr.out
    cases hN : nrs X Y n with
    | true => exact decide_eq_false (fun h0 => by have := h.1 h0; rw [hN] at this; cases this)
    | false => exact decide_eq_true (h.2 hN)
  exact ⟨congrArg (fun x => Ending.returned (Value.bool x)) E, by (repeat (first | with_reducible assumption | with_reducible exact Below.refl _ _ | ((with_reducible refine Below.setCell ?_ ?_ _); rotate_left; (first | exact Nat.le_refl _ | (dsimp only; omega) | (simp; done) | (simp; omega))) | with_reducible refine below_alloc ?_ _ | with_reducible apply below_drewN | with_reducible apply Below.drew | with_reducible refine below_step ?_ (by assumption)))⟩
theorem cRightN (p : Option Addr) (n c : Nat) (w : World) (h : n < 3 ∨ 64 < n) (hn : n ≤ 9223372036854775807) : Calls Try.prog 9 #[.slice p n c] w fun e w' => e = .returned (.int .i64 42) ∧ Below w.heap.size w w' := by
  rcases h with h | h
  · go_enter Try.func9, Try.ntmps9
    go_wp2
    go_ret
    exact ⟨rfl, by (repeat (first | with_reducible assumption | with_reducible exact Below.refl _ _ | ((with_reducible refine Below.setCell ?_ ?_ _); rotate_left; (first | exact Nat.le_refl _ | (dsimp only; omega) | (simp; done) | (simp; omega))) | with_reducible refine below_alloc ?_ _ | with_reducible apply below_drewN | with_reducible apply Below.drew | with_reducible refine below_step ?_ (by assumption)))⟩
  · have h1 : ¬ n < 3 := by omega
    go_enter Try.func9, Try.ntmps9
    go_wp2
    go_ret
    exact ⟨rfl, by (repeat (first | with_reducible assumption | with_reducible exact Below.refl _ _ | ((with_reducible refine Below.setCell ?_ ?_ _); rotate_left; (first | exact Nat.le_refl _ | (dsimp only; omega) | (simp; done) | (simp; omega))) | with_reducible refine below_alloc ?_ _ | with_reducible apply below_drewN | with_reducible apply Below.drew | with_reducible refine below_step ?_ (by assumption)))⟩
theorem rRightN (p : Option Addr) (n c : Nat) (w : World) (h : n < 3 ∨ 64 < n) (hn : n ≤ 9223372036854775807) : Calls Try.prog 10 #[.slice p n c] w fun e w' => e = .returned (.int .i64 42) ∧ Below w.heap.size w w' := by
  rcases h with h | h
  · go_enter Try.func10, Try.ntmps10
    go_wp2
    go_ret
    exact ⟨rfl, by (repeat (first | with_reducible assumption | with_reducible exact Below.refl _ _ | ((with_reducible refine Below.setCell ?_ ?_ _); rotate_left; (first | exact Nat.le_refl _ | (dsimp only; omega) | (simp; done) | (simp; omega))) | with_reducible refine below_alloc ?_ _ | with_reducible apply below_drewN | with_reducible apply Below.drew | with_reducible refine below_step ?_ (by assumption)))⟩
  · have h1 : ¬ n < 3 := by omega
    go_enter Try.func10, Try.ntmps10
    go_wp2
    go_ret
    exact ⟨rfl, by (repeat (first | with_reducible assumption | with_reducible exact Below.refl _ _ | ((with_reducible refine Below.setCell ?_ ?_ _); rotate_left; (first | exact Nat.le_refl _ | (dsimp only; omega) | (simp; done) | (simp; omega))) | with_reducible refine below_alloc ?_ _ | with_reducible apply below_drewN | with_reducible apply Below.drew | with_reducible refine below_step ?_ (by assumption)))⟩
theorem c7NearP (a : Addr) (n c : Nat) (X Y : Nat → Int) (w : World) (hn : n ≤ 9223372036854775807) (hp : Pt a n X Y w) :
    Calls Try.prog 27 #[.slice (some a) n c] w fun e w' => e = .returned (.bool (nrs X Y n)) ∧ Below w.heap.size w w' := c7Near a n c X Y w hn (fun j hj => (hp j hj).1) (fun j hj => (hp j hj).2)
theorem cRightY (a : Addr) (n c : Nat) (X Y : Nat → Int) (w : World) (h1 : 3 ≤ n) (h2 : n ≤ 64) (hp : Pt a n X Y w) : Calls Try.prog 9 #[.slice (some a) n c] w fun e w' => e = .returned (.int .i64 (if nrs X Y n = true then 0 else 40)) ∧ Below w.heap.size w w' := by
  have k1 := fun W h => cCont a n c X Y W (by omega) h
  have HP := Lib.hid hp
  clear hp
  have g1 : ¬ n < 3 := by omega
  have g2 : ¬ 64 < n := by omega
  generalize nrs X Y n = N at *
  cases N <;>
  · go_enter Try.func9, Try.ntmps9
    go_wp2_with ((go_at_call 25; (with_reducible refine (k1 _ HP.out).mono ?_); rintro e w1 ⟨rfl, hM⟩))
    go_ret
    exact ⟨rfl, by (repeat (first | with_reducible assumption | with_reducible exact Below.refl _ _ | ((with_reducible refine Below.setCell ?_ ?_ _); rotate_left; (first | exact Nat.le_refl _ | (dsimp only; omega) | (simp; done) | (simp; omega))) | with_reducible refine below_alloc ?_ _ | with_reducible apply below_drewN | with_reducible apply Below.drew | with_reducible refine below_step ?_ (by assumption)))⟩
theorem rRightY (a : Addr) (n c : Nat) (X Y : Nat → Int) (w : World) (h1 : 3 ≤ n) (h2 : n ≤ 64) (hp : Pt a n X Y w) : Calls Try.prog 10 #[.slice (some a) n c] w fun e w' => e = .returned (.int .i64 (if nrs X Y n = true then 0 else 40)) ∧ Below w.heap.size w w' := by
  have k1 := fun W h => c7NearP a n c X Y W (by omega) h
  have HP := Lib.hid hp
  clear hp
  have g1 : ¬ n < 3 := by omega
  have g2 : ¬ 64 < n := by omega
  generalize nrs X Y n = N at *
  cases N <;>
  · go_enter Try.func10, Try.ntmps10
    go_wp2_with ((go_at_call 27; (with_reducible refine (k1 _ HP.out).mono ?_); rintro e w1 ⟨rfl, hM⟩))
    go_ret
    exact ⟨rfl, by (repeat (first | with_reducible assumption | with_reducible exact Below.refl _ _ | ((with_reducible refine Below.setCell ?_ ?_ _); rotate_left; (first | exact Nat.le_refl _ | (dsimp only; omega) | (simp; done) | (simp; omega))) | with_reducible refine below_alloc ?_ _ | with_reducible apply below_drewN | with_reducible apply Below.drew | with_reducible refine below_step ?_ (by assumption)))⟩
end Go.Proofs.Ythieinnlpfdemaa
