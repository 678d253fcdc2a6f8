/- The nearest sample: the program's. -/
import Derived.Test.YthieinnlpfdemaaS0
import Derived.Deep.QuietTactic
import Derived.BigQuiet
set_option linter.unusedSimpArgs false
set_option linter.unusedVariables false
namespace Go.Proofs.Ythieinnlpfdemaa
open Go.RowKit
/-- The square of the way to a sample. -/
def sq2 (X Y : Nat → Int) (px py : Int) (j : Nat) : Int := (X j - px) * (X j - px) + (Y j - py) * (Y j - py)
/-- Which of the first samples is nearest. -/
def bst (X Y : Nat → Int) (px py : Int) : Nat → Int
  | 0 => -1
  | k + 1 => if bst X Y px py k < 0 ∨ sq2 X Y px py k < sq2 X Y px py (bst X Y px py k).toNat then k else bst X Y px py k
/-- How far off it is. -/
def bsd (X Y : Nat → Int) (px py : Int) (k : Nat) : Int := if bst X Y px py k < 0 then 0 else sq2 X Y px py (bst X Y px py k).toNat
theorem bst_bd (X Y : Nat → Int) (px py : Int) (k : Nat) : -1 ≤ bst X Y px py k ∧ bst X Y px py k < k := by
  induction k with
  | zero => unfold bst; omega
  | succ k ih => unfold bst; split <;> omega
theorem sq2_bd (X Y : Nat → Int) (px py : Int) (j : Nat) (h1 : pn (X j) (Y j) = true) (h2 : pn px py = true) : 0 ≤ sq2 X Y px py j ∧ sq2 X Y px py j ≤ 633825300114114700748351602688 ∧
    ((-562949953421312 ≤ X j - px ∧ X j - px ≤ 562949953421312) ∧ (-562949953421312 ≤ Y j - py ∧ Y j - py ≤ 562949953421312)) ∧
    ((0 ≤ (X j - px) * (X j - px) ∧ (X j - px) * (X j - px) ≤ 316912650057057350374175801344) ∧ (0 ≤ (Y j - py) * (Y j - py) ∧ (Y j - py) * (Y j - py) ≤ 316912650057057350374175801344)) := by
  rw [pn_iff] at h1 h2
  have a := mul49 (X j - px) (X j - px) (by omega) (by omega) (by omega) (by omega)
  have b := mul49 (Y j - py) (Y j - py) (by omega) (by omega) (by omega) (by omega)
  have c : 0 ≤ (X j - px) * (X j - px) := by rcases Int.le_total 0 (X j - px) with h | h; exact Int.mul_nonneg h h; exact Int.mul_nonneg_of_nonpos_of_nonpos h h
  have d : 0 ≤ (Y j - py) * (Y j - py) := by rcases Int.le_total 0 (Y j - py) with h | h; exact Int.mul_nonneg h h; exact Int.mul_nonneg_of_nonpos_of_nonpos h h
  unfold sq2
  omega
theorem cNearP (p : Option Addr) (n c : Nat) (px py : Int) (w : World) (hp : pn px py = false) : Calls Try.prog 20 #[.slice p n c, .agg #[.int .i64 px, .int .i64 py]] w fun e w' => e = .returned (.int .i64 (-1)) ∧ Below w.heap.size w w' := by
  have k1 := fun W => cFar px py W
  rw [hp] at k1
  clear hp
  go_enter Try.func20, Try.ntmps20
  go_wp2_with ((go_at_call 26; (with_reducible refine (k1 _).mono ?_); rintro e w1 ⟨rfl, hM⟩))
  go_ret
  exact ⟨rfl, by (repeat (first | with_reducible assumption | with_reducible exact Below.refl _ _ | ((with_reducible refine Below.setCell ?_ ?_ _); rotate_left; (first | exact Nat.le_refl _ | (dsimp only; omega) | (simp; done) | (simp; omega))) | with_reducible refine below_alloc ?_ _ | with_reducible apply below_drewN | with_reducible apply Below.drew | with_reducible refine below_step ?_ (by assumption)))⟩
theorem cNearF (a : Addr) (n c : Nat) (X Y : Nat → Int) (px py : Int) (w : World) (hn : n ≤ 9223372036854775807) (hp : pn px py = true) (hN : nrs X Y n = false) (hP : Pt a n X Y w) : Calls Try.prog 20 #[.slice (some a) n c, .agg #[.int .i64 px, .int .i64 py]] w fun e w' => e = .returned (.int .i64 (-1)) ∧ Below w.heap.size w w' := by
  have k1 := fun W => cFar px py W
  rw [hp] at k1
  have k2 : ∀ W, Below w.heap.size w W → Calls Try.prog 25 #[.slice (some a) n c, .func (.func 26) #[] #[]] W fun e w' => e = .returned (.bool true) ∧ Below W.heap.size W w' := fun W hB => by
    have h := cCont a n c X Y W hn (hP.later hB)
    rw [hN] at h; exact h
  clear hp hN hP
  go_enter Try.func20, Try.ntmps20
  go_wp2_with (fail)
  (go_at_call 26; (with_reducible refine (k1 _).mono ?_); rintro e w1 ⟨rfl, hM⟩)
  have HB : Below w.heap.size w w1 := below_step (W := _) (by (repeat (first | with_reducible assumption | with_reducible exact Below.refl _ _ | ((with_reducible refine Below.setCell ?_ ?_ _); rotate_left; (first | exact Nat.le_refl _ | (dsimp only; omega) | (simp; done) | (simp; omega))) | with_reducible refine below_alloc ?_ _ | with_reducible apply below_drewN | with_reducible apply Below.drew | with_reducible refine below_step ?_ (by assumption)))) hM
  clear hM k1
  go_wp2_with ((go_at_call 25; (with_reducible refine (k2 _ HB).mono ?_); rintro e w1 ⟨rfl, hM⟩))
  go_ret
  exact ⟨rfl, below_step HB hM⟩
theorem cIdx0 (f : Value) (w : World) : Calls Try.prog 51 #[.slice none 0 0, f] w fun e w' => e = .returned (.int .i64 (-1)) ∧ Below w.heap.size w w' := by
  go_enter Try.func51, Try.ntmps51
  go_wp2
  refine wp_loop_rounds 1 ?_
  rw [rounds_succ]
  go_wp2
  go_ret
  exact ⟨rfl, by (repeat (first | with_reducible assumption | with_reducible exact Below.refl _ _ | ((with_reducible refine Below.setCell ?_ ?_ _); rotate_left; (first | exact Nat.le_refl _ | (dsimp only; omega) | (simp; done) | (simp; omega))) | with_reducible refine below_alloc ?_ _ | with_reducible apply below_drewN | with_reducible apply Below.drew | with_reducible refine below_step ?_ (by assumption)))⟩
theorem cCont0 (f : Value) (w : World) : Calls Try.prog 25 #[.slice none 0 0, f] w fun e w' => e = .returned (.bool false) ∧ Below w.heap.size w w' := by
  have k1 := fun W => cIdx0 f W
  go_enter Try.func25, Try.ntmps25
  go_wp2_with ((go_at_call 51; (with_reducible refine (k1 _).mono ?_); rintro e w1 ⟨rfl, hM⟩))
  go_ret
  exact ⟨rfl, by (repeat (first | with_reducible assumption | with_reducible exact Below.refl _ _ | ((with_reducible refine Below.setCell ?_ ?_ _); rotate_left; (first | exact Nat.le_refl _ | (dsimp only; omega) | (simp; done) | (simp; omega))) | with_reducible refine below_alloc ?_ _ | with_reducible apply below_drewN | with_reducible apply Below.drew | with_reducible refine below_step ?_ (by assumption)))⟩
theorem cNearQ (px py : Int) (w : World) (hp : pn px py = true) : Calls Try.prog 20 #[.slice none 0 0, .agg #[.int .i64 px, .int .i64 py]] w fun e w' => e = .returned (.int .i64 (-1)) ∧ Below w.heap.size w w' := by
  have k1 := fun W => cFar px py W
  rw [hp] at k1
  have k2 := fun f W => cCont0 f W
  clear hp
  go_enter Try.func20, Try.ntmps20
  go_wp2_with (first | (go_at_call 26; (with_reducible refine (k1 _).mono ?_); rintro e w1 ⟨rfl, hM⟩) | (go_at_call 25; (with_reducible refine (k2 _ _).mono ?_); rintro e w1 ⟨rfl, hM⟩))
  refine wp_loop_rounds 1 ?_
  rw [rounds_succ]
  go_wp2
  go_ret
  exact ⟨rfl, by (repeat (first | with_reducible assumption | with_reducible exact Below.refl _ _ | ((with_reducible refine Below.setCell ?_ ?_ _); rotate_left; (first | exact Nat.le_refl _ | (dsimp only; omega) | (simp; done) | (simp; omega))) | with_reducible refine below_alloc ?_ _ | with_reducible apply below_drewN | with_reducible apply Below.drew | with_reducible refine below_step ?_ (by assumption)))⟩
set_option maxHeartbeats 8000000 in
set_option maxRecDepth 20000 in
theorem cNearY (a : Addr) (n c : Nat) (X Y : Nat → Int) (px py : Int) (w : World) (hn : n ≤ 9223372036854775806) (hp : pn px py = true) (hN : nrs X Y n = true) (hP : Pt a n X Y w) : Calls Try.prog 20 #[.slice (some a) n c, .agg #[.int .i64 px, .int .i64 py]] w fun e w' => e = .returned (.int .i64 (bst X Y px py n)) ∧ Below w.heap.size w w' := by
  have k1 := fun W => cFar px py W
  rw [hp] at k1
  have k2 : ∀ W, Below w.heap.size w W → Calls Try.prog 25 #[.slice (some a) n c, .func (.func 26) #[] #[]] W fun e w' => e = .returned (.bool false) ∧ Below W.heap.size W w' := fun W hB => by
    have h := cCont a n c X Y W (by omega) (hP.later hB)
    rw [hN] at h; exact h
  have HP := Lib.hid (And.intro hp (And.intro hN hP))
  clear hp hN hP
  go_enter Try.func20, Try.ntmps20
  go_wp2_with (fail)
  (go_at_call 26; (with_reducible refine (k1 _).mono ?_); rintro e w1 ⟨rfl, hM⟩)
  have P : Bk (w.heap.size) 0 [.int .i64 px, .int .i64 py] w1 := Bk.later (by simp [Bk, go_sem]; done) hM
  have HB : Below w.heap.size w w1 := below_step (W := _) (by (repeat (first | with_reducible assumption | with_reducible exact Below.refl _ _ | ((with_reducible refine Below.setCell ?_ ?_ _); rotate_left; (first | exact Nat.le_refl _ | (dsimp only; omega) | (simp; done) | (simp; omega))) | with_reducible refine below_alloc ?_ _ | with_reducible apply below_drewN | with_reducible apply Below.drew | with_reducible refine below_step ?_ (by assumption)))) hM
  clear hM k1
  go_wp2_with (fail)
  (go_at_call 25; (with_reducible refine (k2 _ HB).mono ?_); rintro e9 w1 ⟨rfl, hM⟩; (first | have HB : Below w.heap.size w _ := below_step HB hM | have HB : Below w.heap.size w _ := below_step (W := _) (by (repeat (first | with_reducible assumption | with_reducible exact Below.refl _ _ | ((with_reducible refine Below.setCell ?_ ?_ _); rotate_left; (first | exact Nat.le_refl _ | (dsimp only; omega) | (simp; done) | (simp; omega))) | with_reducible refine below_alloc ?_ _ | with_reducible apply below_drewN | with_reducible apply Below.drew | with_reducible refine below_step ?_ (by assumption)))) hM); (first | have P := Bk.later P hM | have P := Bk.later (Bk.alloc P _) hM | have P := Bk.later (Bk.alloc (Bk.alloc P _) _) hM); have C_P := P; simp only [Bk] at C_P)
  clear hM k2 C_P
  rename World => wf
  have hzf := World.block_lt_of_cell? wf _ (show wf.cell? ⟨w.heap.size, 0, none⟩ = some (.int .i64 px) from P.1)
  dsimp only at hzf
  have HW : Hid (Below w.heap.size w (wf.alloc (Obj.cells #[.int .i64 0, .int .u64 0] 50)) ∧ Bk (w.heap.size) 0 [.int .i64 px, .int .i64 py] (wf.alloc (Obj.cells #[.int .i64 0, .int .u64 0] 50)) ∧ Bk wf.heap.size 0 [.int .i64 0, .int .u64 0] (wf.alloc (Obj.cells #[.int .i64 0, .int .u64 0] 50))) := Lib.hid ⟨below_alloc HB _, Bk.alloc P _, by simp [Bk, go_sem]⟩
  go_wp2_with (fail)
  go_loopw [5, 22] (fun m i wr => ∃ k : Nat, i = .int .i64 k ∧ k ≤ n ∧ m = .int .i64 (bst X Y px py k) ∧ Below w.heap.size w wr ∧ Bk (w.heap.size) 0 [.int .i64 px, .int .i64 py] wr ∧ Bk wf.heap.size 0 [.int .i64 (hw (bsd X Y px py k)), .int .u64 (lw (bsd X Y px py k))] wr) (fun _ i _ => n - (RowKit.intOf i).toNat)
  case atStart => exact ⟨0, rfl, by omega, rfl, HW.out.1, HW.out.2.1, HW.out.2.2⟩
  case round =>
    obtain ⟨k, rfl, hk, rfl, HB, P, Q⟩ := hrel
    have C_P := P; simp only [Bk] at C_P
    have C_Q := Q; simp only [Bk] at C_Q
    have hzr := HB.size
    have hzq := World.block_lt_of_cell? wr _ C_Q.1
    dsimp only at hzq
    by_cases hlt : k < n
    · obtain ⟨c0, c1⟩ := HP.out.2.2.later HB k hlt
      obtain ⟨d0, d1, ⟨⟨u0, u1⟩, v0, v1⟩, ⟨s0, s1⟩, s2, s3⟩ := sq2_bd X Y px py k (nrs_yes HP.out.2.1 hlt) HP.out.1
      have bb := bst_bd X Y px py k
      have db : 0 ≤ bsd X Y px py k ∧ bsd X Y px py k ≤ 633825300114114700748351602688 := by
        unfold bsd; split
        · exact ⟨by decide, by decide⟩
        · have := sq2_bd X Y px py (bst X Y px py k).toNat (nrs_yes HP.out.2.1 (by omega)) HP.out.1
          exact ⟨this.1, this.2.1⟩
      have EQ : Hid (bst X Y px py (k + 1) = if bst X Y px py k < 0 ∨ sq2 X Y px py k < bsd X Y px py k then (k : Int) else bst X Y px py k) := Lib.hid (by
        unfold bsd; rw [bst]
        by_cases h : bst X Y px py k < 0
        · rw [if_pos (Or.inl h), if_pos (Or.inl h)]
        · rw [if_neg h])
      have ED : Hid (bsd X Y px py (k + 1) = if bst X Y px py k < 0 ∨ sq2 X Y px py k < bsd X Y px py k then sq2 X Y px py k else bsd X Y px py k) := Lib.hid (by
        have h1 := EQ.out
        by_cases h : bst X Y px py k < 0 ∨ sq2 X Y px py k < bsd X Y px py k
        · rw [if_pos h] at h1 ⊢
          unfold bsd; rw [h1, if_neg (by omega)]; rfl
        · rw [if_neg h] at h1 ⊢
          conv => lhs; unfold bsd
          rw [h1]; rfl)
      have e1 : (X k - px) * (X k - px) + (Y k - py) * (Y k - py) = sq2 X Y px py k := rfl
      have kM1 := fun W => cWMul (X k - px) (X k - px) W (by omega) (by omega) (by omega) (by omega)
      have kM2 := fun W => cWMul (Y k - py) (Y k - py) W (by omega) (by omega) (by omega) (by omega)
      have kA := fun W => nWAdd ((X k - px) * (X k - px)) ((Y k - py) * (Y k - py)) W (by omega) (by omega) (by omega) (by omega)
      rw [e1, cw_yes _ (by omega) (by omega), fw_yes _ (by omega) (by omega)] at kA
      have kC := fun W => nWCmp (sq2 X Y px py k) (bsd X Y px py k) W
      have wx1 : IntKind.i64.wrap (X k - px) = X k - px := by have := IntWalk.i64_in (X k - px) ⟨by omega, by omega⟩; exact this
      have wy1 : IntKind.i64.wrap (Y k - py) = Y k - py := by have := IntWalk.i64_in (Y k - py) ⟨by omega, by omega⟩; exact this
      clear e1
      generalize (X k - px) * (X k - px) = xx at *
      generalize (Y k - py) * (Y k - py) = yy at *
      generalize hdx : X k - px = dx at *
      generalize hdy : Y k - py = dy at *
      have HD := Lib.hid (And.intro hdx hdy)
      clear hdx hdy
      generalize X k = x at *
      generalize Y k = y at *
      generalize sq2 X Y px py k = D at *
      generalize bsd X Y px py k = E at *
      generalize bst X Y px py k = m at *
      have wx : IntKind.i64.wrap (x - px) = dx := by rw [HD.out.1]; exact wx1
      have wy : IntKind.i64.wrap (y - py) = dy := by rw [HD.out.2]; exact wy1
      clear wx1 wy1
      go_upto_region 7 with (fail)
      clear c0 c1
      generalize hW : World.alloc _ _ = W1
      have Z : Bk wr.heap.size 0 [.int .i64 x, .int .i64 y] W1 := by rw [← hW]; simp [Bk, go_sem]
      have P : Bk (w.heap.size) 0 [.int .i64 px, .int .i64 py] W1 := by rw [← hW]; exact Bk.alloc P _
      have Q : Bk wf.heap.size 0 [.int .i64 (hw E), .int .u64 (lw E)] W1 := by rw [← hW]; exact Bk.alloc Q _
      have HB : Below w.heap.size w W1 := by rw [← hW]; exact below_alloc HB _
      have hz1 := World.block_lt_of_cell? W1 _ (show W1.cell? ⟨wr.heap.size, 0, none⟩ = some (.int .i64 x) from Z.1)
      dsimp only at hz1
      clear hW C_P C_Q
      have C_P := P; simp only [Bk] at C_P
      have C_Q := Q; simp only [Bk] at C_Q
      have C_Z := Z; simp only [Bk] at C_Z
      (try refine wp_region_noPanic ?_)
      refine wp_region_held_drew (S := (fun (w' : World) => w'.cell? ⟨wr.heap.size, 0, none⟩ = some (.int .i64 x) ∧ w'.cell? ⟨wr.heap.size, 1, none⟩ = some (.int .i64 y) ∧ w'.cell? ⟨w.heap.size, 0, none⟩ = some (.int .i64 px) ∧ w'.cell? ⟨w.heap.size, 1, none⟩ = some (.int .i64 py))) (by kernel_rfl) ⟨(by first | (simp (maxDischargeDepth := 6) [go_sem, *]; done)), (by first | (simp (maxDischargeDepth := 6) [go_sem, *]; done)), (by first | (simp (maxDischargeDepth := 6) [go_sem, *]; done)), (by first | (simp (maxDischargeDepth := 6) [go_sem, *]; done))⟩ (fun hHeld => ?_)
      refine wpAnyH_take (i := 0) (v := ?_) (by simp only [List.getElem?_toArray, List.getElem?_cons_succ, List.getElem?_cons_zero]; rfl) (by kernel_rfl) (by kernel_rfl) (by kernel_rfl) (fun _ _ _ h => h) (Or.inl ⟨by rfl, ?_⟩) (by assumption) ?_
      rotate_left
      · intro w hSw; (try dsimp only at hSw); go_simp; try with_reducible rfl
      try simp only [Act.put, List.setIfInBounds_toArray, List.set_cons_zero, List.set_cons_succ]
      refine wpAnyH_take (i := 2) (v := ?_) (by simp only [List.getElem?_toArray, List.getElem?_cons_succ, List.getElem?_cons_zero]; rfl) (by kernel_rfl) (by kernel_rfl) (by kernel_rfl) (fun _ _ _ h => h) (Or.inl ⟨by rfl, ?_⟩) (by assumption) ?_
      rotate_left
      · intro w hSw; (try dsimp only at hSw); go_simp; try with_reducible rfl
      try simp only [Act.put, List.setIfInBounds_toArray, List.set_cons_zero, List.set_cons_succ]
      refine wpAnyH_take (i := 5) (v := ?_) (by simp only [List.getElem?_toArray, List.getElem?_cons_succ, List.getElem?_cons_zero]; rfl) (by kernel_rfl) (by kernel_rfl) (by kernel_rfl) (fun _ _ _ h => h) (Or.inl ⟨by rfl, ?_⟩) (by assumption) ?_
      rotate_left
      · intro w hSw; (try dsimp only at hSw); go_simp; try with_reducible rfl
      try simp only [Act.put, List.setIfInBounds_toArray, List.set_cons_zero, List.set_cons_succ]
      refine wpAnyH_take (i := 7) (v := ?_) (by simp only [List.getElem?_toArray, List.getElem?_cons_succ, List.getElem?_cons_zero]; rfl) (by kernel_rfl) (by kernel_rfl) (by kernel_rfl) (fun _ _ _ h => h) (Or.inl ⟨by rfl, ?_⟩) (by assumption) ?_
      rotate_left
      · intro w hSw; (try dsimp only at hSw); go_simp; try with_reducible rfl
      try simp only [Act.put, List.setIfInBounds_toArray, List.set_cons_zero, List.set_cons_succ]
      refine wpAnyH_take (i := 1) (v := ?_) (by simp only [List.getElem?_toArray, List.getElem?_cons_succ, List.getElem?_cons_zero]; rfl) (by kernel_rfl) (by kernel_rfl) (by kernel_rfl) (fun _ _ _ h => h) (Or.inl ⟨by rfl, ?_⟩) (by assumption) ?_
      rotate_left
      · intro w hSw; (try dsimp only at hSw); go_simp; try with_reducible rfl
      try simp only [Act.put, List.setIfInBounds_toArray, List.set_cons_zero, List.set_cons_succ]
      refine wpAnyH_take (i := 3) (v := ?_) (by simp only [List.getElem?_toArray, List.getElem?_cons_succ, List.getElem?_cons_zero]; rfl) (by kernel_rfl) (by kernel_rfl) (by kernel_rfl) (fun _ _ _ h => h) (Or.inl ⟨by rfl, ?_⟩) (by assumption) ?_
      rotate_left
      · intro w hSw; (try dsimp only at hSw); go_simp; try with_reducible rfl
      try simp only [Act.put, List.setIfInBounds_toArray, List.set_cons_zero, List.set_cons_succ]
      refine wpAnyH_take (i := 4) (v := ?_) (by simp only [List.getElem?_toArray, List.getElem?_cons_succ, List.getElem?_cons_zero]; rfl) (by kernel_rfl) (by kernel_rfl) (by kernel_rfl) (fun _ _ _ h => h) (Or.inl ⟨by rfl, ?_⟩) (by assumption) ?_
      rotate_left
      · intro w hSw; (try dsimp only at hSw); go_simp; try with_reducible rfl
      try simp only [Act.put, List.setIfInBounds_toArray, List.set_cons_zero, List.set_cons_succ]
      refine wpAnyH_take (i := 10) (v := ?_) (by simp only [List.getElem?_toArray, List.getElem?_cons_succ, List.getElem?_cons_zero]; rfl) (by kernel_rfl) (by kernel_rfl) (by kernel_rfl) (fun _ _ _ h => h) (Or.inl ⟨by rfl, ?_⟩) (by assumption) ?_
      rotate_left
      · intro w hSw; (try dsimp only at hSw); go_simp; try with_reducible rfl
      try simp only [Act.put, List.setIfInBounds_toArray, List.set_cons_zero, List.set_cons_succ]
      refine wpAnyH_take (i := 6) (v := ?_) (by simp only [List.getElem?_toArray, List.getElem?_cons_succ, List.getElem?_cons_zero]; rfl) (by kernel_rfl) (by kernel_rfl) (by kernel_rfl) (fun _ _ _ h => h) (Or.inl ⟨by rfl, ?_⟩) (by assumption) ?_
      rotate_left
      · intro w hSw; (try dsimp only at hSw); go_simp; try with_reducible rfl
      try simp only [Act.put, List.setIfInBounds_toArray, List.set_cons_zero, List.set_cons_succ]
      refine wpAnyH_take (i := 8) (v := ?_) (by simp only [List.getElem?_toArray, List.getElem?_cons_succ, List.getElem?_cons_zero]; rfl) (by kernel_rfl) (by kernel_rfl) (by kernel_rfl) (fun _ _ _ h => h) (Or.inl ⟨by rfl, ?_⟩) (by assumption) ?_
      rotate_left
      · intro w hSw; (try dsimp only at hSw); go_simp; try with_reducible rfl
      try simp only [Act.put, List.setIfInBounds_toArray, List.set_cons_zero, List.set_cons_succ]
      refine wpAnyH_take (i := 9) (v := ?_) (by simp only [List.getElem?_toArray, List.getElem?_cons_succ, List.getElem?_cons_zero]; rfl) (by kernel_rfl) (by kernel_rfl) (by kernel_rfl) (fun _ _ _ h => h) (Or.inl ⟨by rfl, ?_⟩) (by assumption) ?_
      rotate_left
      · intro w hSw; (try dsimp only at hSw); go_simp; try with_reducible rfl
      try simp only [Act.put, List.setIfInBounds_toArray, List.set_cons_zero, List.set_cons_succ]
      refine wpAnyH_take (i := 11) (v := ?_) (by simp only [List.getElem?_toArray, List.getElem?_cons_succ, List.getElem?_cons_zero]; rfl) (by kernel_rfl) (by kernel_rfl) (by kernel_rfl) (fun _ _ _ h => h) (Or.inl ⟨by rfl, ?_⟩) (by assumption) ?_
      rotate_left
      · intro w hSw; (try dsimp only at hSw); go_simp; try with_reducible rfl
      try simp only [Act.put, List.setIfInBounds_toArray, List.set_cons_zero, List.set_cons_succ]
      refine wpAnyH_done (by kernel_rfl) ?_ _
      (try refine NoPanic.normal ?_)
      (try clear q0); (try clear q1); (try clear q2); (try clear q3); obtain ⟨q0, q1, q2, q3⟩ := hHeld
      clear wx wy C_Z C_P C_Q q0 q1 q2 q3
      have HB : Below w.heap.size w W1.drew := Below.drew HB
      have P := Bk.drew P
      have Q := Bk.drew Q
      go_wp2_with (fail)
      (go_at_call 43; (with_reducible refine (kM1 _).mono ?_); rintro e9 w1 ⟨rfl, hM⟩; (first | have HB : Below w.heap.size w _ := below_step HB hM | have HB : Below w.heap.size w _ := below_step (W := _) (by (repeat (first | with_reducible assumption | with_reducible exact Below.refl _ _ | ((with_reducible refine Below.setCell ?_ ?_ _); rotate_left; (first | exact Nat.le_refl _ | (dsimp only; omega) | (simp; done) | (simp; omega))) | with_reducible refine below_alloc ?_ _ | with_reducible apply below_drewN | with_reducible apply Below.drew | with_reducible refine below_step ?_ (by assumption)))) hM); (first | have P := Bk.later P hM | have P := Bk.later (Bk.alloc P _) hM | have P := Bk.later (Bk.alloc (Bk.alloc P _) _) hM); have C_P := P; simp only [Bk] at C_P; (first | have Q := Bk.later Q hM | have Q := Bk.later (Bk.alloc Q _) hM | have Q := Bk.later (Bk.alloc (Bk.alloc Q _) _) hM); have C_Q := Q; simp only [Bk] at C_Q)
      clear hM kM1
      go_wp2_with (fail)
      (go_at_call 43; (with_reducible refine (kM2 _).mono ?_); rintro e9 w1 ⟨rfl, hM⟩; (first | have HB : Below w.heap.size w _ := below_step HB hM | have HB : Below w.heap.size w _ := below_step (W := _) (by (repeat (first | with_reducible assumption | with_reducible exact Below.refl _ _ | ((with_reducible refine Below.setCell ?_ ?_ _); rotate_left; (first | exact Nat.le_refl _ | (dsimp only; omega) | (simp; done) | (simp; omega))) | with_reducible refine below_alloc ?_ _ | with_reducible apply below_drewN | with_reducible apply Below.drew | with_reducible refine below_step ?_ (by assumption)))) hM); (first | have P := Bk.later P hM | have P := Bk.later (Bk.alloc P _) hM | have P := Bk.later (Bk.alloc (Bk.alloc P _) _) hM); have C_P := P; simp only [Bk] at C_P; (first | have Q := Bk.later Q hM | have Q := Bk.later (Bk.alloc Q _) hM | have Q := Bk.later (Bk.alloc (Bk.alloc Q _) _) hM); have C_Q := Q; simp only [Bk] at C_Q)
      clear hM kM2
      go_wp2_with (fail)
      (go_at_call 42; (with_reducible refine (kA _).mono ?_); rintro e9 w1 ⟨rfl, hM⟩; (first | have HB : Below w.heap.size w _ := below_step HB hM | have HB : Below w.heap.size w _ := below_step (W := _) (by (repeat (first | with_reducible assumption | with_reducible exact Below.refl _ _ | ((with_reducible refine Below.setCell ?_ ?_ _); rotate_left; (first | exact Nat.le_refl _ | (dsimp only; omega) | (simp; done) | (simp; omega))) | with_reducible refine below_alloc ?_ _ | with_reducible apply below_drewN | with_reducible apply Below.drew | with_reducible refine below_step ?_ (by assumption)))) hM); (first | have P := Bk.later P hM | have P := Bk.later (Bk.alloc P _) hM | have P := Bk.later (Bk.alloc (Bk.alloc P _) _) hM); have C_P := P; simp only [Bk] at C_P; (first | have Q := Bk.later Q hM | have Q := Bk.later (Bk.alloc Q _) hM | have Q := Bk.later (Bk.alloc (Bk.alloc Q _) _) hM); have C_Q := Q; simp only [Bk] at C_Q)
      clear hM kA
      rename World => wg
      have hzg := World.block_lt_of_cell? wg _ C_Q.1
      dsimp only at hzg
      have HW2 : Hid (Below w.heap.size w (wg.alloc (Obj.cells #[.int .i64 (hw D), .int .u64 (lw D)] 50)) ∧ Bk (w.heap.size) 0 [.int .i64 px, .int .i64 py] (wg.alloc (Obj.cells #[.int .i64 (hw D), .int .u64 (lw D)] 50)) ∧ Bk wf.heap.size 0 [.int .i64 (hw E), .int .u64 (lw E)] (wg.alloc (Obj.cells #[.int .i64 (hw D), .int .u64 (lw D)] 50)) ∧ Bk wg.heap.size 0 [.int .i64 (hw D), .int .u64 (lw D)] (wg.alloc (Obj.cells #[.int .i64 (hw D), .int .u64 (lw D)] 50))) := Lib.hid ⟨below_alloc HB _, Bk.alloc P _, Bk.alloc Q _, by simp [Bk, go_sem]⟩
      go_upto_region 9 with (fail)
      generalize hW : World.alloc _ _ = W2 at HW2 ⊢
      clear hW
      obtain ⟨HB, P, Q, R⟩ := HW2.out
      clear C_P C_Q
      have C_P := P; simp only [Bk] at C_P
      have C_Q := Q; simp only [Bk] at C_Q
      have C_R := R; simp only [Bk] at C_R
      have hz2 := World.block_lt_of_cell? W2 _ C_R.1
      dsimp only at hz2
      clear HW2
      rcases (show m < 0 ∨ (0 ≤ m ∧ D < E) ∨ (0 ≤ m ∧ E ≤ D) by omega) with hm | ⟨hm, hde⟩ | ⟨hm, hde⟩
      · have hcase : m < 0 ∨ D < E := Or.inl hm
        have HC := Lib.hid hcase
        clear hcase kC
        go_upto_region 10 with (fail)
        clear C_P
        (try refine wp_region_noPanic ?_)
        refine wp_region_held_drew (S := (fun (w' : World) => w'.cell? ⟨wg.heap.size, 0, none⟩ = some (.int .i64 (hw D)) ∧ w'.cell? ⟨wg.heap.size, 1, none⟩ = some (.int .u64 (lw D)))) (by kernel_rfl) ⟨(by first | (simp (maxDischargeDepth := 6) [go_sem, *]; done)), (by first | (simp (maxDischargeDepth := 6) [go_sem, *]; done))⟩ (fun hHeld => ?_)
        refine wpAnyH_take (i := 0) (v := ?_) (by simp only [List.getElem?_toArray, List.getElem?_cons_succ, List.getElem?_cons_zero]; rfl) (by kernel_rfl) (by kernel_rfl) (by kernel_rfl) (fun _ _ _ h => h) (Or.inl ⟨by rfl, ?_⟩) (by assumption) ?_
        rotate_left
        · intro w hSw; (try dsimp only at hSw); go_simp; try with_reducible rfl
        try simp only [Act.put, List.setIfInBounds_toArray, List.set_cons_zero, List.set_cons_succ]
        refine wpAnyH_take (i := 2) (v := ?_) (by simp only [List.getElem?_toArray, List.getElem?_cons_succ, List.getElem?_cons_zero]; rfl) (by kernel_rfl) (by kernel_rfl) (by kernel_rfl) (fun _ _ _ h => h) (Or.inl ⟨by rfl, ?_⟩) (by assumption) ?_
        rotate_left
        · intro w hSw; (try dsimp only at hSw); go_simp; try with_reducible rfl
        try simp only [Act.put, List.setIfInBounds_toArray, List.set_cons_zero, List.set_cons_succ]
        refine wpAnyH_take (i := 1) (v := ?_) (by simp only [List.getElem?_toArray, List.getElem?_cons_succ, List.getElem?_cons_zero]; rfl) (by kernel_rfl) (by kernel_rfl) (by kernel_rfl) (fun _ _ _ h => h) (Or.inl ⟨by rfl, ?_⟩) (by assumption) ?_
        rotate_left
        · intro w hSw; (try dsimp only at hSw); go_simp; try with_reducible rfl
        try simp only [Act.put, List.setIfInBounds_toArray, List.set_cons_zero, List.set_cons_succ]
        refine wpAnyH_ready (rs := [3]) (by kernel_rfl) (by simp) ?_
        refine AllReadyH.cons rfl (fun K hK => ?_) AllReadyH.nil
        have hOld := hHeld; clear hHeld
        go_simp
        (try go_wp2_with (fail))
        refine hK.out _ _ ⟨(by first | exact mv_cell hM (by first | (dsimp only; omega) | (simp; omega)) hOld.1 | exact cell_later hM hOld.1 | exact HT.cb | exact HT.cc | (simp (maxDischargeDepth := 6) [go_sem, *]; done)), (by first | exact mv_cell hM (by first | (dsimp only; omega) | (simp; omega)) hOld.2 | exact cell_later hM hOld.2 | exact HT.cb | exact HT.cc | (simp (maxDischargeDepth := 6) [go_sem, *]; done))⟩ (fun hHeld => ?_)
        clear hK K hOld
        try simp only [Act.put, List.setIfInBounds_toArray, List.set_cons_zero, List.set_cons_succ]
        refine wpAnyH_done (by kernel_rfl) ?_ _
        (try refine NoPanic.normal ?_)
        (try clear q0); (try clear q1); obtain ⟨q0, q1⟩ := hHeld
        go_wp2_with (fail)
        refine ⟨⟨k + 1, ?_, by omega, by rw [EQ.out, if_pos HC.out], by (repeat (first | with_reducible assumption | with_reducible exact Below.refl _ _ | ((with_reducible refine Below.setCell ?_ ?_ _); rotate_left; (first | exact Nat.le_refl _ | (dsimp only; omega) | (simp; done) | (simp; omega))) | with_reducible refine below_alloc ?_ _ | with_reducible apply below_drewN | with_reducible apply Below.drew | with_reducible refine below_step ?_ (by assumption))), by (repeat (first | with_reducible assumption | with_reducible apply Bk.drew | with_reducible apply Bk.alloc | with_reducible apply Bk.later (hB := hR) | with_reducible apply Bk.later (hB := hM) | ((with_reducible apply Bk.mv hM); (focus omega)) | ((with_reducible apply Bk.later); rotate_left; (with_reducible assumption)) | ((with_reducible apply Bk.put); rotate_left; (first | (dsimp only; omega))))), ?_⟩, by simp [RowKit.intOf]; omega⟩
        · go_num
        · rw [ED.out, if_pos HC.out]; simp [Bk, go_sem, *]
      · have hcase : m < 0 ∨ D < E := Or.inr hde
        have HC := Lib.hid hcase
        have hc3 : cmp3 D E < 0 := by unfold cmp3; rw [if_pos hde]; decide
        generalize cmp3 D E = c3 at *
        clear hcase
        go_wp2_with (fail)
        (go_at_call 22; (with_reducible refine (kC _).mono ?_); rintro e9 w1 ⟨rfl, hM⟩; (first | have HB : Below w.heap.size w _ := below_step HB hM | have HB : Below w.heap.size w _ := below_step (W := _) (by (repeat (first | with_reducible assumption | with_reducible exact Below.refl _ _ | ((with_reducible refine Below.setCell ?_ ?_ _); rotate_left; (first | exact Nat.le_refl _ | (dsimp only; omega) | (simp; done) | (simp; omega))) | with_reducible refine below_alloc ?_ _ | with_reducible apply below_drewN | with_reducible apply Below.drew | with_reducible refine below_step ?_ (by assumption)))) hM); (first | have P := Bk.later P hM | have P := Bk.later (Bk.alloc P _) hM | have P := Bk.later (Bk.alloc (Bk.alloc P _) _) hM); have C_P := P; simp only [Bk] at C_P; (first | have Q := Bk.later Q hM | have Q := Bk.later (Bk.alloc Q _) hM | have Q := Bk.later (Bk.alloc (Bk.alloc Q _) _) hM); have C_Q := Q; simp only [Bk] at C_Q; (first | have R := Bk.later R hM | have R := Bk.later (Bk.alloc R _) hM | have R := Bk.later (Bk.alloc (Bk.alloc R _) _) hM); have C_R := R; simp only [Bk] at C_R)
        clear hM kC
        rename World => W3
        have hz3 := World.block_lt_of_cell? W3 _ C_R.1
        dsimp only at hz3
        go_upto_region 10 with (fail)
        clear C_P
        (try refine wp_region_noPanic ?_)
        refine wp_region_held_drew (S := (fun (w' : World) => w'.cell? ⟨wg.heap.size, 0, none⟩ = some (.int .i64 (hw D)) ∧ w'.cell? ⟨wg.heap.size, 1, none⟩ = some (.int .u64 (lw D)))) (by kernel_rfl) ⟨(by first | (simp (maxDischargeDepth := 6) [go_sem, *]; done)), (by first | (simp (maxDischargeDepth := 6) [go_sem, *]; done))⟩ (fun hHeld => ?_)
        refine wpAnyH_take (i := 0) (v := ?_) (by simp only [List.getElem?_toArray, List.getElem?_cons_succ, List.getElem?_cons_zero]; rfl) (by kernel_rfl) (by kernel_rfl) (by kernel_rfl) (fun _ _ _ h => h) (Or.inl ⟨by rfl, ?_⟩) (by assumption) ?_
        rotate_left
        · intro w hSw; (try dsimp only at hSw); go_simp; try with_reducible rfl
        try simp only [Act.put, List.setIfInBounds_toArray, List.set_cons_zero, List.set_cons_succ]
        refine wpAnyH_take (i := 2) (v := ?_) (by simp only [List.getElem?_toArray, List.getElem?_cons_succ, List.getElem?_cons_zero]; rfl) (by kernel_rfl) (by kernel_rfl) (by kernel_rfl) (fun _ _ _ h => h) (Or.inl ⟨by rfl, ?_⟩) (by assumption) ?_
        rotate_left
        · intro w hSw; (try dsimp only at hSw); go_simp; try with_reducible rfl
        try simp only [Act.put, List.setIfInBounds_toArray, List.set_cons_zero, List.set_cons_succ]
        refine wpAnyH_take (i := 1) (v := ?_) (by simp only [List.getElem?_toArray, List.getElem?_cons_succ, List.getElem?_cons_zero]; rfl) (by kernel_rfl) (by kernel_rfl) (by kernel_rfl) (fun _ _ _ h => h) (Or.inl ⟨by rfl, ?_⟩) (by assumption) ?_
        rotate_left
        · intro w hSw; (try dsimp only at hSw); go_simp; try with_reducible rfl
        try simp only [Act.put, List.setIfInBounds_toArray, List.set_cons_zero, List.set_cons_succ]
        refine wpAnyH_ready (rs := [3]) (by kernel_rfl) (by simp) ?_
        refine AllReadyH.cons rfl (fun K hK => ?_) AllReadyH.nil
        have hOld := hHeld; clear hHeld
        go_simp
        (try go_wp2_with (fail))
        refine hK.out _ _ ⟨(by first | exact mv_cell hM (by first | (dsimp only; omega) | (simp; omega)) hOld.1 | exact cell_later hM hOld.1 | exact HT.cb | exact HT.cc | (simp (maxDischargeDepth := 6) [go_sem, *]; done)), (by first | exact mv_cell hM (by first | (dsimp only; omega) | (simp; omega)) hOld.2 | exact cell_later hM hOld.2 | exact HT.cb | exact HT.cc | (simp (maxDischargeDepth := 6) [go_sem, *]; done))⟩ (fun hHeld => ?_)
        clear hK K hOld
        try simp only [Act.put, List.setIfInBounds_toArray, List.set_cons_zero, List.set_cons_succ]
        refine wpAnyH_done (by kernel_rfl) ?_ _
        (try refine NoPanic.normal ?_)
        (try clear q0); (try clear q1); obtain ⟨q0, q1⟩ := hHeld
        go_wp2_with (fail)
        refine ⟨⟨k + 1, ?_, by omega, by rw [EQ.out, if_pos HC.out], by (repeat (first | with_reducible assumption | with_reducible exact Below.refl _ _ | ((with_reducible refine Below.setCell ?_ ?_ _); rotate_left; (first | exact Nat.le_refl _ | (dsimp only; omega) | (simp; done) | (simp; omega))) | with_reducible refine below_alloc ?_ _ | with_reducible apply below_drewN | with_reducible apply Below.drew | with_reducible refine below_step ?_ (by assumption))), by (repeat (first | with_reducible assumption | with_reducible apply Bk.drew | with_reducible apply Bk.alloc | with_reducible apply Bk.later (hB := hR) | with_reducible apply Bk.later (hB := hM) | ((with_reducible apply Bk.mv hM); (focus omega)) | ((with_reducible apply Bk.later); rotate_left; (with_reducible assumption)) | ((with_reducible apply Bk.put); rotate_left; (first | (dsimp only; omega))))), ?_⟩, by simp [RowKit.intOf]; omega⟩
        · go_num
        · rw [ED.out, if_pos HC.out]; simp [Bk, go_sem, *]
      · have hcase : ¬ (m < 0 ∨ D < E) := by omega
        have HC := Lib.hid hcase
        have hc3 : ¬ cmp3 D E < 0 := by unfold cmp3; rw [if_neg (by omega)]; split <;> decide
        generalize cmp3 D E = c3 at *
        clear hcase
        go_wp2_with (fail)
        (go_at_call 22; (with_reducible refine (kC _).mono ?_); rintro e9 w1 ⟨rfl, hM⟩; (first | have HB : Below w.heap.size w _ := below_step HB hM | have HB : Below w.heap.size w _ := below_step (W := _) (by (repeat (first | with_reducible assumption | with_reducible exact Below.refl _ _ | ((with_reducible refine Below.setCell ?_ ?_ _); rotate_left; (first | exact Nat.le_refl _ | (dsimp only; omega) | (simp; done) | (simp; omega))) | with_reducible refine below_alloc ?_ _ | with_reducible apply below_drewN | with_reducible apply Below.drew | with_reducible refine below_step ?_ (by assumption)))) hM); (first | have P := Bk.later P hM | have P := Bk.later (Bk.alloc P _) hM | have P := Bk.later (Bk.alloc (Bk.alloc P _) _) hM); have C_P := P; simp only [Bk] at C_P; (first | have Q := Bk.later Q hM | have Q := Bk.later (Bk.alloc Q _) hM | have Q := Bk.later (Bk.alloc (Bk.alloc Q _) _) hM); have C_Q := Q; simp only [Bk] at C_Q; (first | have R := Bk.later R hM | have R := Bk.later (Bk.alloc R _) hM | have R := Bk.later (Bk.alloc (Bk.alloc R _) _) hM); have C_R := R; simp only [Bk] at C_R)
        clear hM kC
        go_wp2_with (fail)
        exact ⟨⟨k + 1, by go_num, by omega, by rw [EQ.out, if_neg HC.out], by (repeat (first | with_reducible assumption | with_reducible exact Below.refl _ _ | ((with_reducible refine Below.setCell ?_ ?_ _); rotate_left; (first | exact Nat.le_refl _ | (dsimp only; omega) | (simp; done) | (simp; omega))) | with_reducible refine below_alloc ?_ _ | with_reducible apply below_drewN | with_reducible apply Below.drew | with_reducible refine below_step ?_ (by assumption))), by (repeat (first | with_reducible assumption | with_reducible apply Bk.drew | with_reducible apply Bk.alloc | with_reducible apply Bk.later (hB := hR) | with_reducible apply Bk.later (hB := hM) | ((with_reducible apply Bk.mv hM); (focus omega)) | ((with_reducible apply Bk.later); rotate_left; (with_reducible assumption)) | ((with_reducible apply Bk.put); rotate_left; (first | (dsimp only; omega))))), by rw [ED.out, if_neg HC.out]; (repeat (first | with_reducible assumption | with_reducible apply Bk.drew | with_reducible apply Bk.alloc | with_reducible apply Bk.later (hB := hR) | with_reducible apply Bk.later (hB := hM) | ((with_reducible apply Bk.mv hM); (focus omega)) | ((with_reducible apply Bk.later); rotate_left; (with_reducible assumption)) | ((with_reducible apply Bk.put); rotate_left; (first | (dsimp only; omega)))))⟩, by simp [RowKit.intOf]; omega⟩
    · obtain rfl : k = n := by omega
      go_wp2
      go_ret
      exact ⟨rfl, HB⟩
end Go.Proofs.Ythieinnlpfdemaa
