/- The nearest sample: the document's. -/
import Derived.Test.YthieinnlpfdemaaS9
import Derived.Test.YthieinnlpfdemaaB5
import Derived.Test.YthieinnlpfdemaaB7
set_option linter.unusedSimpArgs false
set_option linter.unusedVariables false
namespace Go.Proofs.Ythieinnlpfdemaa
open Go.RowKit
theorem one_pt (W : World) (t : TypeId) (x y : Int) : Pt ⟨W.heap.size, 0, none⟩ 1 (fun _ => x) (fun _ => y) (W.alloc (.cells #[.int .i64 x, .int .i64 y] t)) := by
  intro j hj
  obtain rfl : j = 0 := by omega
  refine ⟨?_, ?_⟩
  · show (W.alloc _).cell? (Addr.add ⟨W.heap.size, 0, none⟩ 0) = _
    rw [show Addr.add ⟨W.heap.size, 0, none⟩ 0 = ⟨W.heap.size, 0, none⟩ from rfl]; simp [go_sem]
  · show (W.alloc _).cell? ⟨(Addr.add ⟨W.heap.size, 0, none⟩ 0).block, (Addr.add ⟨W.heap.size, 0, none⟩ 0).off + 1, none⟩ = _
    rw [show Addr.add ⟨W.heap.size, 0, none⟩ 0 = ⟨W.heap.size, 0, none⟩ from rfl]; simp [go_sem]
theorem one_nrs (x y : Int) : nrs (fun _ => x) (fun _ => y) 1 = pn x y := by simp [nrs]
theorem c7Near0 (w : World) : Calls Try.prog 27 #[.slice none 0 0] w fun e w' => e = .returned (.bool true) ∧ Below w.heap.size w w' := by
  go_enter Try.func27, Try.ntmps27
  go_wp2
  refine wp_loop_rounds 1 ?_
  rw [rounds_succ]
  go_wp2
  go_ret
  exact ⟨rfl, by (repeat (first | with_reducible assumption | with_reducible exact Below.refl _ _ | ((with_reducible refine Below.setCell ?_ ?_ _); rotate_left; (first | exact Nat.le_refl _ | (dsimp only; omega) | (simp; done) | (simp; omega))) | with_reducible refine below_alloc ?_ _ | with_reducible apply below_drewN | with_reducible apply Below.drew | with_reducible refine below_step ?_ (by assumption)))⟩
theorem rNearF (a : Addr) (n c : Nat) (X Y : Nat → Int) (px py : Int) (w : World) (hn : n ≤ 9223372036854775807) (hN : nrs X Y n = false) (hP : Pt a n X Y w) : Calls Try.prog 21 #[.slice (some a) n c, .agg #[.int .i64 px, .int .i64 py]] w fun e w' => e = .returned (.int .i64 (-1)) ∧ Below w.heap.size w w' := by
  have k1 : ∀ W, Below w.heap.size w W → Calls Try.prog 27 #[.slice (some a) n c] W fun e w' => e = .returned (.bool false) ∧ Below W.heap.size W w' := fun W hB => by
    have h := c7NearP a n c X Y W hn (hP.later hB)
    rw [hN] at h; exact h
  clear hN hP
  have HB0 : Below w.heap.size w (w.alloc (Obj.cells #[.int .i64 px, .int .i64 py] 32)) := by (repeat (first | with_reducible assumption | with_reducible exact Below.refl _ _ | ((with_reducible refine Below.setCell ?_ ?_ _); rotate_left; (first | exact Nat.le_refl _ | (dsimp only; omega) | (simp; done) | (simp; omega))) | with_reducible refine below_alloc ?_ _ | with_reducible apply below_drewN | with_reducible apply Below.drew | with_reducible refine below_step ?_ (by assumption)))
  go_enter Try.func21, Try.ntmps21
  go_wp2_with ((go_at_call 27; (with_reducible refine (k1 _ HB0).mono ?_); rintro e w1 ⟨rfl, hM⟩))
  go_ret
  exact ⟨rfl, by (repeat (first | with_reducible assumption | with_reducible exact Below.refl _ _ | ((with_reducible refine Below.setCell ?_ ?_ _); rotate_left; (first | exact Nat.le_refl _ | (dsimp only; omega) | (simp; done) | (simp; omega))) | with_reducible refine below_alloc ?_ _ | with_reducible apply below_drewN | with_reducible apply Below.drew | with_reducible refine below_step ?_ (by assumption)))⟩
theorem rNearP (a : Addr) (n c : Nat) (X Y : Nat → Int) (px py : Int) (w : World) (hn : n ≤ 9223372036854775807) (hp : pn px py = false) (hN : nrs X Y n = true) (hP : Pt a n X Y w) : Calls Try.prog 21 #[.slice (some a) n c, .agg #[.int .i64 px, .int .i64 py]] w fun e w' => e = .returned (.int .i64 (-1)) ∧ Below w.heap.size w w' := by
  have k1 : ∀ W, Below w.heap.size w W → Calls Try.prog 27 #[.slice (some a) n c] W fun e w' => e = .returned (.bool true) ∧ Below W.heap.size W w' := fun W hB => by
    have h := c7NearP a n c X Y W hn (hP.later hB)
    rw [hN] at h; exact h
  have k2 : ∀ W : World, Calls Try.prog 27 #[.slice (some ⟨W.heap.size, 0, none⟩) 1 1] (W.alloc (.cells #[.int .i64 px, .int .i64 py] 32)) fun e w' => e = .returned (.bool false) ∧ Below (W.alloc (.cells #[.int .i64 px, .int .i64 py] 32)).heap.size (W.alloc (.cells #[.int .i64 px, .int .i64 py] 32)) w' := fun W => by
    have h := c7NearP ⟨W.heap.size, 0, none⟩ 1 1 (fun _ => px) (fun _ => py) _ (by decide) (one_pt W 32 px py)
    rw [one_nrs, hp] at h; exact h
  clear hN hP hp
  have HB0 : Below w.heap.size w (w.alloc (Obj.cells #[.int .i64 px, .int .i64 py] 32)) := by (repeat (first | with_reducible assumption | with_reducible exact Below.refl _ _ | ((with_reducible refine Below.setCell ?_ ?_ _); rotate_left; (first | exact Nat.le_refl _ | (dsimp only; omega) | (simp; done) | (simp; omega))) | with_reducible refine below_alloc ?_ _ | with_reducible apply below_drewN | with_reducible apply Below.drew | with_reducible refine below_step ?_ (by assumption)))
  go_enter Try.func21, Try.ntmps21
  go_wp2_with (fail)
  (go_at_call 27; (with_reducible refine (k1 _ HB0).mono ?_); rintro e w1 ⟨rfl, hM⟩)
  have P : Bk (w.heap.size) 0 [.int .i64 px, .int .i64 py] w1 := Bk.later (by simp [Bk, go_sem]; done) hM
  have HB : Below w.heap.size w w1 := below_step (W := _) (by (repeat (first | with_reducible assumption | with_reducible exact Below.refl _ _ | ((with_reducible refine Below.setCell ?_ ?_ _); rotate_left; (first | exact Nat.le_refl _ | (dsimp only; omega) | (simp; done) | (simp; omega))) | with_reducible refine below_alloc ?_ _ | with_reducible apply below_drewN | with_reducible apply Below.drew | with_reducible refine below_step ?_ (by assumption)))) hM
  have C_P := P; simp only [Bk] at C_P
  clear hM k1 HB0
  go_wp2_with ((go_at_call 27; (with_reducible refine (k2 _).mono ?_); rintro e w1 ⟨rfl, hM⟩))
  go_ret
  exact ⟨rfl, by (repeat (first | with_reducible assumption | with_reducible exact Below.refl _ _ | ((with_reducible refine Below.setCell ?_ ?_ _); rotate_left; (first | exact Nat.le_refl _ | (dsimp only; omega) | (simp; done) | (simp; omega))) | with_reducible refine below_alloc ?_ _ | with_reducible apply below_drewN | with_reducible apply Below.drew | with_reducible refine below_step ?_ (by assumption)))⟩
theorem rNearQ (px py : Int) (w : World) : Calls Try.prog 21 #[.slice none 0 0, .agg #[.int .i64 px, .int .i64 py]] w fun e w' => e = .returned (.int .i64 (-1)) ∧ Below w.heap.size w w' := by
  have k1 := fun W => c7Near0 W
  have k2 : ∀ W : World, Calls Try.prog 27 #[.slice (some ⟨W.heap.size, 0, none⟩) 1 1] (W.alloc (.cells #[.int .i64 px, .int .i64 py] 32)) fun e w' => e = .returned (.bool (pn px py)) ∧ Below (W.alloc (.cells #[.int .i64 px, .int .i64 py] 32)).heap.size (W.alloc (.cells #[.int .i64 px, .int .i64 py] 32)) w' := fun W => by
    have h := c7NearP ⟨W.heap.size, 0, none⟩ 1 1 (fun _ => px) (fun _ => py) _ (by decide) (one_pt W 32 px py)
    rw [one_nrs] at h; exact h
  generalize pn px py = g at *
  go_enter Try.func21, Try.ntmps21
  go_wp2_with (fail)
  (go_at_call 27; (with_reducible refine (k1 _).mono ?_); rintro e w1 ⟨rfl, hM⟩)
  have P : Bk (w.heap.size) 0 [.int .i64 px, .int .i64 py] w1 := Bk.later (by simp [Bk, go_sem]; done) hM
  have HB : Below w.heap.size w w1 := below_step (W := _) (by (repeat (first | with_reducible assumption | with_reducible exact Below.refl _ _ | ((with_reducible refine Below.setCell ?_ ?_ _); rotate_left; (first | exact Nat.le_refl _ | (dsimp only; omega) | (simp; done) | (simp; omega))) | with_reducible refine below_alloc ?_ _ | with_reducible apply below_drewN | with_reducible apply Below.drew | with_reducible refine below_step ?_ (by assumption)))) hM
  have C_P := P; simp only [Bk] at C_P
  clear hM k1
  cases g with
  | false =>
    go_wp2_with ((go_at_call 27; (with_reducible refine (k2 _).mono ?_); rintro e w1 ⟨rfl, hM⟩))
    go_ret
    exact ⟨rfl, by (repeat (first | with_reducible assumption | with_reducible exact Below.refl _ _ | ((with_reducible refine Below.setCell ?_ ?_ _); rotate_left; (first | exact Nat.le_refl _ | (dsimp only; omega) | (simp; done) | (simp; omega))) | with_reducible refine below_alloc ?_ _ | with_reducible apply below_drewN | with_reducible apply Below.drew | with_reducible refine below_step ?_ (by assumption)))⟩
  | true =>
    go_wp2_with ((go_at_call 27; (with_reducible refine (k2 _).mono ?_); rintro e w1 ⟨rfl, hM⟩))
    refine wp_loop_rounds 1 ?_
    rw [rounds_succ]
    go_wp2
    go_ret
    exact ⟨rfl, by (repeat (first | with_reducible assumption | with_reducible exact Below.refl _ _ | ((with_reducible refine Below.setCell ?_ ?_ _); rotate_left; (first | exact Nat.le_refl _ | (dsimp only; omega) | (simp; done) | (simp; omega))) | with_reducible refine below_alloc ?_ _ | with_reducible apply below_drewN | with_reducible apply Below.drew | with_reducible refine below_step ?_ (by assumption)))⟩
set_option maxHeartbeats 8000000 in
set_option maxRecDepth 20000 in
theorem rNearY (a : Addr) (n c : Nat) (X Y : Nat → Int) (px py : Int) (w : World) (hn : n ≤ 9223372036854775806) (hp : pn px py = true) (hN : nrs X Y n = true) (hP : Pt a n X Y w) : Calls Try.prog 21 #[.slice (some a) n c, .agg #[.int .i64 px, .int .i64 py]] w fun e w' => e = .returned (.int .i64 (bst X Y px py n)) ∧ Below w.heap.size w w' := by
  have k1 : ∀ W, Below w.heap.size w W → Calls Try.prog 27 #[.slice (some a) n c] W fun e w' => e = .returned (.bool true) ∧ Below W.heap.size W w' := fun W hB => by
    have h := c7NearP a n c X Y W (by omega) (hP.later hB)
    rw [hN] at h; exact h
  have k2 : ∀ W : World, Calls Try.prog 27 #[.slice (some ⟨W.heap.size, 0, none⟩) 1 1] (W.alloc (.cells #[.int .i64 px, .int .i64 py] 32)) fun e w' => e = .returned (.bool true) ∧ Below (W.alloc (.cells #[.int .i64 px, .int .i64 py] 32)).heap.size (W.alloc (.cells #[.int .i64 px, .int .i64 py] 32)) w' := fun W => by
    have h := c7NearP ⟨W.heap.size, 0, none⟩ 1 1 (fun _ => px) (fun _ => py) _ (by decide) (one_pt W 32 px py)
    rw [one_nrs, hp] at h; exact h
  have HP := Lib.hid (And.intro hp (And.intro hN hP))
  clear hp hN hP
  have HB0 : Below w.heap.size w (w.alloc (Obj.cells #[.int .i64 px, .int .i64 py] 32)) := by (repeat (first | with_reducible assumption | with_reducible exact Below.refl _ _ | ((with_reducible refine Below.setCell ?_ ?_ _); rotate_left; (first | exact Nat.le_refl _ | (dsimp only; omega) | (simp; done) | (simp; omega))) | with_reducible refine below_alloc ?_ _ | with_reducible apply below_drewN | with_reducible apply Below.drew | with_reducible refine below_step ?_ (by assumption)))
  go_enter Try.func21, Try.ntmps21
  go_wp2_with (fail)
  (go_at_call 27; (with_reducible refine (k1 _ HB0).mono ?_); rintro e w1 ⟨rfl, hM⟩)
  have P : Bk (w.heap.size) 0 [.int .i64 px, .int .i64 py] w1 := Bk.later (by simp [Bk, go_sem]; done) hM
  have HB : Below w.heap.size w w1 := below_step (W := _) (by (repeat (first | with_reducible assumption | with_reducible exact Below.refl _ _ | ((with_reducible refine Below.setCell ?_ ?_ _); rotate_left; (first | exact Nat.le_refl _ | (dsimp only; omega) | (simp; done) | (simp; omega))) | with_reducible refine below_alloc ?_ _ | with_reducible apply below_drewN | with_reducible apply Below.drew | with_reducible refine below_step ?_ (by assumption)))) hM
  have C_P := P; simp only [Bk] at C_P
  clear hM k1 HB0
  go_wp2_with (fail)
  (go_at_call 27; (with_reducible refine (k2 _).mono ?_); rintro e9 w1 ⟨rfl, hM⟩; (first | have HB : Below w.heap.size w _ := below_step HB hM | have HB : Below w.heap.size w _ := below_step (W := _) (by (repeat (first | with_reducible assumption | with_reducible exact Below.refl _ _ | ((with_reducible refine Below.setCell ?_ ?_ _); rotate_left; (first | exact Nat.le_refl _ | (dsimp only; omega) | (simp; done) | (simp; omega))) | with_reducible refine below_alloc ?_ _ | with_reducible apply below_drewN | with_reducible apply Below.drew | with_reducible refine below_step ?_ (by assumption)))) hM); (first | have P := Bk.later P hM | have P := Bk.later (Bk.alloc P _) hM | have P := Bk.later (Bk.alloc (Bk.alloc P _) _) hM); have C_P := P; simp only [Bk] at C_P)
  clear hM k2 C_P
  rename World => wf
  have hzf := World.block_lt_of_cell? wf _ (show wf.cell? ⟨w.heap.size, 0, none⟩ = some (.int .i64 px) from P.1)
  dsimp only at hzf
  have HW : Hid (Below w.heap.size w (wf.alloc (Obj.cells #[.bool false, .int .u64 0, .int .u64 0, .int .u64 0, .int .u64 0] 73)) ∧ Bk (w.heap.size) 0 [.int .i64 px, .int .i64 py] (wf.alloc (Obj.cells #[.bool false, .int .u64 0, .int .u64 0, .int .u64 0, .int .u64 0] 73)) ∧ Bk wf.heap.size 0 [.bool false, .int .u64 0, .int .u64 0, .int .u64 0, .int .u64 0] (wf.alloc (Obj.cells #[.bool false, .int .u64 0, .int .u64 0, .int .u64 0, .int .u64 0] 73))) := Lib.hid ⟨below_alloc HB _, Bk.alloc P _, by simp [Bk, go_sem]⟩
  go_wp2_with (fail)
  go_loopw [5, 7] (fun m i wr => ∃ k : Nat, i = .int .i64 k ∧ k ≤ n ∧ m = .int .i64 (bst X Y px py k) ∧ Below w.heap.size w wr ∧ Bk (w.heap.size) 0 [.int .i64 px, .int .i64 py] wr ∧ Bk wf.heap.size 0 [.bool (decide ((bsd X Y px py k) < 0)), .int .u64 (d0 ((bsd X Y px py k).natAbs : Int)), .int .u64 (d1 ((bsd X Y px py k).natAbs : Int)), .int .u64 (d2 ((bsd X Y px py k).natAbs : Int)), .int .u64 (d3 ((bsd X Y px py k).natAbs : Int))] wr) (fun _ i _ => n - (RowKit.intOf i).toNat)
  case atStart => exact ⟨0, rfl, by omega, rfl, HW.out.1, HW.out.2.1, by rw [show bsd X Y px py 0 = 0 from rfl]; exact HW.out.2.2⟩
  case round =>
    obtain ⟨k, rfl, hk, rfl, HB, P, Q⟩ := hrel
    have C_P := P; simp only [Bk] at C_P
    have C_Q := Q; simp only [Bk] at C_Q
    have hzr := HB.size
    have hzq := World.block_lt_of_cell? wr _ C_Q.1
    dsimp only at hzq
    by_cases hlt : k < n
    · obtain ⟨c0, c1⟩ := HP.out.2.2.later HB k hlt
      obtain ⟨D0, D1, ⟨⟨u0, u1⟩, v0, v1⟩, ⟨s0, s1⟩, s2, s3⟩ := sq2_bd X Y px py k (nrs_yes HP.out.2.1 hlt) HP.out.1
      have bb := bst_bd X Y px py k
      have db : 0 ≤ bsd X Y px py k ∧ bsd X Y px py k ≤ 633825300114114700748351602688 := by
        unfold bsd; split
        · exact ⟨by decide, by decide⟩
        · have := sq2_bd X Y px py (bst X Y px py k).toNat (nrs_yes HP.out.2.1 (by omega)) HP.out.1
          exact ⟨this.1, this.2.1⟩
      have EQ : Hid (bst X Y px py (k + 1) = if bst X Y px py k < 0 ∨ sq2 X Y px py k < bsd X Y px py k then (k : Int) else bst X Y px py k) := Lib.hid (by
        unfold bsd; rw [bst]
        by_cases h : bst X Y px py k < 0
        · rw [if_pos (Or.inl h), if_pos (Or.inl h)]
        · rw [if_neg h])
      have ED : Hid (bsd X Y px py (k + 1) = if bst X Y px py k < 0 ∨ sq2 X Y px py k < bsd X Y px py k then sq2 X Y px py k else bsd X Y px py k) := Lib.hid (by
        have h1 := EQ.out
        by_cases h : bst X Y px py k < 0 ∨ sq2 X Y px py k < bsd X Y px py k
        · rw [if_pos h] at h1 ⊢
          unfold bsd; rw [h1, if_neg (by omega)]; rfl
        · rw [if_neg h] at h1 ⊢
          conv => lhs; unfold bsd
          rw [h1]; rfl)
      have e1 : (X k - px) * (X k - px) + (Y k - py) * (Y k - py) = sq2 X Y px py k := rfl
      have kM1 := fun W => cRMul (X k - px) (X k - px) W (by omega) (by omega) (by omega) (by omega)
      have kM2 := fun W => cRMul (Y k - py) (Y k - py) W (by omega) (by omega) (by omega) (by omega)
      have kA := fun W => cRAdd ((X k - px) * (X k - px)) ((Y k - py) * (Y k - py)) W (by omega) (by omega)
      rw [e1, cw_yes _ (by omega) (by omega), fw_yes _ (by omega) (by omega)] at kA
      have kC := fun W => cRCmp (sq2 X Y px py k) (bsd X Y px py k) W (by omega) (by omega)
      have wx1 : IntKind.i64.wrap (X k - px) = X k - px := by have := IntWalk.i64_in (X k - px) ⟨by omega, by omega⟩; exact this
      have wy1 : IntKind.i64.wrap (Y k - py) = Y k - py := by have := IntWalk.i64_in (Y k - py) ⟨by omega, by omega⟩; exact this
      clear e1
      generalize (X k - px) * (X k - px) = xx at *
      generalize (Y k - py) * (Y k - py) = yy at *
      generalize hdx : X k - px = dx at *
      generalize hdy : Y k - py = dy at *
      have HD := Lib.hid (And.intro hdx hdy)
      clear hdx hdy
      generalize X k = x at *
      generalize Y k = y at *
      generalize sq2 X Y px py k = D at *
      generalize bsd X Y px py k = E at *
      generalize bst X Y px py k = m at *
      have wx : IntKind.i64.wrap (x - px) = dx := by rw [HD.out.1]; exact wx1
      have wy : IntKind.i64.wrap (y - py) = dy := by rw [HD.out.2]; exact wy1
      clear wx1 wy1
      have hk2 : (k : Int) < (n : Int) := by omega
      go_upto_region 8 with (fail)
      (try refine wp_region_noPanic ?_)
      refine wp_region_held_drew (S := (fun (w' : World) => w'.cell? (a.add (k * 2)) = some (.int .i64 x) ∧ w'.cell? ⟨(a.add (k * 2)).block, (a.add (k * 2)).off + 1, none⟩ = some (.int .i64 y) ∧ w'.cell? ⟨w.heap.size, 0, none⟩ = some (.int .i64 px) ∧ w'.cell? ⟨w.heap.size, 1, none⟩ = some (.int .i64 py))) (by kernel_rfl) ⟨(by first | (simp (maxDischargeDepth := 6) [go_sem, *]; done)), (by first | (simp (maxDischargeDepth := 6) [go_sem, *]; done)), (by first | (simp (maxDischargeDepth := 6) [go_sem, *]; done)), (by first | (simp (maxDischargeDepth := 6) [go_sem, *]; done))⟩ (fun hHeld => ?_)
      refine wpAnyH_take (i := 0) (v := ?_) (by simp only [List.getElem?_toArray, List.getElem?_cons_succ, List.getElem?_cons_zero]; rfl) (by kernel_rfl) (by kernel_rfl) (by kernel_rfl) (fun _ _ _ h => h) (Or.inl ⟨by rfl, ?_⟩) (by assumption) ?_
      rotate_left
      · intro w hSw; (try dsimp only at hSw); go_simp; try with_reducible rfl
      try simp only [Act.put, List.setIfInBounds_toArray, List.set_cons_zero, List.set_cons_succ]
      refine wpAnyH_take (i := 1) (v := ?_) (by simp only [List.getElem?_toArray, List.getElem?_cons_succ, List.getElem?_cons_zero]; rfl) (by kernel_rfl) (by kernel_rfl) (by kernel_rfl) (fun _ _ _ h => h) (Or.inl ⟨by rfl, ?_⟩) (by assumption) ?_
      rotate_left
      · intro w hSw; (try dsimp only at hSw); go_simp; try with_reducible rfl
      try simp only [Act.put, List.setIfInBounds_toArray, List.set_cons_zero, List.set_cons_succ]
      refine wpAnyH_take (i := 2) (v := ?_) (by simp only [List.getElem?_toArray, List.getElem?_cons_succ, List.getElem?_cons_zero]; rfl) (by kernel_rfl) (by kernel_rfl) (by kernel_rfl) (fun _ _ _ h => h) (Or.inl ⟨by rfl, ?_⟩) (by assumption) ?_
      rotate_left
      · intro w hSw; (try dsimp only at hSw); go_simp; try with_reducible rfl
      try simp only [Act.put, List.setIfInBounds_toArray, List.set_cons_zero, List.set_cons_succ]
      refine wpAnyH_take (i := 3) (v := ?_) (by simp only [List.getElem?_toArray, List.getElem?_cons_succ, List.getElem?_cons_zero]; rfl) (by kernel_rfl) (by kernel_rfl) (by kernel_rfl) (fun _ _ _ h => h) (Or.inl ⟨by rfl, ?_⟩) (by assumption) ?_
      rotate_left
      · intro w hSw; (try dsimp only at hSw); go_simp; try with_reducible rfl
      try simp only [Act.put, List.setIfInBounds_toArray, List.set_cons_zero, List.set_cons_succ]
      refine wpAnyH_take (i := 5) (v := ?_) (by simp only [List.getElem?_toArray, List.getElem?_cons_succ, List.getElem?_cons_zero]; rfl) (by kernel_rfl) (by kernel_rfl) (by kernel_rfl) (fun _ _ _ h => h) (Or.inl ⟨by rfl, ?_⟩) (by assumption) ?_
      rotate_left
      · intro w hSw; (try dsimp only at hSw); go_simp; try with_reducible rfl
      try simp only [Act.put, List.setIfInBounds_toArray, List.set_cons_zero, List.set_cons_succ]
      refine wpAnyH_take (i := 4) (v := ?_) (by simp only [List.getElem?_toArray, List.getElem?_cons_succ, List.getElem?_cons_zero]; rfl) (by kernel_rfl) (by kernel_rfl) (by kernel_rfl) (fun _ _ _ h => h) (Or.inl ⟨by rfl, ?_⟩) (by assumption) ?_
      rotate_left
      · intro w hSw; (try dsimp only at hSw); go_simp; try with_reducible rfl
      try simp only [Act.put, List.setIfInBounds_toArray, List.set_cons_zero, List.set_cons_succ]
      refine wpAnyH_take (i := 6) (v := ?_) (by simp only [List.getElem?_toArray, List.getElem?_cons_succ, List.getElem?_cons_zero]; rfl) (by kernel_rfl) (by kernel_rfl) (by kernel_rfl) (fun _ _ _ h => h) (Or.inl ⟨by rfl, ?_⟩) (by assumption) ?_
      rotate_left
      · intro w hSw; (try dsimp only at hSw); go_simp; try with_reducible rfl
      try simp only [Act.put, List.setIfInBounds_toArray, List.set_cons_zero, List.set_cons_succ]
      refine wpAnyH_take (i := 7) (v := ?_) (by simp only [List.getElem?_toArray, List.getElem?_cons_succ, List.getElem?_cons_zero]; rfl) (by kernel_rfl) (by kernel_rfl) (by kernel_rfl) (fun _ _ _ h => h) (Or.inl ⟨by rfl, ?_⟩) (by assumption) ?_
      rotate_left
      · intro w hSw; (try dsimp only at hSw); go_simp; try with_reducible rfl
      try simp only [Act.put, List.setIfInBounds_toArray, List.set_cons_zero, List.set_cons_succ]
      refine wpAnyH_take (i := 8) (v := ?_) (by simp only [List.getElem?_toArray, List.getElem?_cons_succ, List.getElem?_cons_zero]; rfl) (by kernel_rfl) (by kernel_rfl) (by kernel_rfl) (fun _ _ _ h => h) (Or.inl ⟨by rfl, ?_⟩) (by assumption) ?_
      rotate_left
      · intro w hSw; (try dsimp only at hSw); go_simp; try with_reducible rfl
      try simp only [Act.put, List.setIfInBounds_toArray, List.set_cons_zero, List.set_cons_succ]
      refine wpAnyH_done (by kernel_rfl) ?_ _
      (try refine NoPanic.normal ?_)
      (try clear q0); (try clear q1); (try clear q2); (try clear q3); obtain ⟨q0, q1, q2, q3⟩ := hHeld
      clear c0 c1 C_P C_Q
      go_upto_region 9 with (fail)
      (try refine wp_region_noPanic ?_)
      refine wp_region_held_drew (S := (fun (w' : World) => w'.cell? (a.add (k * 2)) = some (.int .i64 x) ∧ w'.cell? ⟨(a.add (k * 2)).block, (a.add (k * 2)).off + 1, none⟩ = some (.int .i64 y) ∧ w'.cell? ⟨w.heap.size, 0, none⟩ = some (.int .i64 px) ∧ w'.cell? ⟨w.heap.size, 1, none⟩ = some (.int .i64 py))) (by kernel_rfl) ⟨(by first | (simp (maxDischargeDepth := 6) [go_sem, *]; done)), (by first | (simp (maxDischargeDepth := 6) [go_sem, *]; done)), (by first | (simp (maxDischargeDepth := 6) [go_sem, *]; done)), (by first | (simp (maxDischargeDepth := 6) [go_sem, *]; done))⟩ (fun hHeld => ?_)
      refine wpAnyH_take (i := 0) (v := ?_) (by simp only [List.getElem?_toArray, List.getElem?_cons_succ, List.getElem?_cons_zero]; rfl) (by kernel_rfl) (by kernel_rfl) (by kernel_rfl) (fun _ _ _ h => h) (Or.inl ⟨by rfl, ?_⟩) (by assumption) ?_
      rotate_left
      · intro w hSw; (try dsimp only at hSw); go_simp; try with_reducible rfl
      try simp only [Act.put, List.setIfInBounds_toArray, List.set_cons_zero, List.set_cons_succ]
      refine wpAnyH_take (i := 1) (v := ?_) (by simp only [List.getElem?_toArray, List.getElem?_cons_succ, List.getElem?_cons_zero]; rfl) (by kernel_rfl) (by kernel_rfl) (by kernel_rfl) (fun _ _ _ h => h) (Or.inl ⟨by rfl, ?_⟩) (by assumption) ?_
      rotate_left
      · intro w hSw; (try dsimp only at hSw); go_simp; try with_reducible rfl
      try simp only [Act.put, List.setIfInBounds_toArray, List.set_cons_zero, List.set_cons_succ]
      refine wpAnyH_take (i := 2) (v := ?_) (by simp only [List.getElem?_toArray, List.getElem?_cons_succ, List.getElem?_cons_zero]; rfl) (by kernel_rfl) (by kernel_rfl) (by kernel_rfl) (fun _ _ _ h => h) (Or.inl ⟨by rfl, ?_⟩) (by assumption) ?_
      rotate_left
      · intro w hSw; (try dsimp only at hSw); go_simp; try with_reducible rfl
      try simp only [Act.put, List.setIfInBounds_toArray, List.set_cons_zero, List.set_cons_succ]
      refine wpAnyH_take (i := 3) (v := ?_) (by simp only [List.getElem?_toArray, List.getElem?_cons_succ, List.getElem?_cons_zero]; rfl) (by kernel_rfl) (by kernel_rfl) (by kernel_rfl) (fun _ _ _ h => h) (Or.inl ⟨by rfl, ?_⟩) (by assumption) ?_
      rotate_left
      · intro w hSw; (try dsimp only at hSw); go_simp; try with_reducible rfl
      try simp only [Act.put, List.setIfInBounds_toArray, List.set_cons_zero, List.set_cons_succ]
      refine wpAnyH_take (i := 5) (v := ?_) (by simp only [List.getElem?_toArray, List.getElem?_cons_succ, List.getElem?_cons_zero]; rfl) (by kernel_rfl) (by kernel_rfl) (by kernel_rfl) (fun _ _ _ h => h) (Or.inl ⟨by rfl, ?_⟩) (by assumption) ?_
      rotate_left
      · intro w hSw; (try dsimp only at hSw); go_simp; try with_reducible rfl
      try simp only [Act.put, List.setIfInBounds_toArray, List.set_cons_zero, List.set_cons_succ]
      refine wpAnyH_take (i := 4) (v := ?_) (by simp only [List.getElem?_toArray, List.getElem?_cons_succ, List.getElem?_cons_zero]; rfl) (by kernel_rfl) (by kernel_rfl) (by kernel_rfl) (fun _ _ _ h => h) (Or.inl ⟨by rfl, ?_⟩) (by assumption) ?_
      rotate_left
      · intro w hSw; (try dsimp only at hSw); go_simp; try with_reducible rfl
      try simp only [Act.put, List.setIfInBounds_toArray, List.set_cons_zero, List.set_cons_succ]
      refine wpAnyH_take (i := 6) (v := ?_) (by simp only [List.getElem?_toArray, List.getElem?_cons_succ, List.getElem?_cons_zero]; rfl) (by kernel_rfl) (by kernel_rfl) (by kernel_rfl) (fun _ _ _ h => h) (Or.inl ⟨by rfl, ?_⟩) (by assumption) ?_
      rotate_left
      · intro w hSw; (try dsimp only at hSw); go_simp; try with_reducible rfl
      try simp only [Act.put, List.setIfInBounds_toArray, List.set_cons_zero, List.set_cons_succ]
      refine wpAnyH_take (i := 7) (v := ?_) (by simp only [List.getElem?_toArray, List.getElem?_cons_succ, List.getElem?_cons_zero]; rfl) (by kernel_rfl) (by kernel_rfl) (by kernel_rfl) (fun _ _ _ h => h) (Or.inl ⟨by rfl, ?_⟩) (by assumption) ?_
      rotate_left
      · intro w hSw; (try dsimp only at hSw); go_simp; try with_reducible rfl
      try simp only [Act.put, List.setIfInBounds_toArray, List.set_cons_zero, List.set_cons_succ]
      refine wpAnyH_take (i := 8) (v := ?_) (by simp only [List.getElem?_toArray, List.getElem?_cons_succ, List.getElem?_cons_zero]; rfl) (by kernel_rfl) (by kernel_rfl) (by kernel_rfl) (fun _ _ _ h => h) (Or.inl ⟨by rfl, ?_⟩) (by assumption) ?_
      rotate_left
      · intro w hSw; (try dsimp only at hSw); go_simp; try with_reducible rfl
      try simp only [Act.put, List.setIfInBounds_toArray, List.set_cons_zero, List.set_cons_succ]
      refine wpAnyH_done (by kernel_rfl) ?_ _
      (try refine NoPanic.normal ?_)
      (try clear q0); (try clear q1); (try clear q2); (try clear q3); obtain ⟨q0, q1, q2, q3⟩ := hHeld
      clear wx wy q0 q1 q2 q3
      have HB : Below w.heap.size w wr.drew.drew := Below.drew (Below.drew HB)
      have P := Bk.drew (Bk.drew P)
      have Q := Bk.drew (Bk.drew Q)
      go_wp2_with (fail)
      (go_at_call 45; (with_reducible refine (kM1 _).mono ?_); rintro e9 w1 ⟨rfl, hM⟩; (first | have HB : Below w.heap.size w _ := below_step HB hM | have HB : Below w.heap.size w _ := below_step (W := _) (by (repeat (first | with_reducible assumption | with_reducible exact Below.refl _ _ | ((with_reducible refine Below.setCell ?_ ?_ _); rotate_left; (first | exact Nat.le_refl _ | (dsimp only; omega) | (simp; done) | (simp; omega))) | with_reducible refine below_alloc ?_ _ | with_reducible apply below_drewN | with_reducible apply Below.drew | with_reducible refine below_step ?_ (by assumption)))) hM); (first | have P := Bk.later P hM | have P := Bk.later (Bk.alloc P _) hM | have P := Bk.later (Bk.alloc (Bk.alloc P _) _) hM); have C_P := P; simp only [Bk] at C_P; (first | have Q := Bk.later Q hM | have Q := Bk.later (Bk.alloc Q _) hM | have Q := Bk.later (Bk.alloc (Bk.alloc Q _) _) hM); have C_Q := Q; simp only [Bk] at C_Q)
      clear hM kM1
      go_wp2_with (fail)
      (go_at_call 45; (with_reducible refine (kM2 _).mono ?_); rintro e9 w1 ⟨rfl, hM⟩; (first | have HB : Below w.heap.size w _ := below_step HB hM | have HB : Below w.heap.size w _ := below_step (W := _) (by (repeat (first | with_reducible assumption | with_reducible exact Below.refl _ _ | ((with_reducible refine Below.setCell ?_ ?_ _); rotate_left; (first | exact Nat.le_refl _ | (dsimp only; omega) | (simp; done) | (simp; omega))) | with_reducible refine below_alloc ?_ _ | with_reducible apply below_drewN | with_reducible apply Below.drew | with_reducible refine below_step ?_ (by assumption)))) hM); (first | have P := Bk.later P hM | have P := Bk.later (Bk.alloc P _) hM | have P := Bk.later (Bk.alloc (Bk.alloc P _) _) hM); have C_P := P; simp only [Bk] at C_P; (first | have Q := Bk.later Q hM | have Q := Bk.later (Bk.alloc Q _) hM | have Q := Bk.later (Bk.alloc (Bk.alloc Q _) _) hM); have C_Q := Q; simp only [Bk] at C_Q)
      clear hM kM2
      go_wp2_with (fail)
      (go_at_call 44; (with_reducible refine (kA _).mono ?_); rintro e9 w1 ⟨rfl, hM⟩; (first | have HB : Below w.heap.size w _ := below_step HB hM | have HB : Below w.heap.size w _ := below_step (W := _) (by (repeat (first | with_reducible assumption | with_reducible exact Below.refl _ _ | ((with_reducible refine Below.setCell ?_ ?_ _); rotate_left; (first | exact Nat.le_refl _ | (dsimp only; omega) | (simp; done) | (simp; omega))) | with_reducible refine below_alloc ?_ _ | with_reducible apply below_drewN | with_reducible apply Below.drew | with_reducible refine below_step ?_ (by assumption)))) hM); (first | have P := Bk.later P hM | have P := Bk.later (Bk.alloc P _) hM | have P := Bk.later (Bk.alloc (Bk.alloc P _) _) hM); have C_P := P; simp only [Bk] at C_P; (first | have Q := Bk.later Q hM | have Q := Bk.later (Bk.alloc Q _) hM | have Q := Bk.later (Bk.alloc (Bk.alloc Q _) _) hM); have C_Q := Q; simp only [Bk] at C_Q)
      clear hM kA
      rename World => wg
      have hzg := World.block_lt_of_cell? wg _ C_Q.1
      dsimp only at hzg
      have HW2 : Hid (Below w.heap.size w (wg.alloc (Obj.cells #[.bool (decide (D < 0)), .int .u64 (d0 (D.natAbs : Int)), .int .u64 (d1 (D.natAbs : Int)), .int .u64 (d2 (D.natAbs : Int)), .int .u64 (d3 (D.natAbs : Int))] 73)) ∧ Bk (w.heap.size) 0 [.int .i64 px, .int .i64 py] (wg.alloc (Obj.cells #[.bool (decide (D < 0)), .int .u64 (d0 (D.natAbs : Int)), .int .u64 (d1 (D.natAbs : Int)), .int .u64 (d2 (D.natAbs : Int)), .int .u64 (d3 (D.natAbs : Int))] 73)) ∧ Bk wf.heap.size 0 [.bool (decide (E < 0)), .int .u64 (d0 (E.natAbs : Int)), .int .u64 (d1 (E.natAbs : Int)), .int .u64 (d2 (E.natAbs : Int)), .int .u64 (d3 (E.natAbs : Int))] (wg.alloc (Obj.cells #[.bool (decide (D < 0)), .int .u64 (d0 (D.natAbs : Int)), .int .u64 (d1 (D.natAbs : Int)), .int .u64 (d2 (D.natAbs : Int)), .int .u64 (d3 (D.natAbs : Int))] 73)) ∧ Bk wg.heap.size 0 [.bool (decide (D < 0)), .int .u64 (d0 (D.natAbs : Int)), .int .u64 (d1 (D.natAbs : Int)), .int .u64 (d2 (D.natAbs : Int)), .int .u64 (d3 (D.natAbs : Int))] (wg.alloc (Obj.cells #[.bool (decide (D < 0)), .int .u64 (d0 (D.natAbs : Int)), .int .u64 (d1 (D.natAbs : Int)), .int .u64 (d2 (D.natAbs : Int)), .int .u64 (d3 (D.natAbs : Int))] 73))) := Lib.hid ⟨below_alloc HB _, Bk.alloc P _, Bk.alloc Q _, by simp [Bk, go_sem]⟩
      go_upto_region 11 with (fail)
      generalize hW : World.alloc _ _ = W2 at HW2 ⊢
      clear hW
      obtain ⟨HB, P, Q, R⟩ := HW2.out
      clear C_P C_Q
      have C_P := P; simp only [Bk] at C_P
      have C_Q := Q; simp only [Bk] at C_Q
      have C_R := R; simp only [Bk] at C_R
      have hz2 := World.block_lt_of_cell? W2 _ C_R.1
      dsimp only at hz2
      clear HW2
      rcases (show m < 0 ∨ (0 ≤ m ∧ D < E) ∨ (0 ≤ m ∧ E ≤ D) by omega) with hm | ⟨hm, hde⟩ | ⟨hm, hde⟩
      · have hcase : m < 0 ∨ D < E := Or.inl hm
        have HC := Lib.hid hcase
        clear hcase kC
        clear C_P
        go_wp2_with (fail)
        refine ⟨⟨k + 1, ?_, by omega, by rw [EQ.out, if_pos HC.out], by (repeat (first | with_reducible assumption | with_reducible exact Below.refl _ _ | ((with_reducible refine Below.setCell ?_ ?_ _); rotate_left; (first | exact Nat.le_refl _ | (dsimp only; omega) | (simp; done) | (simp; omega))) | with_reducible refine below_alloc ?_ _ | with_reducible apply below_drewN | with_reducible apply Below.drew | with_reducible refine below_step ?_ (by assumption))), by (repeat (first | with_reducible assumption | with_reducible apply Bk.drew | with_reducible apply Bk.alloc | with_reducible apply Bk.later (hB := hR) | with_reducible apply Bk.later (hB := hM) | ((with_reducible apply Bk.mv hM); (focus omega)) | ((with_reducible apply Bk.later); rotate_left; (with_reducible assumption)) | ((with_reducible apply Bk.put); rotate_left; (first | (dsimp only; omega))))), ?_⟩, by simp [RowKit.intOf]; omega⟩
        · go_num
        · rw [ED.out, if_pos HC.out]; simp [Bk, go_sem, *]
      · have hcase : m < 0 ∨ D < E := Or.inr hde
        have HC := Lib.hid hcase
        have hc3 : cmp3 D E < 0 := by unfold cmp3; rw [if_pos hde]; decide
        generalize cmp3 D E = c3 at *
        clear hcase
        go_wp2_with (fail)
        (go_at_call 46; (with_reducible refine (kC _).mono ?_); rintro e9 w1 ⟨rfl, hM⟩; (first | have HB : Below w.heap.size w _ := below_step HB hM | have HB : Below w.heap.size w _ := below_step (W := _) (by (repeat (first | with_reducible assumption | with_reducible exact Below.refl _ _ | ((with_reducible refine Below.setCell ?_ ?_ _); rotate_left; (first | exact Nat.le_refl _ | (dsimp only; omega) | (simp; done) | (simp; omega))) | with_reducible refine below_alloc ?_ _ | with_reducible apply below_drewN | with_reducible apply Below.drew | with_reducible refine below_step ?_ (by assumption)))) hM); (first | have P := Bk.later P hM | have P := Bk.later (Bk.alloc P _) hM | have P := Bk.later (Bk.alloc (Bk.alloc P _) _) hM); have C_P := P; simp only [Bk] at C_P; (first | have Q := Bk.later Q hM | have Q := Bk.later (Bk.alloc Q _) hM | have Q := Bk.later (Bk.alloc (Bk.alloc Q _) _) hM); have C_Q := Q; simp only [Bk] at C_Q; (first | have R := Bk.later R hM | have R := Bk.later (Bk.alloc R _) hM | have R := Bk.later (Bk.alloc (Bk.alloc R _) _) hM); have C_R := R; simp only [Bk] at C_R)
        clear hM kC
        rename World => W3
        have hz3 := World.block_lt_of_cell? W3 _ C_R.1
        dsimp only at hz3
        clear C_P
        go_wp2_with (fail)
        refine ⟨⟨k + 1, ?_, by omega, by rw [EQ.out, if_pos HC.out], by (repeat (first | with_reducible assumption | with_reducible exact Below.refl _ _ | ((with_reducible refine Below.setCell ?_ ?_ _); rotate_left; (first | exact Nat.le_refl _ | (dsimp only; omega) | (simp; done) | (simp; omega))) | with_reducible refine below_alloc ?_ _ | with_reducible apply below_drewN | with_reducible apply Below.drew | with_reducible refine below_step ?_ (by assumption))), by (repeat (first | with_reducible assumption | with_reducible apply Bk.drew | with_reducible apply Bk.alloc | with_reducible apply Bk.later (hB := hR) | with_reducible apply Bk.later (hB := hM) | ((with_reducible apply Bk.mv hM); (focus omega)) | ((with_reducible apply Bk.later); rotate_left; (with_reducible assumption)) | ((with_reducible apply Bk.put); rotate_left; (first | (dsimp only; omega))))), ?_⟩, by simp [RowKit.intOf]; omega⟩
        · go_num
        · rw [ED.out, if_pos HC.out]; simp [Bk, go_sem, *]
      · have hcase : ¬ (m < 0 ∨ D < E) := by omega
        have HC := Lib.hid hcase
        have hc3 : ¬ cmp3 D E < 0 := by unfold cmp3; rw [if_neg (by omega)]; split <;> decide
        generalize cmp3 D E = c3 at *
        clear hcase
        go_wp2_with (fail)
        (go_at_call 46; (with_reducible refine (kC _).mono ?_); rintro e9 w1 ⟨rfl, hM⟩; (first | have HB : Below w.heap.size w _ := below_step HB hM | have HB : Below w.heap.size w _ := below_step (W := _) (by (repeat (first | with_reducible assumption | with_reducible exact Below.refl _ _ | ((with_reducible refine Below.setCell ?_ ?_ _); rotate_left; (first | exact Nat.le_refl _ | (dsimp only; omega) | (simp; done) | (simp; omega))) | with_reducible refine below_alloc ?_ _ | with_reducible apply below_drewN | with_reducible apply Below.drew | with_reducible refine below_step ?_ (by assumption)))) hM); (first | have P := Bk.later P hM | have P := Bk.later (Bk.alloc P _) hM | have P := Bk.later (Bk.alloc (Bk.alloc P _) _) hM); have C_P := P; simp only [Bk] at C_P; (first | have Q := Bk.later Q hM | have Q := Bk.later (Bk.alloc Q _) hM | have Q := Bk.later (Bk.alloc (Bk.alloc Q _) _) hM); have C_Q := Q; simp only [Bk] at C_Q; (first | have R := Bk.later R hM | have R := Bk.later (Bk.alloc R _) hM | have R := Bk.later (Bk.alloc (Bk.alloc R _) _) hM); have C_R := R; simp only [Bk] at C_R)
        clear hM kC
        go_wp2_with (fail)
        exact ⟨⟨k + 1, by go_num, by omega, by rw [EQ.out, if_neg HC.out], by (repeat (first | with_reducible assumption | with_reducible exact Below.refl _ _ | ((with_reducible refine Below.setCell ?_ ?_ _); rotate_left; (first | exact Nat.le_refl _ | (dsimp only; omega) | (simp; done) | (simp; omega))) | with_reducible refine below_alloc ?_ _ | with_reducible apply below_drewN | with_reducible apply Below.drew | with_reducible refine below_step ?_ (by assumption))), by (repeat (first | with_reducible assumption | with_reducible apply Bk.drew | with_reducible apply Bk.alloc | with_reducible apply Bk.later (hB := hR) | with_reducible apply Bk.later (hB := hM) | ((with_reducible apply Bk.mv hM); (focus omega)) | ((with_reducible apply Bk.later); rotate_left; (with_reducible assumption)) | ((with_reducible apply Bk.put); rotate_left; (first | (dsimp only; omega))))), by rw [ED.out, if_neg HC.out]; (repeat (first | with_reducible assumption | with_reducible apply Bk.drew | with_reducible apply Bk.alloc | with_reducible apply Bk.later (hB := hR) | with_reducible apply Bk.later (hB := hM) | ((with_reducible apply Bk.mv hM); (focus omega)) | ((with_reducible apply Bk.later); rotate_left; (with_reducible assumption)) | ((with_reducible apply Bk.put); rotate_left; (first | (dsimp only; omega)))))⟩, by simp [RowKit.intOf]; omega⟩
    · obtain rfl : k = n := by omega
      go_wp2
      go_ret
      exact ⟨rfl, HB⟩
end Go.Proofs.Ythieinnlpfdemaa
