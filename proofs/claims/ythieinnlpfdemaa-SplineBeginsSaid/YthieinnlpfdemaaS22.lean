/- The walk of SplineBegins. -/
import Derived.Test.YthieinnlpfdemaaS17
import Derived.Test.YthieinnlpfdemaaM1
import Derived.Test.YthieinnlpfdemaaF2
set_option linter.unusedSimpArgs false
set_option linter.unusedVariables false
namespace Go.Proofs.Ythieinnlpfdemaa
open Go.RowKit
/-! ### A piece's ends -/
theorem ml0 (x : Int) : ml x 0 = 0 := by unfold ml; rw [Int.mul_zero]; rfl
theorem mlok0 (x : Int) : mlok x 0 = true := by unfold mlok; rw [Int.mul_zero]; rfl
theorem rsh_one (x : Int) : rsh (x * 4294967296) = x := by unfold rsh; rw [if_neg (by omega)]; omega
theorem rsh_half (x : Int) : rsh (2 * x * 2147483648) = x := by rw [show 2 * x * 2147483648 = x * 4294967296 by omega]; exact rsh_one x
theorem fx_in (x : Int) (h0 : -9223372036854775808 ≤ x) (h1 : x ≤ 9223372036854775807) : fx x = true := decide_eq_true ⟨h0, h1⟩
theorem st0 (c n : Int) (h0 : -9223372036854775808 ≤ c) (h1 : c ≤ 9223372036854775807) : st c n 0 = c ∧ sok c n 0 = true := by
  unfold st sok; rw [ml0, mlok0, Int.add_zero]; exact ⟨sat_id c h0 h1, by rw [fx_in c h0 h1]; rfl⟩
theorem st1 (c n : Int) (h0 : -9223372036854775808 ≤ c + n) (h1 : c + n ≤ 9223372036854775807) (h2 : -9223372036854775808 ≤ n) (h3 : n ≤ 9223372036854775807) : st c n 4294967296 = c + n ∧ sok c n 4294967296 = true := by
  unfold st sok ml mlok; rw [rsh_one, sat_id n h2 h3, sat_id _ h0 h1, fx_in n h2 h3, fx_in _ h0 h1]; exact ⟨rfl, rfl⟩
theorem mlh (x : Int) (h0 : -9223372036854775808 ≤ x) (h1 : x ≤ 9223372036854775807) : ml (2 * x) 2147483648 = x ∧ mlok (2 * x) 2147483648 = true := by
  unfold ml mlok; rw [rsh_half, fx_in x h0 h1]; exact ⟨sat_id x h0 h1, rfl⟩
theorem pv_begin (p0 p1 p2 p3 : Int) (a0 : -281474976710656 ≤ p0 ∧ p0 ≤ 281474976710656) (a1 : -281474976710656 ≤ p1 ∧ p1 ≤ 281474976710656) (a2 : -281474976710656 ≤ p2 ∧ p2 ≤ 281474976710656) (a3 : -281474976710656 ≤ p3 ∧ p3 ≤ 281474976710656) :
    pv p0 p1 p2 p3 0 = p1 ∧ pok p0 p1 p2 p3 0 = true := by
  unfold pv pok cv cok
  obtain ⟨h1, h2⟩ := st0 (2 * p0 - 5 * p1 + 4 * p2 - p3) (3 * p1 - p0 - 3 * p2 + p3) (by omega) (by omega)
  rw [h1, h2]
  obtain ⟨h1, h2⟩ := st0 (p2 - p0) (2 * p0 - 5 * p1 + 4 * p2 - p3) (by omega) (by omega)
  rw [h1, h2]
  obtain ⟨h1, h2⟩ := st0 (2 * p1) (p2 - p0) (by omega) (by omega)
  rw [h1, h2]
  obtain ⟨h1, h2⟩ := mlh p1 (by omega) (by omega)
  rw [h1, h2]
  exact ⟨rfl, rfl⟩
theorem pv_end (p0 p1 p2 p3 : Int) (a0 : -281474976710656 ≤ p0 ∧ p0 ≤ 281474976710656) (a1 : -281474976710656 ≤ p1 ∧ p1 ≤ 281474976710656) (a2 : -281474976710656 ≤ p2 ∧ p2 ≤ 281474976710656) (a3 : -281474976710656 ≤ p3 ∧ p3 ≤ 281474976710656) :
    pv p0 p1 p2 p3 4294967296 = p2 ∧ pok p0 p1 p2 p3 4294967296 = true := by
  unfold pv pok cv cok
  obtain ⟨h1, h2⟩ := st1 (2 * p0 - 5 * p1 + 4 * p2 - p3) (3 * p1 - p0 - 3 * p2 + p3) (by omega) (by omega) (by omega) (by omega)
  rw [h1, h2, show 2 * p0 - 5 * p1 + 4 * p2 - p3 + (3 * p1 - p0 - 3 * p2 + p3) = p0 - 2 * p1 + p2 by omega]
  obtain ⟨h1, h2⟩ := st1 (p2 - p0) (p0 - 2 * p1 + p2) (by omega) (by omega) (by omega) (by omega)
  rw [h1, h2, show p2 - p0 + (p0 - 2 * p1 + p2) = 2 * p2 - 2 * p1 by omega]
  obtain ⟨h1, h2⟩ := st1 (2 * p1) (2 * p2 - 2 * p1) (by omega) (by omega) (by omega) (by omega)
  rw [h1, h2, show 2 * p1 + (2 * p2 - 2 * p1) = 2 * p2 by omega]
  obtain ⟨h1, h2⟩ := mlh p2 (by omega) (by omega)
  rw [h1, h2]
  exact ⟨rfl, rfl⟩
theorem ends (V : Nat → Int) (n I : Nat) (hI : I < n) (h : ∀ j, j < n → -281474976710656 ≤ V j ∧ V j ≤ 281474976710656) :
    (pvx V n I 0 = V I ∧ pox V n I 0 = true) ∧ (pvx V n I 4294967296 = V ((I + 1) % n) ∧ pox V n I 4294967296 = true) := by
  have hp := fun k => px_near V n I k (by omega) h
  have e1 : px V n I 1 = V I := by unfold px; rw [show I + 1 + n - 1 = I + n by omega, Nat.add_mod_right, Nat.mod_eq_of_lt hI]
  have e2 : px V n I 2 = V ((I + 1) % n) := by unfold px; rw [show I + 2 + n - 1 = I + 1 + n by omega, Nat.add_mod_right]
  have h0 := pv_begin _ _ _ _ (hp 0) (hp 1) (hp 2) (hp 3)
  have h1 := pv_end _ _ _ _ (hp 0) (hp 1) (hp 2) (hp 3)
  rw [e1] at h0
  rw [e2] at h1
  unfold pvx pox
  rw [e1]
  rw [e1] at h1
  rw [e2]
  rw [e2] at h0
  exact ⟨h0, h1⟩
theorem On.callS {P : Program} {f : Nat} {args : Array Value} {b : Nat} {o o' : Bool} {w W : World} {v : Ending} (h : On b o w W)
    (k : On b o w W → Calls P f args W fun e w' => e = v ∧ Mv b o' W w') : Calls P f args W fun e w' => e = v ∧ Mv b o' W w' ∧ On b o' w w' := (k h).mono fun _ _ ⟨h1, h2⟩ => ⟨h1, h2, h.mv h2⟩
theorem one_made (w : World) (s : TypeId) : On w.heap.size false w (w.alloc (.cells #[.bool false] s)) :=
  ⟨by (repeat (first | with_reducible assumption | with_reducible exact Below.refl _ _ | ((with_reducible refine Below.setCell ?_ ?_ _); rotate_left; (first | exact Nat.le_refl _ | (dsimp only; omega) | (simp; done) | (simp; omega))) | with_reducible refine below_alloc ?_ _ | with_reducible apply below_drewN | with_reducible apply Below.drew | with_reducible refine below_step ?_ (by assumption))), by simp [go_sem], by simp [go_sem], Nat.le_refl _⟩
set_option maxHeartbeats 8000000 in
theorem walk_SplineBegins (p : Option Addr) (n c : Nat) (X Y : Nat → Int) (i : Int) (w : World) (hS : Sl p n c X Y w) (i_0 : -9223372036854775808 ≤ i) (i_1 : i ≤ 9223372036854775807) :
    Calls Try.prog 8 #[.slice p n c, .int .i64 i] w fun e w' => e = .returned (.bool true) ∧ Below w.heap.size w w' := by
  rcases Nat.lt_or_ge 100 n with hn | hn
  · have hn2 : 100 < (n : Int) := by omega
    go_enter Try.func8, Try.ntmps8
    go_wp2_with ((go_at_call 13; (with_reducible refine (cAwake11 _).mono ?_); rintro e w1 ⟨rfl, hM⟩))
    go_ret
    exact ⟨rfl, by (repeat (first | with_reducible assumption | with_reducible exact Below.refl _ _ | ((with_reducible refine Below.setCell ?_ ?_ _); rotate_left; (first | exact Nat.le_refl _ | (dsimp only; omega) | (simp; done) | (simp; omega))) | with_reducible refine below_alloc ?_ _ | with_reducible apply below_drewN | with_reducible apply Below.drew | with_reducible refine below_step ?_ (by assumption)))⟩
  have hn2 : (n : Int) ≤ 100 := by omega
  have k1 : ∀ W, Below w.heap.size w W → Calls Try.prog 9 #[.slice p n c] W fun e w' => e = .returned (.int .i64 (rv X Y n)) ∧ Below W.heap.size W w' := fun W hB => cRight p n c X Y W (hS.later hB)
  rcases rv_cases X Y n with hr | ⟨hr, h3, h4, hN⟩
  · clear hS
    generalize rv X Y n = r at *
    rcases hr with rfl | rfl
    all_goals go_enter Try.func8, Try.ntmps8
    all_goals go_wp2_with (fail)
    all_goals (go_at_call 9; (with_reducible refine (k1 _ (by (repeat (first | with_reducible assumption | with_reducible exact Below.refl _ _ | ((with_reducible refine Below.setCell ?_ ?_ _); rotate_left; (first | exact Nat.le_refl _ | (dsimp only; omega) | (simp; done) | (simp; omega))) | with_reducible refine below_alloc ?_ _ | with_reducible apply below_drewN | with_reducible apply Below.drew | with_reducible refine below_step ?_ (by assumption))))).mono ?_); rintro e w1 ⟨rfl, hM⟩)
    all_goals go_wp2_with ((go_at_call 13; (with_reducible refine (cAwake11 _).mono ?_); rintro e w1 ⟨rfl, hM⟩))
    all_goals go_ret
    all_goals exact ⟨rfl, by (repeat (first | with_reducible assumption | with_reducible exact Below.refl _ _ | ((with_reducible refine Below.setCell ?_ ?_ _); rotate_left; (first | exact Nat.le_refl _ | (dsimp only; omega) | (simp; done) | (simp; omega))) | with_reducible refine below_alloc ?_ _ | with_reducible apply below_drewN | with_reducible apply Below.drew | with_reducible refine below_step ?_ (by assumption)))⟩
  rw [hr] at k1
  rcases (show i < 0 ∨ (n : Int) ≤ i ∨ (0 ≤ i ∧ i < (n : Int)) by omega) with hi | hi | ⟨hi0, hi1⟩
  · go_enter Try.func8, Try.ntmps8
    go_wp2_with (fail)
    (go_at_call 9; (with_reducible refine (k1 _ (by (repeat (first | with_reducible assumption | with_reducible exact Below.refl _ _ | ((with_reducible refine Below.setCell ?_ ?_ _); rotate_left; (first | exact Nat.le_refl _ | (dsimp only; omega) | (simp; done) | (simp; omega))) | with_reducible refine below_alloc ?_ _ | with_reducible apply below_drewN | with_reducible apply Below.drew | with_reducible refine below_step ?_ (by assumption))))).mono ?_); rintro e w1 ⟨rfl, hM⟩)
    go_wp2_with ((go_at_call 13; (with_reducible refine (cAwake11 _).mono ?_); rintro e w1 ⟨rfl, hM⟩))
    go_ret
    exact ⟨rfl, by (repeat (first | with_reducible assumption | with_reducible exact Below.refl _ _ | ((with_reducible refine Below.setCell ?_ ?_ _); rotate_left; (first | exact Nat.le_refl _ | (dsimp only; omega) | (simp; done) | (simp; omega))) | with_reducible refine below_alloc ?_ _ | with_reducible apply below_drewN | with_reducible apply Below.drew | with_reducible refine below_step ?_ (by assumption)))⟩
  · go_enter Try.func8, Try.ntmps8
    go_wp2_with (fail)
    (go_at_call 9; (with_reducible refine (k1 _ (by (repeat (first | with_reducible assumption | with_reducible exact Below.refl _ _ | ((with_reducible refine Below.setCell ?_ ?_ _); rotate_left; (first | exact Nat.le_refl _ | (dsimp only; omega) | (simp; done) | (simp; omega))) | with_reducible refine below_alloc ?_ _ | with_reducible apply below_drewN | with_reducible apply Below.drew | with_reducible refine below_step ?_ (by assumption))))).mono ?_); rintro e w1 ⟨rfl, hM⟩)
    go_wp2_with ((go_at_call 13; (with_reducible refine (cAwake11 _).mono ?_); rintro e w1 ⟨rfl, hM⟩))
    go_ret
    exact ⟨rfl, by (repeat (first | with_reducible assumption | with_reducible exact Below.refl _ _ | ((with_reducible refine Below.setCell ?_ ?_ _); rotate_left; (first | exact Nat.le_refl _ | (dsimp only; omega) | (simp; done) | (simp; omega))) | with_reducible refine below_alloc ?_ _ | with_reducible apply below_drewN | with_reducible apply Below.drew | with_reducible refine below_step ?_ (by assumption)))⟩
  obtain ⟨I, rfl⟩ : ∃ I : Nat, i = I := ⟨i.toNat, by omega⟩
  have hI : I < n := by omega
  rcases hS with ⟨rfl, rfl, rfl⟩ | ⟨a, rfl, -, -, -, hP⟩
  · omega
  have hX : ∀ j, j < n → -281474976710656 ≤ X j ∧ X j ≤ 281474976710656 := fun j hj => by have := (pn_iff _ _).1 (nrs_yes hN hj); omega
  have hY : ∀ j, j < n → -281474976710656 ≤ Y j ∧ Y j ≤ 281474976710656 := fun j hj => by have := (pn_iff _ _).1 (nrs_yes hN hj); omega
  obtain ⟨⟨vx0, ox0⟩, vx1, ox1⟩ := ends X n I hI hX
  obtain ⟨⟨vy0, oy0⟩, vy1, oy1⟩ := ends Y n I hI hY
  have hblk := hP.block (by omega)
  have k2 := fun (b : Nat) (o : Bool) (W : World) (h : On b o w W) => cAt a n c I X Y 4294967296 b o W h3 h4 (by omega) (by omega) (by decide) (by decide) hN (hP.later h.below) (by have := h.hb; omega) h.cb h.fb
  have k3 := fun (b : Nat) (o : Bool) (W : World) (h : On b o w W) => cAt a n c I X Y 0 b o W h3 h4 (by omega) (by omega) (by decide) (by decide) hN (hP.later h.below) (by have := h.hb; omega) h.cb h.fb
  have k4 := fun (b : Nat) (o : Bool) (W : World) => cFAbs 0 b o W (by decide) (by decide)
  simp only [pc_nat I n hI, vx0, vx1, vy0, vy1, ox0, ox1, oy0, oy1, Bool.not_true, Bool.or_false] at k2 k3
  rw [show sat ((0 : Int).natAbs : Int) = 0 from rfl, show fx ((0 : Int).natAbs : Int) = true from rfl] at k4
  simp only [Bool.not_true, Bool.or_false] at k4
  have k5 : ∀ (b : Nat) (o : Bool) (W : World), W.cell? ⟨b, 0, none⟩ = some (.bool o) → W.frozen? ⟨b, 0, none⟩ = false → Calls Try.prog 24 #[.pointer (some ⟨b, 0, none⟩), .int .i64 (IntKind.i64.wrap 0)] W fun e w' => e = .returned (.int .i64 0) ∧ Mv b o W w' := fun b o W h1 h2 => k4 b o W h1 h2
  clear k4
  have hm9 : (I + 1) % n < n := Nat.mod_lt _ (by omega)
  have hp0 := fun (W : World) (h : Pt a n X Y W) => h I hI
  have hp1 := fun (W : World) (h : Pt a n X Y W) => h ((I + 1) % n) hm9
  have bx0 := hX I hI; have by0 := hY I hI; have bx1 := hX _ hm9; have by1 := hY _ hm9
  have e7 : ((I : Int) + 1).tmod (n : Int) = (((I + 1) % n : Nat) : Int) := by rw [Int.tmod_eq_emod_of_nonneg (by omega), Int.natCast_emod]; congr 1
  have e8 : ((I : Int) + 1) % (n : Int) = (((I + 1) % n : Nat) : Int) := by rw [Int.natCast_emod]; congr 1
  have nz : ¬ n = 0 := by omega
  clear vx0 vx1 vy0 vy1 ox0 ox1 oy0 oy1 hX hY hN
  generalize (I + 1) % n = J at *
  generalize X I = x0 at *
  generalize Y I = y0 at *
  generalize X J = x1 at *
  generalize Y J = y1 at *
  go_enter Try.func8, Try.ntmps8
  go_wp2_with (fail)
  (go_at_call 9; (with_reducible refine (k1 _ (by (repeat (first | with_reducible assumption | with_reducible exact Below.refl _ _ | ((with_reducible refine Below.setCell ?_ ?_ _); rotate_left; (first | exact Nat.le_refl _ | (dsimp only; omega) | (simp; done) | (simp; omega))) | with_reducible refine below_alloc ?_ _ | with_reducible apply below_drewN | with_reducible apply Below.drew | with_reducible refine below_step ?_ (by assumption))))).mono ?_); rintro e wr ⟨rfl, hM⟩)
  have HT : On wr.heap.size false w (wr.alloc (.cells #[.bool false] 26)) := ⟨by (repeat (first | with_reducible assumption | with_reducible exact Below.refl _ _ | ((with_reducible refine Below.setCell ?_ ?_ _); rotate_left; (first | exact Nat.le_refl _ | (dsimp only; omega) | (simp; done) | (simp; omega))) | with_reducible refine below_alloc ?_ _ | with_reducible apply below_drewN | with_reducible apply Below.drew | with_reducible refine below_step ?_ (by assumption))), by simp [go_sem], by simp [go_sem], hM.size⟩
  clear k1
  have hzr := hM.size
  clear hM
  go_wp2_with (fail)
  (go_at_call 11; (with_reducible refine (On.callS (by (repeat (first | with_reducible assumption | with_reducible apply On.alloc | with_reducible apply On.drew | ((with_reducible apply On.after); rotate_left; (with_reducible assumption)) | ((with_reducible apply On.setCell); rotate_left; (first | (dsimp only; omega) | omega | (simp; omega)); (first | (dsimp only; omega) | omega | (simp; omega)); (first | (dsimp only; omega) | omega | (simp; omega)))))) (k2 _ _ _)).mono ?_); rintro e w1 ⟨rfl, hM, HT⟩)
  have hz1 := lt_of_cell HT.cb
  have hPw := hP.later HT.below
  obtain ⟨c0, c1⟩ := hp1 _ hPw
  clear hPw k2 hM
  go_upto_region 6 with (fail)
  clear c0 c1 e7 e8
  generalize hW : World.alloc _ _ = W2
  have E : Bk w1.heap.size 0 [.int .i64 x1, .int .i64 y1] W2 := by rw [← hW]; simp [Bk, go_sem]
  have Q : Bk (w1.heap.size + 1) 0 [.int .i64 x1, .int .i64 y1] W2 := by rw [← hW]; simp [Bk, go_sem]
  have HT : On wr.heap.size false w W2 := by rw [← hW]; exact (HT.alloc _).alloc _
  clear hW
  have C_E := E; simp only [Bk] at C_E
  have C_Q := Q; simp only [Bk] at C_Q
  have hz2 := World.block_lt_of_cell? W2 _ C_Q.1
  dsimp only at hz2
  obtain ⟨c0, c1⟩ := hp0 _ (hP.later HT.below)
  have hcb := HT.cb
  clear hP hp0 hp1
  (try refine wp_region_noPanic ?_)
  refine wp_region_held_drew (S := (fun (w' : World) => w'.cell? (a.add (I * 2)) = some (.int .i64 x0) ∧ w'.cell? ⟨(a.add (I * 2)).block, (a.add (I * 2)).off + 1, none⟩ = some (.int .i64 y0) ∧ w'.cell? ⟨w1.heap.size, 0, none⟩ = some (.int .i64 x1) ∧ w'.cell? ⟨w1.heap.size, 1, none⟩ = some (.int .i64 y1) ∧ w'.cell? ⟨w1.heap.size + 1, 0, none⟩ = some (.int .i64 x1) ∧ w'.cell? ⟨w1.heap.size + 1, 1, none⟩ = some (.int .i64 y1) ∧ w'.cell? ⟨wr.heap.size, 0, none⟩ = some (.bool false))) (by kernel_rfl) ⟨(by first | (simp (maxDischargeDepth := 6) [go_sem, *]; done)), (by first | (simp (maxDischargeDepth := 6) [go_sem, *]; done)), (by first | (simp (maxDischargeDepth := 6) [go_sem, *]; done)), (by first | (simp (maxDischargeDepth := 6) [go_sem, *]; done)), (by first | (simp (maxDischargeDepth := 6) [go_sem, *]; done)), (by first | (simp (maxDischargeDepth := 6) [go_sem, *]; done)), (by first | (simp (maxDischargeDepth := 6) [go_sem, *]; done))⟩ (fun hHeld => ?_)
  refine wpAnyH_take (i := 0) (v := ?_) (by simp only [List.getElem?_toArray, List.getElem?_cons_succ, List.getElem?_cons_zero]; rfl) (by kernel_rfl) (by kernel_rfl) (by kernel_rfl) (fun _ _ _ h => h) (Or.inl ⟨by rfl, ?_⟩) (by assumption) ?_
  rotate_left
  · intro w hSw; (try dsimp only at hSw); go_simp; try with_reducible rfl
  try simp only [Act.put, List.setIfInBounds_toArray, List.set_cons_zero, List.set_cons_succ]
  refine wpAnyH_take (i := 1) (v := ?_) (by simp only [List.getElem?_toArray, List.getElem?_cons_succ, List.getElem?_cons_zero]; rfl) (by kernel_rfl) (by kernel_rfl) (by kernel_rfl) (fun _ _ _ h => h) (Or.inl ⟨by rfl, ?_⟩) (by assumption) ?_
  rotate_left
  · intro w hSw; (try dsimp only at hSw); go_simp; try with_reducible rfl
  try simp only [Act.put, List.setIfInBounds_toArray, List.set_cons_zero, List.set_cons_succ]
  refine wpAnyH_take (i := 2) (v := ?_) (by simp only [List.getElem?_toArray, List.getElem?_cons_succ, List.getElem?_cons_zero]; rfl) (by kernel_rfl) (by kernel_rfl) (by kernel_rfl) (fun _ _ _ h => h) (Or.inl ⟨by rfl, ?_⟩) (by assumption) ?_
  rotate_left
  · intro w hSw; (try dsimp only at hSw); go_simp; try with_reducible rfl
  try simp only [Act.put, List.setIfInBounds_toArray, List.set_cons_zero, List.set_cons_succ]
  refine wpAnyH_take (i := 4) (v := ?_) (by simp only [List.getElem?_toArray, List.getElem?_cons_succ, List.getElem?_cons_zero]; rfl) (by kernel_rfl) (by kernel_rfl) (by kernel_rfl) (fun _ _ _ h => h) (Or.inl ⟨by rfl, ?_⟩) (by assumption) ?_
  rotate_left
  · intro w hSw; (try dsimp only at hSw); go_simp; try with_reducible rfl
  try simp only [Act.put, List.setIfInBounds_toArray, List.set_cons_zero, List.set_cons_succ]
  refine wpAnyH_take (i := 5) (v := ?_) (by simp only [List.getElem?_toArray, List.getElem?_cons_succ, List.getElem?_cons_zero]; rfl) (by kernel_rfl) (by kernel_rfl) (by kernel_rfl) (fun _ _ _ h => h) (Or.inl ⟨by rfl, ?_⟩) (by assumption) ?_
  rotate_left
  · intro w hSw; (try dsimp only at hSw); go_simp; try with_reducible rfl
  try simp only [Act.put, List.setIfInBounds_toArray, List.set_cons_zero, List.set_cons_succ]
  refine wpAnyH_take (i := 6) (v := ?_) (by simp only [List.getElem?_toArray, List.getElem?_cons_succ, List.getElem?_cons_zero]; rfl) (by kernel_rfl) (by kernel_rfl) (by kernel_rfl) (fun _ _ _ h => h) (Or.inl ⟨by rfl, ?_⟩) (by assumption) ?_
  rotate_left
  · intro w hSw; (try dsimp only at hSw); go_simp; try with_reducible rfl
  try simp only [Act.put, List.setIfInBounds_toArray, List.set_cons_zero, List.set_cons_succ]
  refine wpAnyH_take (i := 7) (v := ?_) (by simp only [List.getElem?_toArray, List.getElem?_cons_succ, List.getElem?_cons_zero]; rfl) (by kernel_rfl) (by kernel_rfl) (by kernel_rfl) (fun _ _ _ h => h) (Or.inl ⟨by rfl, ?_⟩) (by assumption) ?_
  rotate_left
  · intro w hSw; (try dsimp only at hSw); go_simp; try with_reducible rfl
  try simp only [Act.put, List.setIfInBounds_toArray, List.set_cons_zero, List.set_cons_succ]
  refine wpAnyH_ready (rs := [3]) (by kernel_rfl) (by simp) ?_
  refine AllReadyH.cons rfl (fun K hK => ?_) AllReadyH.nil
  have hOld := hHeld; clear hHeld
  go_simp
  (go_at_call 11; (with_reducible refine (On.callS (by (repeat (first | with_reducible assumption | with_reducible apply On.alloc | with_reducible apply On.drew | ((with_reducible apply On.after); rotate_left; (with_reducible assumption)) | ((with_reducible apply On.setCell); rotate_left; (first | (dsimp only; omega) | omega | (simp; omega)); (first | (dsimp only; omega) | omega | (simp; omega)); (first | (dsimp only; omega) | omega | (simp; omega)))))) (k3 _ _ _)).mono ?_); rintro e w3 ⟨rfl, hM, HT⟩; have hr1 := mv_cell hM (show (a.add (I * 2)).block ≠ wr.heap.size by rw [add_block]; omega) hOld.1; have hr2 := mv_cell (a := ⟨(a.add (I * 2)).block, (a.add (I * 2)).off + 1, none⟩) hM (show (a.add (I * 2)).block ≠ wr.heap.size by rw [add_block]; omega) hOld.2.1)
  (try go_wp2_with (fail))
  refine hK.out _ _ ⟨(by first | exact mv_cell hM (by first | (dsimp only; omega) | (simp; omega)) hOld.1 | exact cell_later hM hOld.1 | exact HT.cb | exact HT.cc | (simp (maxDischargeDepth := 6) [go_sem, *]; done)), (by first | exact mv_cell hM (by first | (dsimp only; omega) | (simp; omega)) hOld.2.1 | exact cell_later hM hOld.2.1 | exact HT.cb | exact HT.cc | (simp (maxDischargeDepth := 6) [go_sem, *]; done)), (by first | exact mv_cell hM (by first | (dsimp only; omega) | (simp; omega)) hOld.2.2.1 | exact cell_later hM hOld.2.2.1 | exact HT.cb | exact HT.cc | (simp (maxDischargeDepth := 6) [go_sem, *]; done)), (by first | exact mv_cell hM (by first | (dsimp only; omega) | (simp; omega)) hOld.2.2.2.1 | exact cell_later hM hOld.2.2.2.1 | exact HT.cb | exact HT.cc | (simp (maxDischargeDepth := 6) [go_sem, *]; done)), (by first | exact mv_cell hM (by first | (dsimp only; omega) | (simp; omega)) hOld.2.2.2.2.1 | exact cell_later hM hOld.2.2.2.2.1 | exact HT.cb | exact HT.cc | (simp (maxDischargeDepth := 6) [go_sem, *]; done)), (by first | exact mv_cell hM (by first | (dsimp only; omega) | (simp; omega)) hOld.2.2.2.2.2.1 | exact cell_later hM hOld.2.2.2.2.2.1 | exact HT.cb | exact HT.cc | (simp (maxDischargeDepth := 6) [go_sem, *]; done)), (by first | exact mv_cell hM (by first | (dsimp only; omega) | (simp; omega)) hOld.2.2.2.2.2.2 | exact cell_later hM hOld.2.2.2.2.2.2 | exact HT.cb | exact HT.cc | (simp (maxDischargeDepth := 6) [go_sem, *]; done))⟩ (fun hHeld => ?_)
  clear hK K hOld
  try simp only [Act.put, List.setIfInBounds_toArray, List.set_cons_zero, List.set_cons_succ]
  refine wpAnyH_take (i := 8) (v := ?_) (by simp only [List.getElem?_toArray, List.getElem?_cons_succ, List.getElem?_cons_zero]; rfl) (by kernel_rfl) (by kernel_rfl) (by kernel_rfl) (fun _ _ _ h => h) (Or.inl ⟨by rfl, ?_⟩) (by assumption) ?_
  rotate_left
  · intro w hSw; (try dsimp only at hSw); go_simp; try with_reducible rfl
  try simp only [Act.put, List.setIfInBounds_toArray, List.set_cons_zero, List.set_cons_succ]
  refine wpAnyH_take (i := 9) (v := ?_) (by simp only [List.getElem?_toArray, List.getElem?_cons_succ, List.getElem?_cons_zero]; rfl) (by kernel_rfl) (by kernel_rfl) (by kernel_rfl) (fun _ _ _ h => h) (Or.inl ⟨by rfl, ?_⟩) (by assumption) ?_
  rotate_left
  · intro w hSw; (try dsimp only at hSw); go_simp; try with_reducible rfl
  try simp only [Act.put, List.setIfInBounds_toArray, List.set_cons_zero, List.set_cons_succ]
  refine wpAnyH_take (i := 10) (v := ?_) (by simp only [List.getElem?_toArray, List.getElem?_cons_succ, List.getElem?_cons_zero]; rfl) (by kernel_rfl) (by kernel_rfl) (by kernel_rfl) (fun _ _ _ h => h) (Or.inl ⟨by rfl, ?_⟩) (by assumption) ?_
  rotate_left
  · intro w hSw; (try dsimp only at hSw); go_simp; try with_reducible rfl
  try simp only [Act.put, List.setIfInBounds_toArray, List.set_cons_zero, List.set_cons_succ]
  refine wpAnyH_take (i := 11) (v := ?_) (by simp only [List.getElem?_toArray, List.getElem?_cons_succ, List.getElem?_cons_zero]; rfl) (by kernel_rfl) (by kernel_rfl) (by kernel_rfl) (fun _ _ _ h => h) (Or.inl ⟨by rfl, ?_⟩) (by assumption) ?_
  rotate_left
  · intro w hSw; (try dsimp only at hSw); go_simp; try with_reducible rfl
  try simp only [Act.put, List.setIfInBounds_toArray, List.set_cons_zero, List.set_cons_succ]
  refine wpAnyH_take (i := 13) (v := ?_) (by simp only [List.getElem?_toArray, List.getElem?_cons_succ, List.getElem?_cons_zero]; rfl) (by kernel_rfl) (by kernel_rfl) (by kernel_rfl) (fun _ _ _ h => h) (Or.inl ⟨by rfl, ?_⟩) (by assumption) ?_
  rotate_left
  · intro w hSw; (try dsimp only at hSw); go_simp; try with_reducible rfl
  try simp only [Act.put, List.setIfInBounds_toArray, List.set_cons_zero, List.set_cons_succ]
  refine wpAnyH_take (i := 12) (v := ?_) (by simp only [List.getElem?_toArray, List.getElem?_cons_succ, List.getElem?_cons_zero]; rfl) (by kernel_rfl) (by kernel_rfl) (by kernel_rfl) (fun _ _ _ h => h) (Or.inl ⟨by rfl, ?_⟩) (by assumption) ?_
  rotate_left
  · intro w hSw; (try dsimp only at hSw); go_simp; try with_reducible rfl
  try simp only [Act.put, List.setIfInBounds_toArray, List.set_cons_zero, List.set_cons_succ]
  refine wpAnyH_take (i := 14) (v := ?_) (by simp only [List.getElem?_toArray, List.getElem?_cons_succ, List.getElem?_cons_zero]; rfl) (by kernel_rfl) (by kernel_rfl) (by kernel_rfl) (fun _ _ _ h => h) (Or.inl ⟨by rfl, ?_⟩) (by assumption) ?_
  rotate_left
  · intro w hSw; (try dsimp only at hSw); go_simp; try with_reducible rfl
  try simp only [Act.put, List.setIfInBounds_toArray, List.set_cons_zero, List.set_cons_succ]
  refine wpAnyH_take (i := 15) (v := ?_) (by simp only [List.getElem?_toArray, List.getElem?_cons_succ, List.getElem?_cons_zero]; rfl) (by kernel_rfl) (by kernel_rfl) (by kernel_rfl) (fun _ _ _ h => h) (Or.inl ⟨by rfl, ?_⟩) (by assumption) ?_
  rotate_left
  · intro w hSw; (try dsimp only at hSw); go_simp; try with_reducible rfl
  try simp only [Act.put, List.setIfInBounds_toArray, List.set_cons_zero, List.set_cons_succ]
  refine wpAnyH_ready (rs := [16]) (by kernel_rfl) (by simp) ?_
  refine AllReadyH.cons rfl (fun K hK => ?_) AllReadyH.nil
  have hOld := hHeld; clear hHeld
  go_simp
  (go_at_call 24; (with_reducible refine (On.callS (by (repeat (first | with_reducible assumption | with_reducible apply On.alloc | with_reducible apply On.drew | ((with_reducible apply On.after); rotate_left; (with_reducible assumption)) | ((with_reducible apply On.setCell); rotate_left; (first | (dsimp only; omega) | omega | (simp; omega)); (first | (dsimp only; omega) | omega | (simp; omega)); (first | (dsimp only; omega) | omega | (simp; omega)))))) (fun h => k5 _ _ _ h.cb h.fb)).mono ?_); rintro e w4 ⟨rfl, hM, HT⟩; have hr1 := mv_cell hM (show (a.add (I * 2)).block ≠ wr.heap.size by rw [add_block]; omega) hOld.1; have hr2 := mv_cell (a := ⟨(a.add (I * 2)).block, (a.add (I * 2)).off + 1, none⟩) hM (show (a.add (I * 2)).block ≠ wr.heap.size by rw [add_block]; omega) hOld.2.1)
  (try go_wp2_with (fail))
  refine hK.out _ _ ⟨(by first | exact mv_cell hM (by first | (dsimp only; omega) | (simp; omega)) hOld.1 | exact cell_later hM hOld.1 | exact HT.cb | exact HT.cc | (simp (maxDischargeDepth := 6) [go_sem, *]; done)), (by first | exact mv_cell hM (by first | (dsimp only; omega) | (simp; omega)) hOld.2.1 | exact cell_later hM hOld.2.1 | exact HT.cb | exact HT.cc | (simp (maxDischargeDepth := 6) [go_sem, *]; done)), (by first | exact mv_cell hM (by first | (dsimp only; omega) | (simp; omega)) hOld.2.2.1 | exact cell_later hM hOld.2.2.1 | exact HT.cb | exact HT.cc | (simp (maxDischargeDepth := 6) [go_sem, *]; done)), (by first | exact mv_cell hM (by first | (dsimp only; omega) | (simp; omega)) hOld.2.2.2.1 | exact cell_later hM hOld.2.2.2.1 | exact HT.cb | exact HT.cc | (simp (maxDischargeDepth := 6) [go_sem, *]; done)), (by first | exact mv_cell hM (by first | (dsimp only; omega) | (simp; omega)) hOld.2.2.2.2.1 | exact cell_later hM hOld.2.2.2.2.1 | exact HT.cb | exact HT.cc | (simp (maxDischargeDepth := 6) [go_sem, *]; done)), (by first | exact mv_cell hM (by first | (dsimp only; omega) | (simp; omega)) hOld.2.2.2.2.2.1 | exact cell_later hM hOld.2.2.2.2.2.1 | exact HT.cb | exact HT.cc | (simp (maxDischargeDepth := 6) [go_sem, *]; done)), (by first | exact mv_cell hM (by first | (dsimp only; omega) | (simp; omega)) hOld.2.2.2.2.2.2 | exact cell_later hM hOld.2.2.2.2.2.2 | exact HT.cb | exact HT.cc | (simp (maxDischargeDepth := 6) [go_sem, *]; done))⟩ (fun hHeld => ?_)
  clear hK K hOld
  try simp only [Act.put, List.setIfInBounds_toArray, List.set_cons_zero, List.set_cons_succ]
  refine wpAnyH_take (i := 17) (v := ?_) (by simp only [List.getElem?_toArray, List.getElem?_cons_succ, List.getElem?_cons_zero]; rfl) (by kernel_rfl) (by kernel_rfl) (by kernel_rfl) (fun _ _ _ h => h) (Or.inl ⟨by rfl, ?_⟩) (by assumption) ?_
  rotate_left
  · intro w hSw; (try dsimp only at hSw); go_simp; try with_reducible rfl
  try simp only [Act.put, List.setIfInBounds_toArray, List.set_cons_zero, List.set_cons_succ]
  refine wpAnyH_take (i := 18) (v := ?_) (by simp only [List.getElem?_toArray, List.getElem?_cons_succ, List.getElem?_cons_zero]; rfl) (by kernel_rfl) (by kernel_rfl) (by kernel_rfl) (fun _ _ _ h => h) (Or.inl ⟨by rfl, ?_⟩) (by assumption) ?_
  rotate_left
  · intro w hSw; (try dsimp only at hSw); go_simp; try with_reducible rfl
  try simp only [Act.put, List.setIfInBounds_toArray, List.set_cons_zero, List.set_cons_succ]
  refine wpAnyH_take (i := 19) (v := ?_) (by simp only [List.getElem?_toArray, List.getElem?_cons_succ, List.getElem?_cons_zero]; rfl) (by kernel_rfl) (by kernel_rfl) (by kernel_rfl) (fun _ _ _ h => h) (Or.inl ⟨by rfl, ?_⟩) (by assumption) ?_
  rotate_left
  · intro w hSw; (try dsimp only at hSw); go_simp; try with_reducible rfl
  try simp only [Act.put, List.setIfInBounds_toArray, List.set_cons_zero, List.set_cons_succ]
  refine wpAnyH_take (i := 20) (v := ?_) (by simp only [List.getElem?_toArray, List.getElem?_cons_succ, List.getElem?_cons_zero]; rfl) (by kernel_rfl) (by kernel_rfl) (by kernel_rfl) (fun _ _ _ h => h) (Or.inl ⟨by rfl, ?_⟩) (by assumption) ?_
  rotate_left
  · intro w hSw; (try dsimp only at hSw); go_simp; try with_reducible rfl
  try simp only [Act.put, List.setIfInBounds_toArray, List.set_cons_zero, List.set_cons_succ]
  refine wpAnyH_take (i := 21) (v := ?_) (by simp only [List.getElem?_toArray, List.getElem?_cons_succ, List.getElem?_cons_zero]; rfl) (by kernel_rfl) (by kernel_rfl) (by kernel_rfl) (fun _ _ _ h => h) (Or.inl ⟨by rfl, ?_⟩) (by assumption) ?_
  rotate_left
  · intro w hSw; (try dsimp only at hSw); go_simp; try with_reducible rfl
  try simp only [Act.put, List.setIfInBounds_toArray, List.set_cons_zero, List.set_cons_succ]
  refine wpAnyH_take (i := 23) (v := ?_) (by simp only [List.getElem?_toArray, List.getElem?_cons_succ, List.getElem?_cons_zero]; rfl) (by kernel_rfl) (by kernel_rfl) (by kernel_rfl) (fun _ _ _ h => h) (Or.inl ⟨by rfl, ?_⟩) (by assumption) ?_
  rotate_left
  · intro w hSw; (try dsimp only at hSw); go_simp; try with_reducible rfl
  try simp only [Act.put, List.setIfInBounds_toArray, List.set_cons_zero, List.set_cons_succ]
  refine wpAnyH_take (i := 22) (v := ?_) (by simp only [List.getElem?_toArray, List.getElem?_cons_succ, List.getElem?_cons_zero]; rfl) (by kernel_rfl) (by kernel_rfl) (by kernel_rfl) (fun _ _ _ h => h) (Or.inl ⟨by rfl, ?_⟩) (by assumption) ?_
  rotate_left
  · intro w hSw; (try dsimp only at hSw); go_simp; try with_reducible rfl
  try simp only [Act.put, List.setIfInBounds_toArray, List.set_cons_zero, List.set_cons_succ]
  refine wpAnyH_take (i := 24) (v := ?_) (by simp only [List.getElem?_toArray, List.getElem?_cons_succ, List.getElem?_cons_zero]; rfl) (by kernel_rfl) (by kernel_rfl) (by kernel_rfl) (fun _ _ _ h => h) (Or.inl ⟨by rfl, ?_⟩) (by assumption) ?_
  rotate_left
  · intro w hSw; (try dsimp only at hSw); go_simp; try with_reducible rfl
  try simp only [Act.put, List.setIfInBounds_toArray, List.set_cons_zero, List.set_cons_succ]
  refine wpAnyH_take (i := 25) (v := ?_) (by simp only [List.getElem?_toArray, List.getElem?_cons_succ, List.getElem?_cons_zero]; rfl) (by kernel_rfl) (by kernel_rfl) (by kernel_rfl) (fun _ _ _ h => h) (Or.inl ⟨by rfl, ?_⟩) (by assumption) ?_
  rotate_left
  · intro w hSw; (try dsimp only at hSw); go_simp; try with_reducible rfl
  try simp only [Act.put, List.setIfInBounds_toArray, List.set_cons_zero, List.set_cons_succ]
  refine wpAnyH_ready (rs := [26]) (by kernel_rfl) (by simp) ?_
  refine AllReadyH.cons rfl (fun K hK => ?_) AllReadyH.nil
  have hOld := hHeld; clear hHeld
  go_simp
  (go_at_call 24; (with_reducible refine (On.callS (by (repeat (first | with_reducible assumption | with_reducible apply On.alloc | with_reducible apply On.drew | ((with_reducible apply On.after); rotate_left; (with_reducible assumption)) | ((with_reducible apply On.setCell); rotate_left; (first | (dsimp only; omega) | omega | (simp; omega)); (first | (dsimp only; omega) | omega | (simp; omega)); (first | (dsimp only; omega) | omega | (simp; omega)))))) (fun h => k5 _ _ _ h.cb h.fb)).mono ?_); rintro e w5 ⟨rfl, hM, HT⟩; have hr1 := mv_cell hM (show (a.add (I * 2)).block ≠ wr.heap.size by rw [add_block]; omega) hOld.1; have hr2 := mv_cell (a := ⟨(a.add (I * 2)).block, (a.add (I * 2)).off + 1, none⟩) hM (show (a.add (I * 2)).block ≠ wr.heap.size by rw [add_block]; omega) hOld.2.1)
  (try go_wp2_with (fail))
  refine hK.out _ _ ⟨(by first | exact mv_cell hM (by first | (dsimp only; omega) | (simp; omega)) hOld.1 | exact cell_later hM hOld.1 | exact HT.cb | exact HT.cc | (simp (maxDischargeDepth := 6) [go_sem, *]; done)), (by first | exact mv_cell hM (by first | (dsimp only; omega) | (simp; omega)) hOld.2.1 | exact cell_later hM hOld.2.1 | exact HT.cb | exact HT.cc | (simp (maxDischargeDepth := 6) [go_sem, *]; done)), (by first | exact mv_cell hM (by first | (dsimp only; omega) | (simp; omega)) hOld.2.2.1 | exact cell_later hM hOld.2.2.1 | exact HT.cb | exact HT.cc | (simp (maxDischargeDepth := 6) [go_sem, *]; done)), (by first | exact mv_cell hM (by first | (dsimp only; omega) | (simp; omega)) hOld.2.2.2.1 | exact cell_later hM hOld.2.2.2.1 | exact HT.cb | exact HT.cc | (simp (maxDischargeDepth := 6) [go_sem, *]; done)), (by first | exact mv_cell hM (by first | (dsimp only; omega) | (simp; omega)) hOld.2.2.2.2.1 | exact cell_later hM hOld.2.2.2.2.1 | exact HT.cb | exact HT.cc | (simp (maxDischargeDepth := 6) [go_sem, *]; done)), (by first | exact mv_cell hM (by first | (dsimp only; omega) | (simp; omega)) hOld.2.2.2.2.2.1 | exact cell_later hM hOld.2.2.2.2.2.1 | exact HT.cb | exact HT.cc | (simp (maxDischargeDepth := 6) [go_sem, *]; done)), (by first | exact mv_cell hM (by first | (dsimp only; omega) | (simp; omega)) hOld.2.2.2.2.2.2 | exact cell_later hM hOld.2.2.2.2.2.2 | exact HT.cb | exact HT.cc | (simp (maxDischargeDepth := 6) [go_sem, *]; done))⟩ (fun hHeld => ?_)
  clear hK K hOld
  try simp only [Act.put, List.setIfInBounds_toArray, List.set_cons_zero, List.set_cons_succ]
  refine wpAnyH_take (i := 27) (v := ?_) (by simp only [List.getElem?_toArray, List.getElem?_cons_succ, List.getElem?_cons_zero]; rfl) (by kernel_rfl) (by kernel_rfl) (by kernel_rfl) (fun _ _ _ h => h) (Or.inl ⟨by rfl, ?_⟩) (by assumption) ?_
  rotate_left
  · intro w hSw; (try dsimp only at hSw); go_simp; try with_reducible rfl
  try simp only [Act.put, List.setIfInBounds_toArray, List.set_cons_zero, List.set_cons_succ]
  refine wpAnyH_take (i := 28) (v := ?_) (by simp only [List.getElem?_toArray, List.getElem?_cons_succ, List.getElem?_cons_zero]; rfl) (by kernel_rfl) (by kernel_rfl) (by kernel_rfl) (fun _ _ _ h => h) (Or.inl ⟨by rfl, ?_⟩) (by assumption) ?_
  rotate_left
  · intro w hSw; (try dsimp only at hSw); go_simp; try with_reducible rfl
  try simp only [Act.put, List.setIfInBounds_toArray, List.set_cons_zero, List.set_cons_succ]
  refine wpAnyH_take (i := 29) (v := ?_) (by simp only [List.getElem?_toArray, List.getElem?_cons_succ, List.getElem?_cons_zero]; rfl) (by kernel_rfl) (by kernel_rfl) (by kernel_rfl) (fun _ _ _ h => h) (Or.inl ⟨by rfl, ?_⟩) (by assumption) ?_
  rotate_left
  · intro w hSw; (try dsimp only at hSw); go_simp; try with_reducible rfl
  try simp only [Act.put, List.setIfInBounds_toArray, List.set_cons_zero, List.set_cons_succ]
  refine wpAnyH_take (i := 30) (v := ?_) (by simp only [List.getElem?_toArray, List.getElem?_cons_succ, List.getElem?_cons_zero]; rfl) (by kernel_rfl) (by kernel_rfl) (by kernel_rfl) (fun _ _ _ h => h) (Or.inl ⟨by rfl, ?_⟩) (by assumption) ?_
  rotate_left
  · intro w hSw; (try dsimp only at hSw); go_simp; try with_reducible rfl
  try simp only [Act.put, List.setIfInBounds_toArray, List.set_cons_zero, List.set_cons_succ]
  refine wpAnyH_take (i := 31) (v := ?_) (by simp only [List.getElem?_toArray, List.getElem?_cons_succ, List.getElem?_cons_zero]; rfl) (by kernel_rfl) (by kernel_rfl) (by kernel_rfl) (fun _ _ _ h => h) (Or.inl ⟨by rfl, ?_⟩) (by assumption) ?_
  rotate_left
  · intro w hSw; (try dsimp only at hSw); go_simp; try with_reducible rfl
  try simp only [Act.put, List.setIfInBounds_toArray, List.set_cons_zero, List.set_cons_succ]
  refine wpAnyH_take (i := 32) (v := ?_) (by simp only [List.getElem?_toArray, List.getElem?_cons_succ, List.getElem?_cons_zero]; rfl) (by kernel_rfl) (by kernel_rfl) (by kernel_rfl) (fun _ _ _ h => h) (Or.inl ⟨by rfl, ?_⟩) (by assumption) ?_
  rotate_left
  · intro w hSw; (try dsimp only at hSw); go_simp; try with_reducible rfl
  try simp only [Act.put, List.setIfInBounds_toArray, List.set_cons_zero, List.set_cons_succ]
  refine wpAnyH_take (i := 33) (v := ?_) (by simp only [List.getElem?_toArray, List.getElem?_cons_succ, List.getElem?_cons_zero]; rfl) (by kernel_rfl) (by kernel_rfl) (by kernel_rfl) (fun _ _ _ h => h) (Or.inl ⟨by rfl, ?_⟩) (by assumption) ?_
  rotate_left
  · intro w hSw; (try dsimp only at hSw); go_simp; try with_reducible rfl
  try simp only [Act.put, List.setIfInBounds_toArray, List.set_cons_zero, List.set_cons_succ]
  refine wpAnyH_take (i := 34) (v := ?_) (by simp only [List.getElem?_toArray, List.getElem?_cons_succ, List.getElem?_cons_zero]; rfl) (by kernel_rfl) (by kernel_rfl) (by kernel_rfl) (fun _ _ _ h => h) (Or.inl ⟨by rfl, ?_⟩) (by assumption) ?_
  rotate_left
  · intro w hSw; (try dsimp only at hSw); go_simp; try with_reducible rfl
  try simp only [Act.put, List.setIfInBounds_toArray, List.set_cons_zero, List.set_cons_succ]
  refine wpAnyH_take (i := 35) (v := ?_) (by simp only [List.getElem?_toArray, List.getElem?_cons_succ, List.getElem?_cons_zero]; rfl) (by kernel_rfl) (by kernel_rfl) (by kernel_rfl) (fun _ _ _ h => h) (Or.inl ⟨by rfl, ?_⟩) (by assumption) ?_
  rotate_left
  · intro w hSw; (try dsimp only at hSw); go_simp; try with_reducible rfl
  try simp only [Act.put, List.setIfInBounds_toArray, List.set_cons_zero, List.set_cons_succ]
  refine wpAnyH_take (i := 36) (v := ?_) (by simp only [List.getElem?_toArray, List.getElem?_cons_succ, List.getElem?_cons_zero]; rfl) (by kernel_rfl) (by kernel_rfl) (by kernel_rfl) (fun _ _ _ h => h) (Or.inl ⟨by rfl, ?_⟩) (by assumption) ?_
  rotate_left
  · intro w hSw; (try dsimp only at hSw); go_simp; try with_reducible rfl
  try simp only [Act.put, List.setIfInBounds_toArray, List.set_cons_zero, List.set_cons_succ]
  refine wpAnyH_ready (rs := [37]) (by kernel_rfl) (by simp) ?_
  refine AllReadyH.cons rfl (fun K hK => ?_) AllReadyH.nil
  have hOld := hHeld; clear hHeld
  go_simp
  (go_at_call 13; (with_reducible refine (cAwake11 _).mono ?_); rintro e w6 ⟨rfl, hM⟩; have HB := HT.below)
  (try go_wp2_with (fail))
  refine hK.out _ _ ⟨(by first | exact mv_cell hM (by first | (dsimp only; omega) | (simp; omega)) hOld.1 | exact cell_later hM hOld.1 | exact HT.cb | exact HT.cc | (simp (maxDischargeDepth := 6) [go_sem, *]; done)), (by first | exact mv_cell hM (by first | (dsimp only; omega) | (simp; omega)) hOld.2.1 | exact cell_later hM hOld.2.1 | exact HT.cb | exact HT.cc | (simp (maxDischargeDepth := 6) [go_sem, *]; done)), (by first | exact mv_cell hM (by first | (dsimp only; omega) | (simp; omega)) hOld.2.2.1 | exact cell_later hM hOld.2.2.1 | exact HT.cb | exact HT.cc | (simp (maxDischargeDepth := 6) [go_sem, *]; done)), (by first | exact mv_cell hM (by first | (dsimp only; omega) | (simp; omega)) hOld.2.2.2.1 | exact cell_later hM hOld.2.2.2.1 | exact HT.cb | exact HT.cc | (simp (maxDischargeDepth := 6) [go_sem, *]; done)), (by first | exact mv_cell hM (by first | (dsimp only; omega) | (simp; omega)) hOld.2.2.2.2.1 | exact cell_later hM hOld.2.2.2.2.1 | exact HT.cb | exact HT.cc | (simp (maxDischargeDepth := 6) [go_sem, *]; done)), (by first | exact mv_cell hM (by first | (dsimp only; omega) | (simp; omega)) hOld.2.2.2.2.2.1 | exact cell_later hM hOld.2.2.2.2.2.1 | exact HT.cb | exact HT.cc | (simp (maxDischargeDepth := 6) [go_sem, *]; done)), (by first | exact mv_cell hM (by first | (dsimp only; omega) | (simp; omega)) hOld.2.2.2.2.2.2 | exact cell_later hM hOld.2.2.2.2.2.2 | exact HT.cb | exact HT.cc | (simp (maxDischargeDepth := 6) [go_sem, *]; done))⟩ (fun hHeld => ?_)
  clear hK K hOld
  try simp only [Act.put, List.setIfInBounds_toArray, List.set_cons_zero, List.set_cons_succ]
  refine wpAnyH_take (i := 38) (v := ?_) (by simp only [List.getElem?_toArray, List.getElem?_cons_succ, List.getElem?_cons_zero]; rfl) (by kernel_rfl) (by kernel_rfl) (by kernel_rfl) (fun _ _ _ h => h) (Or.inl ⟨by rfl, ?_⟩) (by assumption) ?_
  rotate_left
  · intro w hSw; (try dsimp only at hSw); go_simp; try with_reducible rfl
  try simp only [Act.put, List.setIfInBounds_toArray, List.set_cons_zero, List.set_cons_succ]
  refine wpAnyH_take (i := 39) (v := ?_) (by simp only [List.getElem?_toArray, List.getElem?_cons_succ, List.getElem?_cons_zero]; rfl) (by kernel_rfl) (by kernel_rfl) (by kernel_rfl) (fun _ _ _ h => h) (Or.inl ⟨by rfl, ?_⟩) (by assumption) ?_
  rotate_left
  · intro w hSw; (try dsimp only at hSw); go_simp; try with_reducible rfl
  try simp only [Act.put, List.setIfInBounds_toArray, List.set_cons_zero, List.set_cons_succ]
  refine wpAnyH_done (by kernel_rfl) ?_ _
  (try refine NoPanic.normal ?_)
  (try clear q0); (try clear q1); (try clear q2); (try clear q3); (try clear q4); (try clear q5); (try clear q6); obtain ⟨q0, q1, q2, q3, q4, q5, q6⟩ := hHeld
  go_wp2
  go_ret
  exact ⟨rfl, by first | exact below_step HB hM | (repeat (first | with_reducible assumption | with_reducible exact Below.refl _ _ | ((with_reducible refine Below.setCell ?_ ?_ _); rotate_left; (first | exact Nat.le_refl _ | (dsimp only; omega) | (simp; done) | (simp; omega))) | with_reducible refine below_alloc ?_ _ | with_reducible apply below_drewN | with_reducible apply Below.drew | with_reducible refine below_step ?_ (by assumption)))⟩
end Go.Proofs.Ythieinnlpfdemaa
