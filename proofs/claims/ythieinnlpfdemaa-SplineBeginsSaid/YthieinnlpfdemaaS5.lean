/- A line's samples: the program's and the document's. -/
import Derived.Test.YthieinnlpfdemaaS4
import Derived.OwnWalk
import Derived.Laws.AppendOwn
import Derived.Laws.MakeOwn
import Derived.Laws.OwnMore
set_option linter.unusedSimpArgs false
set_option linter.unusedVariables false
namespace Go.Proofs.Ythieinnlpfdemaa
open Go.RowKit
theorem Mv.grownBy {b : Nat} {o : Bool} {w w1 : World} (h : Mv b o w w1) : w.grownBy w1 (some b) :=
  ⟨h.os, h.tape, h.output, h.size, fun k hk hne => h.other k hk (fun e => hne (by rw [e]))⟩
theorem own_mv {b : Nat} {o : Bool} {W w1 : World} {base : Nat} {e : TypeId} {sz : Nat} {v : Value} {n : Nat} {xs : List Value} (h : W.ownsRow base e sz v n xs) (hM : Mv b o W w1) (hb : b < base) : w1.ownsRow base e sz v n xs := by
  refine h.kept hM.grownBy ?_
  cases hv : v.ownBlock with
  | none => exact Or.inl rfl
  | some g => exact Or.inr (fun e => by have := (h.lt g hv).1; injection e with e; omega)
theorem Mv.grown {b : Nat} {o : Bool} {w W w1 : World} {row : Option Nat} (h : Mv b o w W) (hg : W.grownBy w1 row) (hrow : ∀ k, row = some k → w.heap.size ≤ k) (hb : b < w.heap.size) : Mv b o w w1 := by
  have hne : ∀ k, k < w.heap.size → some k ≠ row := fun k hk e => by have := hrow k e.symm; omega
  have hbW := lt_of_cell h.cell
  have e := hg.block b hbW (hne b hb)
  exact ⟨hg.os.trans h.os, hg.tape.trans h.tape, hg.output.trans h.output, Nat.le_trans h.size hg.size, by rw [World.cell?_of_block (w := W) e]; exact h.cell, by rw [World.frozen?_of_block (w := W) e]; exact h.free,
    fun k hk hkb => (hg.block k (Nat.lt_of_lt_of_le hk h.size) (hne k hk)).trans (h.other k hk hkb)⟩
/-- The numbers of samples. -/
def SV (V : Nat → Int) (n j : Nat) : Int := pvx V n (j / 8) (((j % 8 : Nat) : Int) * 536870912)
def SO (X Y : Nat → Int) (n j : Nat) : Bool := pox X n (j / 8) (((j % 8 : Nat) : Int) * 536870912) && pox Y n (j / 8) (((j % 8 : Nat) : Int) * 536870912)
def smok (X Y : Nat → Int) (n : Nat) : Nat → Bool
  | 0 => true
  | m + 1 => smok X Y n m && SO X Y n m
/-- Places, as cells. -/
def pvs (X Y : Nat → Int) : Nat → List Value
  | 0 => []
  | m + 1 => pvs X Y m ++ [.int .i64 (X m), .int .i64 (Y m)]
theorem pvs_len (X Y : Nat → Int) (m : Nat) : (pvs X Y m).length = m * 2 := by
  induction m with
  | zero => rfl
  | succ m ih => rw [pvs, List.length_append, ih]; simp; omega
theorem pvs_get (X Y : Nat → Int) (m j : Nat) (hj : j < m) : (pvs X Y m)[j * 2]? = some (.int .i64 (X j)) ∧ (pvs X Y m)[j * 2 + 1]? = some (.int .i64 (Y j)) := by
  induction m with
  | zero => omega
  | succ m ih =>
    rw [pvs]
    have hl := pvs_len X Y m
    by_cases h : j < m
    · rw [List.getElem?_append_left (by omega), List.getElem?_append_left (by omega)]; exact ih h
    · obtain rfl : j = m := by omega
      rw [List.getElem?_append_right (by omega), List.getElem?_append_right (by omega), hl]
      exact ⟨by rw [show j * 2 - j * 2 = 0 by omega]; rfl, by rw [show j * 2 + 1 - j * 2 = 1 by omega]; rfl⟩
theorem Pt.own {W : World} {base : Nat} {e : TypeId} {v : Value} {m : Nat} {X Y : Nat → Int} (h : W.ownsRow base e 2 v m (pvs X Y m)) (hm : 0 < m) : ∃ g cap : Nat, v = .slice (some ⟨g, 0, none⟩) m cap ∧ base ≤ g ∧ Pt ⟨g, 0, none⟩ m X Y W := by
  rcases h.2 with ⟨_, h0⟩ | ⟨g, cap, cur, hv, hb, _⟩
  · omega
  · subst hv
    refine ⟨g, cap, rfl, hb, fun j hj => ?_⟩
    obtain ⟨h1, h2⟩ := pvs_get X Y m j hj
    have e : (⟨g, 0, none⟩ : Addr).add (j * 2) = ⟨g, j * 2, none⟩ := by
      rw [show Addr.add ⟨g, 0, none⟩ (j * 2) = ⟨g, 0 + j * 2, none⟩ by cases h : j * 2 <;> rfl]; rw [Nat.zero_add]
    rw [e]
    exact ⟨by rw [h.cellAt (j * 2) (by omega)]; exact h1, by rw [h.cellAt (j * 2 + 1) (by omega)]; exact h2⟩
theorem cell_two_at (w : World) (t : TypeId) (u v : Value) : ∀ j x, ([u, v] : List Value)[j]? = some x → (w.alloc (.cells #[u, v] t)).cell? ((⟨w.heap.size, 0, none⟩ : Addr).add j) = some x := by
  intro j x hx
  rcases j with _ | _ | j
  · cases hx; simp [Addr.add, go_sem]
  · cases hx; simp [Addr.add, go_sem]
  · simp at hx
theorem infoV : (Try.prog.info? 32).map (fun i => (i.zero, i.size, i.bytes)) = some (some (.agg #[.int .i64 0, .int .i64 0]), 2, 16) := by kernel_rfl
theorem smok_o (o a b c : Bool) : (o || !a || !b || !c) = (o || !(a && (b && c))) := by cases o <;> cases a <;> cases b <;> cases c <;> rfl
theorem pc_nat (j n : Nat) (h : j < n) : pc (j : Int) n = j := by unfold pc; rw [Int.emod_eq_of_lt (by omega) (by omega)]; rfl
set_option maxHeartbeats 8000000 in
theorem rSamples (a : Addr) (n c : Nat) (X Y : Nat → Int) (b : Nat) (o : Bool) (w : World) (hn : 3 ≤ n) (hn2 : n ≤ 64) (hN : nrs X Y n = true) (hP : Pt a n X Y w) (hab : a.block ≠ b) (hc : w.cell? ⟨b, 0, none⟩ = some (.bool o)) (hf : w.frozen? ⟨b, 0, none⟩ = false) :
    Calls Try.prog 16 #[.pointer (some ⟨b, 0, none⟩), .slice (some a) n c] w fun e w' => ∃ g cap : Nat, e = .returned (.slice (some ⟨g, 0, none⟩) (8 * n) cap) ∧ w.heap.size ≤ g ∧ Pt ⟨g, 0, none⟩ (8 * n) (SV X n) (SV Y n) w' ∧ Mv b (o || !smok X Y n (8 * n)) w w' := by
  have hb := lt_of_cell hc
  have HM := Mv.refl hc hf
  clear hc hf
  obtain ⟨i0, hi, hz0, hz1, hz2⟩ := info_parts infoV
  have hinf := Lib.hid (And.intro hi (And.intro hz0 (And.intro hz1 hz2)))
  clear hi hz0 hz1 hz2
  have k1 : Calls Try.prog 10 #[.slice (some a) n c] w fun e w' => e = .returned (.int .i64 0) ∧ Below w.heap.size w w' := by
    have h := rRightY a n c X Y w hn hn2 hP
    rw [hN, if_pos rfl] at h; exact h
  have hblk := hP.block (by omega)
  have kA : ∀ (I K : Nat) (O : Bool) (W : World), I < n → K < 8 → Mv b O w W → Calls Try.prog 12 #[.pointer (some ⟨b, 0, none⟩), .slice (some a) n c, .int .i64 (I : Int), .int .i64 ((K : Int) * 536870912)] W fun e w' => e = .returned (.agg #[.int .i64 (SV X n (8 * I + K)), .int .i64 (SV Y n (8 * I + K))]) ∧ Mv b (O || !pox X n I ((K : Int) * 536870912) || !pox Y n I ((K : Int) * 536870912)) W w' := by
    intro I K O W hI hK HM
    have h := rAt a n c I X Y ((K : Int) * 536870912) b O W hn hn2 (by omega) (by omega) (by omega) (by omega) hN (hP.mv HM hab) hab HM.cell HM.free
    rw [pc_nat I n hI] at h
    unfold SV
    rw [show (8 * I + K) / 8 = I by omega, show (8 * I + K) % 8 = K by omega]
    exact h
  have HKA := Lib.hid kA
  clear kA hN
  go_enter Try.func16, Try.ntmps16
  go_wp2_with (go_at_call 10; (with_reducible refine k1.mono ?_); rintro e wr ⟨rfl, hM⟩)
  have HM : Mv b o w wr := by (repeat (first | with_reducible assumption | with_reducible exact Mv.refl (by assumption) (by assumption) | with_reducible apply Mv.alloc | with_reducible apply Mv.drew | with_reducible apply Mv.drewN | ((with_reducible apply Mv.setCell); rotate_left; (first | (dsimp only; omega) | omega | (simp; omega)); (first | (dsimp only; omega) | omega | (simp; omega))) | ((with_reducible apply Mv.below); rotate_left; (with_reducible assumption)) | ((with_reducible apply Mv.trans); rotate_left; (with_reducible assumption))))
  clear hM k1 hP
  go_loopw [5, 6] (fun s i wx => ∃ I : Nat, i = .int .i64 I ∧ I ≤ n ∧ wx.ownsRow w.heap.size 32 2 s (8 * I) (pvs (SV X n) (SV Y n) (8 * I)) ∧ Mv b (o || !smok X Y n (8 * I)) w wx) (fun _ i _ => 64 - (RowKit.intOf i).toNat)
  case atStart => exact ⟨0, rfl, by omega, World.ownsRow_nil _ _ _ _, Mv.cast HM (by simp [smok])⟩
  case round =>
    obtain ⟨I, rfl, hI, hown, HM⟩ := hrel
    by_cases hlt : I < n
    · rename_i s _ _
      go_wp2_with (fail)
      go_loopw [5, 7] (fun s i wx => ∃ K : Nat, i = .int .i64 K ∧ K ≤ 8 ∧ wx.ownsRow w.heap.size 32 2 s (8 * I + K) (pvs (SV X n) (SV Y n) (8 * I + K)) ∧ Mv b (o || !smok X Y n (8 * I + K)) w wx) (fun _ i _ => 8 - (RowKit.intOf i).toNat)
      case atStart => exact ⟨0, rfl, by omega, by rw [Nat.add_zero]; exact hown, HM⟩
      case round =>
        obtain ⟨K, rfl, hK, hown, HM⟩ := hrel
        by_cases hlk : K < 8
        · rename_i s _ _
          go_wp2_with (fail)
          ((with_reducible refine (HKA.out I K _ _ hlt hlk HM).mono ?_); rintro e w1 ⟨rfl, hM⟩)
          have hown2 := own_mv hown hM hb
          have HM3 := HM.trans hM
          have hz9 := HM3.size
          have hlt9 := hown2.lt
          clear hM hown HM
          obtain ⟨hi, hz0, hz1, hz2⟩ := hinf.out
          go_wp2_with ((at_builtin; refine wpList_append_own _ rfl _ _ 22 rfl w.heap.size 32 i0 (.agg #[.int .i64 0, .int .i64 0]) 2 16 Try.underlying22 hi hz0 hz1 hz2 rfl (by decide) _ _ _ rfl (hown2.alloc _) ⟨w1.heap.size, 0, none⟩ 1 1 [.int .i64 (SV X n (8 * I + K)), .int .i64 (SV Y n (8 * I + K))] rfl rfl (cell_two_at _ _ _ _) (fun x hx => by simp at hx; rcases hx with rfl | rfl <;> rfl) (by unfold maxLen; omega) (by omega) (by simp; omega) ?_; intro v' w3 hown' hgrow hnil))
          refine ⟨⟨K + 1, by go_num, by omega, hown', ?_⟩, by simp [RowKit.intOf]; omega⟩
          refine Mv.cast (Mv.grown (Mv.alloc HM3 _) hgrow (fun k hk => (hlt9 k hk).1) hb) ?_
          rw [show 8 * I + (K + 1) = (8 * I + K) + 1 by omega, smok, SO, show (8 * I + K) / 8 = I by omega, show (8 * I + K) % 8 = K by omega, smok_o]
        · obtain rfl : K = 8 := by omega
          go_wp2_with (fail)
          exact ⟨⟨I + 1, by go_num, by omega, hown, HM⟩, by simp [RowKit.intOf]; omega⟩
    · obtain rfl : I = n := by omega
      obtain ⟨g, cap, rfl, hg, hPt⟩ := Pt.own hown (by omega)
      go_wp2
      go_ret
      exact ⟨g, cap, rfl, hg, hPt, HM⟩
set_option maxHeartbeats 8000000 in
set_option maxRecDepth 20000 in
theorem cSamples (a : Addr) (n c : Nat) (X Y : Nat → Int) (b : Nat) (o : Bool) (w : World) (hn : 3 ≤ n) (hn2 : n ≤ 64) (hN : nrs X Y n = true) (hP : Pt a n X Y w) (hab : a.block ≠ b) (hc : w.cell? ⟨b, 0, none⟩ = some (.bool o)) (hf : w.frozen? ⟨b, 0, none⟩ = false) :
    Calls Try.prog 15 #[.pointer (some ⟨b, 0, none⟩), .slice (some a) n c] w fun e w' => ∃ g cap : Nat, e = .returned (.slice (some ⟨g, 0, none⟩) (8 * n) cap) ∧ w.heap.size ≤ g ∧ Pt ⟨g, 0, none⟩ (8 * n) (SV X n) (SV Y n) w' ∧ Mv b (o || !smok X Y n (8 * n)) w w' := by
  have hb := lt_of_cell hc
  have HM := Mv.refl hc hf
  clear hc hf
  obtain ⟨i0, hi, hz0, hz1, hz2⟩ := info_parts infoV
  have hinf := Lib.hid (And.intro hi (And.intro hz0 (And.intro hz1 hz2)))
  clear hi hz0 hz1 hz2
  have k1 : Calls Try.prog 9 #[.slice (some a) n c] w fun e w' => e = .returned (.int .i64 0) ∧ Below w.heap.size w w' := by
    have h := cRightY a n c X Y w hn hn2 hP
    rw [hN, if_pos rfl] at h; exact h
  have hblk := hP.block (by omega)
  have kA : ∀ (I K : Nat) (O : Bool) (W : World), I < n → K < 8 → Mv b O w W → Calls Try.prog 11 #[.pointer (some ⟨b, 0, none⟩), .slice (some a) n c, .int .i64 (I : Int), .int .i64 ((K : Int) * 536870912)] W fun e w' => e = .returned (.agg #[.int .i64 (SV X n (8 * I + K)), .int .i64 (SV Y n (8 * I + K))]) ∧ Mv b (O || !pox X n I ((K : Int) * 536870912) || !pox Y n I ((K : Int) * 536870912)) W w' := by
    intro I K O W hI hK HM
    have h := cAt a n c I X Y ((K : Int) * 536870912) b O W hn hn2 (by omega) (by omega) (by omega) (by omega) hN (hP.mv HM hab) hab HM.cell HM.free
    rw [pc_nat I n hI] at h
    unfold SV
    rw [show (8 * I + K) / 8 = I by omega, show (8 * I + K) % 8 = K by omega]
    exact h
  have HKA := Lib.hid kA
  clear kA hN
  go_enter Try.func15, Try.ntmps15
  go_wp2_with (go_at_call 9; (with_reducible refine k1.mono ?_); rintro e wr ⟨rfl, hM⟩)
  have HM : Mv b o w wr := by (repeat (first | with_reducible assumption | with_reducible exact Mv.refl (by assumption) (by assumption) | with_reducible apply Mv.alloc | with_reducible apply Mv.drew | with_reducible apply Mv.drewN | ((with_reducible apply Mv.setCell); rotate_left; (first | (dsimp only; omega) | omega | (simp; omega)); (first | (dsimp only; omega) | omega | (simp; omega))) | ((with_reducible apply Mv.below); rotate_left; (with_reducible assumption)) | ((with_reducible apply Mv.trans); rotate_left; (with_reducible assumption))))
  clear hM k1 hP
  have hr0 : ∃ w', (Instr.makeSlice 22 (.int .i64 0) (.int .i64 (8 * (n : Int)))).run Try.prog wr = .ok (.slice (some ⟨wr.heap.size, 0, none⟩) 0 (8 * n)) w' ∧ w'.ownsRow w.heap.size 32 2 (.slice (some ⟨wr.heap.size, 0, none⟩) 0 (8 * n)) 0 [] ∧ wr.grownBy w' none := by
    obtain ⟨hi, hz0, hz1, hz2⟩ := hinf.out
    have h := run_make_own wr w.heap.size 22 32 i0 (.agg #[.int .i64 0, .int .i64 0]) 2 Try.underlying22 hi hz0 hz1 .i64 .i64 (8 * n) (by rw [hz2]; omega) (by unfold maxLen; omega) HM.size
    exact h
  obtain ⟨wm, hr, hown, hg⟩ := hr0
  have HM2 : Mv b o w wm := Mv.grown HM hg (fun k hk => by cases hk) hb
  have hn64 : (n : Int) ≤ 64 := by omega
  go_wp2_with (fail)
  rw [hr]
  clear hr
  go_wp2_with (fail)
  have HM := HM2
  go_loopw [5, 17] (fun s i wx => ∃ I : Nat, i = .int .i64 I ∧ I ≤ n ∧ wx.ownsRow w.heap.size 32 2 s (8 * I) (pvs (SV X n) (SV Y n) (8 * I)) ∧ Mv b (o || !smok X Y n (8 * I)) w wx) (fun _ i _ => 64 - (RowKit.intOf i).toNat)
  case atStart => exact ⟨0, rfl, by omega, hown, Mv.cast HM (by simp [smok])⟩
  case round =>
    obtain ⟨I, rfl, hI, hown, HM⟩ := hrel
    by_cases hlt : I < n
    · rename_i s _ _
      go_wp2_with (fail)
      go_loopw [5, 20] (fun s i wx => ∃ K : Nat, i = .int .i64 K ∧ K ≤ 8 ∧ wx.ownsRow w.heap.size 32 2 s (8 * I + K) (pvs (SV X n) (SV Y n) (8 * I + K)) ∧ Mv b (o || !smok X Y n (8 * I + K)) w wx) (fun _ i _ => 8 - (RowKit.intOf i).toNat)
      case atStart => exact ⟨0, rfl, by omega, by rw [Nat.add_zero]; exact hown, HM⟩
      case round =>
        obtain ⟨K, rfl, hK, hown, HM⟩ := hrel
        by_cases hlk : K < 8
        · rename_i s _ _
          go_wp2_with (fail)
          ((with_reducible refine (HKA.out I K _ _ hlt hlk HM).mono ?_); rintro e w1 ⟨rfl, hM⟩)
          have hown2 := own_mv hown hM hb
          have HM3 := HM.trans hM
          have hz9 := HM3.size
          have hlt9 := hown2.lt
          clear hM hown HM
          obtain ⟨hi, hz0, hz1, hz2⟩ := hinf.out
          go_wp2_with ((at_builtin; refine wpList_append_own _ rfl _ _ 22 rfl w.heap.size 32 i0 (.agg #[.int .i64 0, .int .i64 0]) 2 16 Try.underlying22 hi hz0 hz1 hz2 rfl (by decide) _ _ _ rfl (hown2.alloc _) ⟨w1.heap.size, 0, none⟩ 1 1 [.int .i64 (SV X n (8 * I + K)), .int .i64 (SV Y n (8 * I + K))] rfl rfl (cell_two_at _ _ _ _) (fun x hx => by simp at hx; rcases hx with rfl | rfl <;> rfl) (by unfold maxLen; omega) (by omega) (by simp; omega) ?_; intro v' w3 hown' hgrow hnil))
          refine ⟨⟨K + 1, by go_num, by omega, hown', ?_⟩, by simp [RowKit.intOf]; omega⟩
          refine Mv.cast (Mv.grown (Mv.alloc HM3 _) hgrow (fun k hk => (hlt9 k hk).1) hb) ?_
          rw [show 8 * I + (K + 1) = (8 * I + K) + 1 by omega, smok, SO, show (8 * I + K) / 8 = I by omega, show (8 * I + K) % 8 = K by omega, smok_o]
        · obtain rfl : K = 8 := by omega
          go_wp2_with (fail)
          exact ⟨⟨I + 1, by go_num, by omega, hown, HM⟩, by simp [RowKit.intOf]; omega⟩
    · obtain rfl : I = n := by omega
      obtain ⟨g, cap, rfl, hg, hPt⟩ := Pt.own hown (by omega)
      go_wp2
      go_ret
      exact ⟨g, cap, rfl, hg, hPt, HM⟩
end Go.Proofs.Ythieinnlpfdemaa
