/- Contracts of attitudes' products, and of the document's. -/
import Derived.Test.YtjpkkpflamkjkaaV2
import Derived.Test.YtjpkkpflamkjkaaM2
import Derived.Test.YtjpkkpflamkjkaaW3
import Derived.Deep.LoopGhost
set_option linter.unusedSimpArgs false
set_option linter.unusedVariables false
namespace Go.Proofs.Ytjpkkpflamkjkaa
open Go.RowKit
/-- A product as a reckoner keeps it. -/
def ml (a b : Int) : Int := sat (rsh (a * b))
def mlok (a b : Int) : Bool := fx (rsh (a * b))
theorem ml_lo (a b : Int) : -9223372036854775808 ≤ ml a b := sat_lo _
theorem ml_hi (a b : Int) : ml a b ≤ 9223372036854775807 := sat_hi _
/-- More, or less. -/
def ad (l : Bool) (x y : Int) : Int := if l = true then x - y else x + y
def s4 (p0 p1 p2 p3 : Int) (l1 l2 l3 : Bool) : Int := sat (ad l3 (sat (ad l2 (sat (ad l1 p0 p1)) p2)) p3)
def ok4 (p0 p1 p2 p3 : Int) (l1 l2 l3 : Bool) : Bool := fx (ad l1 p0 p1) && fx (ad l2 (sat (ad l1 p0 p1)) p2) && fx (ad l3 (sat (ad l2 (sat (ad l1 p0 p1)) p2)) p3)
theorem ad_bd (l : Bool) (x y : Int) (x0 : -9223372036854775808 ≤ x) (x1 : x ≤ 9223372036854775807) (y0 : -9223372036854775808 ≤ y) (y1 : y ≤ 9223372036854775807) : -18446744073709551616 ≤ ad l x y ∧ ad l x y ≤ 18446744073709551616 := by
  unfold ad; split <;> omega
theorem cMl (x y : Int) (b : Nat) (o : Bool) (w : World) (x_0 : -9223372036854775808 ≤ x) (x_1 : x ≤ 9223372036854775807) (y_0 : -9223372036854775808 ≤ y) (y_1 : y ≤ 9223372036854775807) (hc : w.cell? ⟨b, 0, none⟩ = some (.bool o)) (hf : w.frozen? ⟨b, 0, none⟩ = false) :
    Calls Try.prog 33 #[.pointer (some ⟨b, 0, none⟩), .int .i64 x, .int .i64 y] w fun e w' => e = .returned (.int .i64 (ml x y)) ∧ Mv b (o || !mlok x y) w w' := cFMul x y b o w x_0 x_1 y_0 y_1 hc hf
theorem rMl (x y : Int) (b : Nat) (o : Bool) (w : World) (x_0 : -9223372036854775808 ≤ x) (x_1 : x ≤ 9223372036854775807) (y_0 : -9223372036854775808 ≤ y) (y_1 : y ≤ 9223372036854775807) (hc : w.cell? ⟨b, 0, none⟩ = some (.bool o)) (hf : w.frozen? ⟨b, 0, none⟩ = false) :
    Calls Try.prog 36 #[.pointer (some ⟨b, 0, none⟩), .int .i64 x, .int .i64 y] w fun e w' => e = .returned (.int .i64 (ml x y)) ∧ Mv b (o || !mlok x y) w w' := rFMul x y b o w x_0 x_1 y_0 y_1 hc hf
set_option maxHeartbeats 8000000 in
theorem cSum (a0 b0 a1 b1 a2 b2 a3 b3 : Int) (l0 l1 l2 l3 : Bool) (gt b : Nat) (o : Bool) (w : World) (a0_0 : -9223372036854775808 ≤ a0) (a0_1 : a0 ≤ 9223372036854775807) (b0_0 : -9223372036854775808 ≤ b0) (b0_1 : b0 ≤ 9223372036854775807) (a1_0 : -9223372036854775808 ≤ a1) (a1_1 : a1 ≤ 9223372036854775807) (b1_0 : -9223372036854775808 ≤ b1) (b1_1 : b1 ≤ 9223372036854775807) (a2_0 : -9223372036854775808 ≤ a2) (a2_1 : a2 ≤ 9223372036854775807) (b2_0 : -9223372036854775808 ≤ b2) (b2_1 : b2 ≤ 9223372036854775807) (a3_0 : -9223372036854775808 ≤ a3) (a3_1 : a3 ≤ 9223372036854775807) (b3_0 : -9223372036854775808 ≤ b3) (b3_1 : b3 ≤ 9223372036854775807)
    (hg : Bk gt 0 [.int .i64 a0, .int .i64 b0, .bool l0, .int .i64 a1, .int .i64 b1, .bool l1, .int .i64 a2, .int .i64 b2, .bool l2, .int .i64 a3, .int .i64 b3, .bool l3] w) (hne : gt ≠ b) (hc : w.cell? ⟨b, 0, none⟩ = some (.bool o)) (hf : w.frozen? ⟨b, 0, none⟩ = false) :
    Calls Try.prog 44 #[.pointer (some ⟨b, 0, none⟩), .slice (some ⟨gt, 0, none⟩) 4 4] w fun e w' =>
      e = .returned (.int .i64 (s4 (ml a0 b0) (ml a1 b1) (ml a2 b2) (ml a3 b3) l1 l2 l3)) ∧ Mv b (o || !mlok a0 b0 || !mlok a1 b1 || !mlok a2 b2 || !mlok a3 b3 || !ok4 (ml a0 b0) (ml a1 b1) (ml a2 b2) (ml a3 b3) l1 l2 l3) w w' := by
  have hb := lt_of_cell hc
  have HM := Mv.refl hc hf
  clear hc hf
  have k0 := fun O W => cMl a0 b0 b O W a0_0 a0_1 b0_0 b0_1
  have k1 := fun O W => cMl a1 b1 b O W a1_0 a1_1 b1_0 b1_1
  have k2 := fun O W => cMl a2 b2 b O W a2_0 a2_1 b2_0 b2_1
  have k3 := fun O W => cMl a3 b3 b O W a3_0 a3_1 b3_0 b3_1
  unfold s4 ok4
  have p0_0 := ml_lo a0 b0; have p0_1 := ml_hi a0 b0
  have p1_0 := ml_lo a1 b1; have p1_1 := ml_hi a1 b1
  have p2_0 := ml_lo a2 b2; have p2_1 := ml_hi a2 b2
  have p3_0 := ml_lo a3 b3; have p3_1 := ml_hi a3 b3
  generalize ml a0 b0 = p0 at *
  generalize mlok a0 b0 = f0 at *
  generalize ml a1 b1 = p1 at *
  generalize mlok a1 b1 = f1 at *
  generalize ml a2 b2 = p2 at *
  generalize mlok a2 b2 = f2 at *
  generalize ml a3 b3 = p3 at *
  generalize mlok a3 b3 = f3 at *
  have d1 := ad_bd l1 p0 p1 (by omega) (by omega) (by omega) (by omega)
  have n1_0 := sat_lo (ad l1 p0 p1); have n1_1 := sat_hi (ad l1 p0 p1)
  have n2_0 := sat_lo (ad l2 (sat (ad l1 p0 p1)) p2); have n2_1 := sat_hi (ad l2 (sat (ad l1 p0 p1)) p2)
  have kA1 := fun (h : l1 = false) O W => by
    have k := cFAdd p0 p1 b O W (by omega) (by omega) (by omega) (by omega)
    rw [show p0 + p1 = ad l1 p0 p1 by subst h; rfl] at k
    exact k
  have kS1 := fun (h : l1 = true) O W => by
    have k := cFSub p0 p1 b O W (by omega) (by omega) (by omega) (by omega)
    rw [show p0 - p1 = ad l1 p0 p1 by subst h; rfl] at k
    exact k
  have kA2 := fun (h : l2 = false) O W => by
    have k := cFAdd (sat (ad l1 p0 p1)) p2 b O W (by omega) (by omega) (by omega) (by omega)
    rw [show (sat (ad l1 p0 p1)) + p2 = ad l2 (sat (ad l1 p0 p1)) p2 by subst h; rfl] at k
    exact k
  have kS2 := fun (h : l2 = true) O W => by
    have k := cFSub (sat (ad l1 p0 p1)) p2 b O W (by omega) (by omega) (by omega) (by omega)
    rw [show (sat (ad l1 p0 p1)) - p2 = ad l2 (sat (ad l1 p0 p1)) p2 by subst h; rfl] at k
    exact k
  have kA3 := fun (h : l3 = false) O W => by
    have k := cFAdd (sat (ad l2 (sat (ad l1 p0 p1)) p2)) p3 b O W (by omega) (by omega) (by omega) (by omega)
    rw [show (sat (ad l2 (sat (ad l1 p0 p1)) p2)) + p3 = ad l3 (sat (ad l2 (sat (ad l1 p0 p1)) p2)) p3 by subst h; rfl] at k
    exact k
  have kS3 := fun (h : l3 = true) O W => by
    have k := cFSub (sat (ad l2 (sat (ad l1 p0 p1)) p2)) p3 b O W (by omega) (by omega) (by omega) (by omega)
    rw [show (sat (ad l2 (sat (ad l1 p0 p1)) p2)) - p3 = ad l3 (sat (ad l2 (sat (ad l1 p0 p1)) p2)) p3 by subst h; rfl] at k
    exact k
  generalize fx (ad l3 (sat (ad l2 (sat (ad l1 p0 p1)) p2)) p3) = g3 at *
  generalize sat (ad l3 (sat (ad l2 (sat (ad l1 p0 p1)) p2)) p3) = n3 at *
  generalize fx (ad l2 (sat (ad l1 p0 p1)) p2) = g2 at *
  generalize sat (ad l2 (sat (ad l1 p0 p1)) p2) = n2 at *
  generalize fx (ad l1 p0 p1) = g1 at *
  generalize sat (ad l1 p0 p1) = n1 at *
  clear d1
  have hgt : gt < w.heap.size := World.block_lt_of_cell? w _ hg.1
  go_enter Try.func44, Try.ntmps44
  go_wp2
  go_loopw [5, 11] (fun n i wr => Bk gt 0 [.int .i64 a0, .int .i64 b0, .bool l0, .int .i64 a1, .int .i64 b1, .bool l1, .int .i64 a2, .int .i64 b2, .bool l2, .int .i64 a3, .int .i64 b3, .bool l3] wr ∧
    ((i = .int .i64 0 ∧ n = .int .i64 0 ∧ Mv b o w wr) ∨ (i = .int .i64 1 ∧ n = .int .i64 p0 ∧ Mv b (o || !f0) w wr) ∨ (i = .int .i64 2 ∧ n = .int .i64 n1 ∧ Mv b (o || !f0 || !f1 || !g1) w wr) ∨ (i = .int .i64 3 ∧ n = .int .i64 n2 ∧ Mv b (o || !f0 || !f1 || !g1 || !f2 || !g2) w wr) ∨ (i = .int .i64 4 ∧ n = .int .i64 n3 ∧ Mv b (o || !f0 || !f1 || !g1 || !f2 || !g2 || !f3 || !g3) w wr))) (fun _ i _ => (4 - RowKit.intOf i).toNat)
  case atStart => exact ⟨hg, Or.inl ⟨rfl, rfl, HM⟩⟩
  case round =>
    clear hg HM
    obtain ⟨G, ⟨rfl, rfl, HM⟩ | ⟨rfl, rfl, HM⟩ | ⟨rfl, rfl, HM⟩ | ⟨rfl, rfl, HM⟩ | ⟨rfl, rfl, HM⟩⟩ := hrel
    all_goals have C_G := G
    all_goals simp only [Bk] at C_G
    all_goals have hgr := World.block_lt_of_cell? _ _ G.1
    · rename World => wr
      have hbr := lt_of_cell HM.cell
      go_wp2_with (fail)
      (go_at_call 33; (with_reducible refine (mvCall (b := b) (w0 := w) (by (repeat (first | with_reducible assumption | with_reducible exact Mv.refl (by assumption) (by assumption) | with_reducible apply Mv.alloc | with_reducible apply Mv.drew | with_reducible apply Mv.drewN | ((with_reducible apply Mv.setCell); rotate_left; (first | (dsimp only; omega) | omega | (simp; omega)); (first | (dsimp only; omega) | omega | (simp; omega))) | ((with_reducible apply Mv.below); rotate_left; (with_reducible assumption)) | ((with_reducible apply Mv.trans); rotate_left; (with_reducible assumption))))) (k0 _ _)).mono ?_); rintro e9 w1 ⟨rfl, hM, HM⟩; (first | have G := Bk.mv hM (by omega) G | have G := Bk.mv hM (by omega) (Bk.drew G) | have G := Bk.mv hM (by omega) (Bk.alloc G _) | have G := Bk.mv hM (by omega) (Bk.alloc (Bk.alloc G _) _)); have C_G := G; simp only [Bk] at C_G)
      clear hM
      go_wp2
      exact ⟨⟨G, Or.inr (Or.inl ⟨rfl, rfl, HM⟩)⟩, by simp [RowKit.intOf]⟩
    · rename World => wr
      have hbr := lt_of_cell HM.cell
      go_wp2_with (fail)
      (go_at_call 33; (with_reducible refine (mvCall (b := b) (w0 := w) (by (repeat (first | with_reducible assumption | with_reducible exact Mv.refl (by assumption) (by assumption) | with_reducible apply Mv.alloc | with_reducible apply Mv.drew | with_reducible apply Mv.drewN | ((with_reducible apply Mv.setCell); rotate_left; (first | (dsimp only; omega) | omega | (simp; omega)); (first | (dsimp only; omega) | omega | (simp; omega))) | ((with_reducible apply Mv.below); rotate_left; (with_reducible assumption)) | ((with_reducible apply Mv.trans); rotate_left; (with_reducible assumption))))) (k1 _ _)).mono ?_); rintro e9 w1 ⟨rfl, hM, HM⟩; (first | have G := Bk.mv hM (by omega) G | have G := Bk.mv hM (by omega) (Bk.drew G) | have G := Bk.mv hM (by omega) (Bk.alloc G _) | have G := Bk.mv hM (by omega) (Bk.alloc (Bk.alloc G _) _)); have C_G := G; simp only [Bk] at C_G)
      have T : Bk wr.heap.size 0 [.int .i64 a1, .int .i64 b1, .bool l1] w1 := Bk.mv hM (by omega) (by simp [Bk, go_sem, *]; done)
      have C_T := T; simp only [Bk] at C_T
      clear hM
      cases l1 with
      | false =>
        have ka := kA1 rfl
        go_wp2_with ((go_at_call 31; (with_reducible refine (mvCall (b := b) (w0 := w) (by (repeat (first | with_reducible assumption | with_reducible exact Mv.refl (by assumption) (by assumption) | with_reducible apply Mv.alloc | with_reducible apply Mv.drew | with_reducible apply Mv.drewN | ((with_reducible apply Mv.setCell); rotate_left; (first | (dsimp only; omega) | omega | (simp; omega)); (first | (dsimp only; omega) | omega | (simp; omega))) | ((with_reducible apply Mv.below); rotate_left; (with_reducible assumption)) | ((with_reducible apply Mv.trans); rotate_left; (with_reducible assumption))))) (ka _ _)).mono ?_); rintro e9 w1 ⟨rfl, hM, HM⟩; (first | have G := Bk.mv hM (by omega) G | have G := Bk.mv hM (by omega) (Bk.drew G) | have G := Bk.mv hM (by omega) (Bk.alloc G _) | have G := Bk.mv hM (by omega) (Bk.alloc (Bk.alloc G _) _)); have C_G := G; simp only [Bk] at C_G))
        exact ⟨⟨G, Or.inr (Or.inr (Or.inl ⟨rfl, rfl, HM⟩))⟩, by simp [RowKit.intOf]⟩
      | true =>
        have ka := kS1 rfl
        go_wp2_with ((go_at_call 22; (with_reducible refine (mvCall (b := b) (w0 := w) (by (repeat (first | with_reducible assumption | with_reducible exact Mv.refl (by assumption) (by assumption) | with_reducible apply Mv.alloc | with_reducible apply Mv.drew | with_reducible apply Mv.drewN | ((with_reducible apply Mv.setCell); rotate_left; (first | (dsimp only; omega) | omega | (simp; omega)); (first | (dsimp only; omega) | omega | (simp; omega))) | ((with_reducible apply Mv.below); rotate_left; (with_reducible assumption)) | ((with_reducible apply Mv.trans); rotate_left; (with_reducible assumption))))) (ka _ _)).mono ?_); rintro e9 w1 ⟨rfl, hM, HM⟩; (first | have G := Bk.mv hM (by omega) G | have G := Bk.mv hM (by omega) (Bk.drew G) | have G := Bk.mv hM (by omega) (Bk.alloc G _) | have G := Bk.mv hM (by omega) (Bk.alloc (Bk.alloc G _) _)); have C_G := G; simp only [Bk] at C_G))
        exact ⟨⟨G, Or.inr (Or.inr (Or.inl ⟨rfl, rfl, HM⟩))⟩, by simp [RowKit.intOf]⟩
    · rename World => wr
      have hbr := lt_of_cell HM.cell
      go_wp2_with (fail)
      (go_at_call 33; (with_reducible refine (mvCall (b := b) (w0 := w) (by (repeat (first | with_reducible assumption | with_reducible exact Mv.refl (by assumption) (by assumption) | with_reducible apply Mv.alloc | with_reducible apply Mv.drew | with_reducible apply Mv.drewN | ((with_reducible apply Mv.setCell); rotate_left; (first | (dsimp only; omega) | omega | (simp; omega)); (first | (dsimp only; omega) | omega | (simp; omega))) | ((with_reducible apply Mv.below); rotate_left; (with_reducible assumption)) | ((with_reducible apply Mv.trans); rotate_left; (with_reducible assumption))))) (k2 _ _)).mono ?_); rintro e9 w1 ⟨rfl, hM, HM⟩; (first | have G := Bk.mv hM (by omega) G | have G := Bk.mv hM (by omega) (Bk.drew G) | have G := Bk.mv hM (by omega) (Bk.alloc G _) | have G := Bk.mv hM (by omega) (Bk.alloc (Bk.alloc G _) _)); have C_G := G; simp only [Bk] at C_G)
      have T : Bk wr.heap.size 0 [.int .i64 a2, .int .i64 b2, .bool l2] w1 := Bk.mv hM (by omega) (by simp [Bk, go_sem, *]; done)
      have C_T := T; simp only [Bk] at C_T
      clear hM
      cases l2 with
      | false =>
        have ka := kA2 rfl
        go_wp2_with ((go_at_call 31; (with_reducible refine (mvCall (b := b) (w0 := w) (by (repeat (first | with_reducible assumption | with_reducible exact Mv.refl (by assumption) (by assumption) | with_reducible apply Mv.alloc | with_reducible apply Mv.drew | with_reducible apply Mv.drewN | ((with_reducible apply Mv.setCell); rotate_left; (first | (dsimp only; omega) | omega | (simp; omega)); (first | (dsimp only; omega) | omega | (simp; omega))) | ((with_reducible apply Mv.below); rotate_left; (with_reducible assumption)) | ((with_reducible apply Mv.trans); rotate_left; (with_reducible assumption))))) (ka _ _)).mono ?_); rintro e9 w1 ⟨rfl, hM, HM⟩; (first | have G := Bk.mv hM (by omega) G | have G := Bk.mv hM (by omega) (Bk.drew G) | have G := Bk.mv hM (by omega) (Bk.alloc G _) | have G := Bk.mv hM (by omega) (Bk.alloc (Bk.alloc G _) _)); have C_G := G; simp only [Bk] at C_G))
        exact ⟨⟨G, Or.inr (Or.inr (Or.inr (Or.inl ⟨rfl, rfl, HM⟩)))⟩, by simp [RowKit.intOf]⟩
      | true =>
        have ka := kS2 rfl
        go_wp2_with ((go_at_call 22; (with_reducible refine (mvCall (b := b) (w0 := w) (by (repeat (first | with_reducible assumption | with_reducible exact Mv.refl (by assumption) (by assumption) | with_reducible apply Mv.alloc | with_reducible apply Mv.drew | with_reducible apply Mv.drewN | ((with_reducible apply Mv.setCell); rotate_left; (first | (dsimp only; omega) | omega | (simp; omega)); (first | (dsimp only; omega) | omega | (simp; omega))) | ((with_reducible apply Mv.below); rotate_left; (with_reducible assumption)) | ((with_reducible apply Mv.trans); rotate_left; (with_reducible assumption))))) (ka _ _)).mono ?_); rintro e9 w1 ⟨rfl, hM, HM⟩; (first | have G := Bk.mv hM (by omega) G | have G := Bk.mv hM (by omega) (Bk.drew G) | have G := Bk.mv hM (by omega) (Bk.alloc G _) | have G := Bk.mv hM (by omega) (Bk.alloc (Bk.alloc G _) _)); have C_G := G; simp only [Bk] at C_G))
        exact ⟨⟨G, Or.inr (Or.inr (Or.inr (Or.inl ⟨rfl, rfl, HM⟩)))⟩, by simp [RowKit.intOf]⟩
    · rename World => wr
      have hbr := lt_of_cell HM.cell
      go_wp2_with (fail)
      (go_at_call 33; (with_reducible refine (mvCall (b := b) (w0 := w) (by (repeat (first | with_reducible assumption | with_reducible exact Mv.refl (by assumption) (by assumption) | with_reducible apply Mv.alloc | with_reducible apply Mv.drew | with_reducible apply Mv.drewN | ((with_reducible apply Mv.setCell); rotate_left; (first | (dsimp only; omega) | omega | (simp; omega)); (first | (dsimp only; omega) | omega | (simp; omega))) | ((with_reducible apply Mv.below); rotate_left; (with_reducible assumption)) | ((with_reducible apply Mv.trans); rotate_left; (with_reducible assumption))))) (k3 _ _)).mono ?_); rintro e9 w1 ⟨rfl, hM, HM⟩; (first | have G := Bk.mv hM (by omega) G | have G := Bk.mv hM (by omega) (Bk.drew G) | have G := Bk.mv hM (by omega) (Bk.alloc G _) | have G := Bk.mv hM (by omega) (Bk.alloc (Bk.alloc G _) _)); have C_G := G; simp only [Bk] at C_G)
      have T : Bk wr.heap.size 0 [.int .i64 a3, .int .i64 b3, .bool l3] w1 := Bk.mv hM (by omega) (by simp [Bk, go_sem, *]; done)
      have C_T := T; simp only [Bk] at C_T
      clear hM
      cases l3 with
      | false =>
        have ka := kA3 rfl
        go_wp2_with ((go_at_call 31; (with_reducible refine (mvCall (b := b) (w0 := w) (by (repeat (first | with_reducible assumption | with_reducible exact Mv.refl (by assumption) (by assumption) | with_reducible apply Mv.alloc | with_reducible apply Mv.drew | with_reducible apply Mv.drewN | ((with_reducible apply Mv.setCell); rotate_left; (first | (dsimp only; omega) | omega | (simp; omega)); (first | (dsimp only; omega) | omega | (simp; omega))) | ((with_reducible apply Mv.below); rotate_left; (with_reducible assumption)) | ((with_reducible apply Mv.trans); rotate_left; (with_reducible assumption))))) (ka _ _)).mono ?_); rintro e9 w1 ⟨rfl, hM, HM⟩; (first | have G := Bk.mv hM (by omega) G | have G := Bk.mv hM (by omega) (Bk.drew G) | have G := Bk.mv hM (by omega) (Bk.alloc G _) | have G := Bk.mv hM (by omega) (Bk.alloc (Bk.alloc G _) _)); have C_G := G; simp only [Bk] at C_G))
        exact ⟨⟨G, Or.inr (Or.inr (Or.inr (Or.inr (⟨rfl, rfl, HM⟩))))⟩, by simp [RowKit.intOf]⟩
      | true =>
        have ka := kS3 rfl
        go_wp2_with ((go_at_call 22; (with_reducible refine (mvCall (b := b) (w0 := w) (by (repeat (first | with_reducible assumption | with_reducible exact Mv.refl (by assumption) (by assumption) | with_reducible apply Mv.alloc | with_reducible apply Mv.drew | with_reducible apply Mv.drewN | ((with_reducible apply Mv.setCell); rotate_left; (first | (dsimp only; omega) | omega | (simp; omega)); (first | (dsimp only; omega) | omega | (simp; omega))) | ((with_reducible apply Mv.below); rotate_left; (with_reducible assumption)) | ((with_reducible apply Mv.trans); rotate_left; (with_reducible assumption))))) (ka _ _)).mono ?_); rintro e9 w1 ⟨rfl, hM, HM⟩; (first | have G := Bk.mv hM (by omega) G | have G := Bk.mv hM (by omega) (Bk.drew G) | have G := Bk.mv hM (by omega) (Bk.alloc G _) | have G := Bk.mv hM (by omega) (Bk.alloc (Bk.alloc G _) _)); have C_G := G; simp only [Bk] at C_G))
        exact ⟨⟨G, Or.inr (Or.inr (Or.inr (Or.inr (⟨rfl, rfl, HM⟩))))⟩, by simp [RowKit.intOf]⟩
    · go_wp2
      go_ret
      exact ⟨rfl, Mv.cast HM (by cases o <;> cases f0 <;> cases f1 <;> cases f2 <;> cases f3 <;> cases g1 <;> cases g2 <;> cases g3 <;> rfl)⟩
/-- A product of attitudes: its parts, and whether each fits. -/
def qmW (p0 p1 p2 p3 q0 q1 q2 q3 : Int) : Int := s4 (ml p0 q0) (ml p1 q1) (ml p2 q2) (ml p3 q3) true true true
def qkW (p0 p1 p2 p3 q0 q1 q2 q3 : Int) : Bool := mlok p0 q0 && mlok p1 q1 && mlok p2 q2 && mlok p3 q3 && ok4 (ml p0 q0) (ml p1 q1) (ml p2 q2) (ml p3 q3) true true true
def qmX (p0 p1 p2 p3 q0 q1 q2 q3 : Int) : Int := s4 (ml p0 q1) (ml p1 q0) (ml p2 q3) (ml p3 q2) false false true
def qkX (p0 p1 p2 p3 q0 q1 q2 q3 : Int) : Bool := mlok p0 q1 && mlok p1 q0 && mlok p2 q3 && mlok p3 q2 && ok4 (ml p0 q1) (ml p1 q0) (ml p2 q3) (ml p3 q2) false false true
def qmY (p0 p1 p2 p3 q0 q1 q2 q3 : Int) : Int := s4 (ml p0 q2) (ml p1 q3) (ml p2 q0) (ml p3 q1) true false false
def qkY (p0 p1 p2 p3 q0 q1 q2 q3 : Int) : Bool := mlok p0 q2 && mlok p1 q3 && mlok p2 q0 && mlok p3 q1 && ok4 (ml p0 q2) (ml p1 q3) (ml p2 q0) (ml p3 q1) true false false
def qmZ (p0 p1 p2 p3 q0 q1 q2 q3 : Int) : Int := s4 (ml p0 q3) (ml p1 q2) (ml p2 q1) (ml p3 q0) false true false
def qkZ (p0 p1 p2 p3 q0 q1 q2 q3 : Int) : Bool := mlok p0 q3 && mlok p1 q2 && mlok p2 q1 && mlok p3 q0 && ok4 (ml p0 q3) (ml p1 q2) (ml p2 q1) (ml p3 q0) false true false
theorem qmW_bd (p0 p1 p2 p3 q0 q1 q2 q3 : Int) : -9223372036854775808 ≤ qmW p0 p1 p2 p3 q0 q1 q2 q3 ∧ qmW p0 p1 p2 p3 q0 q1 q2 q3 ≤ 9223372036854775807 := ⟨sat_lo _, sat_hi _⟩
theorem qmX_bd (p0 p1 p2 p3 q0 q1 q2 q3 : Int) : -9223372036854775808 ≤ qmX p0 p1 p2 p3 q0 q1 q2 q3 ∧ qmX p0 p1 p2 p3 q0 q1 q2 q3 ≤ 9223372036854775807 := ⟨sat_lo _, sat_hi _⟩
theorem qmY_bd (p0 p1 p2 p3 q0 q1 q2 q3 : Int) : -9223372036854775808 ≤ qmY p0 p1 p2 p3 q0 q1 q2 q3 ∧ qmY p0 p1 p2 p3 q0 q1 q2 q3 ≤ 9223372036854775807 := ⟨sat_lo _, sat_hi _⟩
theorem qmZ_bd (p0 p1 p2 p3 q0 q1 q2 q3 : Int) : -9223372036854775808 ≤ qmZ p0 p1 p2 p3 q0 q1 q2 q3 ∧ qmZ p0 p1 p2 p3 q0 q1 q2 q3 ≤ 9223372036854775807 := ⟨sat_lo _, sat_hi _⟩
end Go.Proofs.Ytjpkkpflamkjkaa
