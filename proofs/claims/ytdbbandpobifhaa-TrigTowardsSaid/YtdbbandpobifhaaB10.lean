/- The contract of the document's part (chapter 1). -/
import Derived.Test.YtdbbandpobifhaaB9
import Derived.Test.YtdbbandpobifhaaB7
set_option linter.unusedSimpArgs false
set_option linter.unusedVariables false
namespace Go.Proofs.Ytdbbandpobifhaa
open Go.RowKit
def Rc (B : Nat) (x0 x1 x2 x3 : Int) (wx : World) : Prop :=
  (wx.cell? ⟨B, 0, none⟩ = some (.int .u64 x0) ∧ wx.cell? ⟨B, 1, none⟩ = some (.int .u64 x1) ∧ wx.cell? ⟨B, 2, none⟩ = some (.int .u64 x2) ∧ wx.cell? ⟨B, 3, none⟩ = some (.int .u64 x3)) ∧
  (wx.frozen? ⟨B, 0, none⟩ = false ∧ wx.frozen? ⟨B, 1, none⟩ = false ∧ wx.frozen? ⟨B, 2, none⟩ = false ∧ wx.frozen? ⟨B, 3, none⟩ = false)
theorem Rc.later {B : Nat} {x0 x1 x2 x3 : Int} {W w1 : World} (h : Rc B x0 x1 x2 x3 W) (hB : Below W.heap.size W w1) : Rc B x0 x1 x2 x3 w1 := by
  obtain ⟨⟨b, c, d, e⟩, g, h, i, j⟩ := h
  exact ⟨⟨cell_later hB b, cell_later hB c, cell_later hB d, cell_later hB e⟩, frz_later hB b g, frz_later hB c h, frz_later hB d i, frz_later hB e j⟩
theorem Rc.put {B : Nat} {x0 x1 x2 x3 : Int} {W : World} (h : Rc B x0 x1 x2 x3 W) (y0 y1 y2 y3 : Int) : Rc B y0 y1 y2 y3 ((((W.setCell ⟨B, 0, none⟩ (.int .u64 y0)).setCell ⟨B, 1, none⟩ (.int .u64 y1)).setCell ⟨B, 2, none⟩ (.int .u64 y2)).setCell ⟨B, 3, none⟩ (.int .u64 y3)) := by
  obtain ⟨⟨b, c, d, e⟩, g, h, i, j⟩ := h
  unfold Rc; simp (maxDischargeDepth := 8) [go_sem, *]
theorem Nc.put4 {B C : Nat} {g : Bool} {x0 x1 x2 x3 : Int} {u0 u1 u2 u3 : Value} {W : World} (h : Nc B g x0 x1 x2 x3 W) (hne : C ≠ B) : Nc B g x0 x1 x2 x3 ((((W.setCell ⟨C, 0, none⟩ u0).setCell ⟨C, 1, none⟩ u1).setCell ⟨C, 2, none⟩ u2).setCell ⟨C, 3, none⟩ u3) := by
  obtain ⟨⟨a, b, c, d, e⟩, f, g, h, i, j⟩ := h
  have hne2 := hne.symm
  unfold Nc; simp (maxDischargeDepth := 8) [go_sem, *]
theorem dv_up (P y q r : Int) (hq : q = P / y) (hr : r = P % y) (hy : 0 < y) (h : y ≤ 2 * r) : 2 * q + 1 = (2 * P) / y ∧ 2 * r - y = (2 * P) % y := by
  have e := Int.mul_ediv_add_emod P y
  have rl := Int.emod_lt_of_pos P hy
  have k := (Int.ediv_emod_unique (a := 2 * P) (b := y) (q := 2 * q + 1) (r := 2 * r - y) hy).mpr ⟨by rw [← e, ← hq, ← hr]; rw [Int.mul_add, Int.mul_add, Int.mul_left_comm]; omega, by omega, by omega⟩
  exact ⟨k.1.symm, k.2.symm⟩
theorem dv_dn (P y q r : Int) (hq : q = P / y) (hr : r = P % y) (hy : 0 < y) (h : 2 * r < y) : 2 * q = (2 * P) / y ∧ 2 * r = (2 * P) % y := by
  have e := Int.mul_ediv_add_emod P y
  have r0 := Int.emod_nonneg P (Int.ne_of_gt hy)
  have k := (Int.ediv_emod_unique (a := 2 * P) (b := y) (q := 2 * q) (r := 2 * r) hy).mpr ⟨by rw [← e, ← hq, ← hr]; rw [Int.mul_add, Int.mul_left_comm]; omega, by omega, by omega⟩
  exact ⟨k.1.symm, k.2.symm⟩
theorem ptk_lt (x y : Int) (k : Nat) (h0 : 0 ≤ x) (hxy : x < y) : x * 2 ^ k / y < 2 ^ k := by
  refine Int.ediv_lt_of_lt_mul (by omega) ?_
  rw [Int.mul_comm]
  exact Int.mul_lt_mul_of_pos_left hxy (Int.pow_pos (by decide))
end Go.Proofs.Ytdbbandpobifhaa
