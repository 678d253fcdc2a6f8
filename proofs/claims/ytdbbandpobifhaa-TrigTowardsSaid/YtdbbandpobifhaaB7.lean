/- The contract of the document's Add (chapter 1). -/
import Derived.Test.YtdbbandpobifhaaB6
set_option linter.unusedSimpArgs false
set_option linter.unusedVariables false
namespace Go.Proofs.Ytdbbandpobifhaa
open Go.RowKit
set_option linter.unnecessarySimpa false
def Nc (B : Nat) (g : Bool) (x0 x1 x2 x3 : Int) (wx : World) : Prop :=
  (wx.cell? ⟨B, 0, none⟩ = some (.bool g) ∧ wx.cell? ⟨B, 1, none⟩ = some (.int .u64 x0) ∧ wx.cell? ⟨B, 2, none⟩ = some (.int .u64 x1) ∧ wx.cell? ⟨B, 3, none⟩ = some (.int .u64 x2) ∧ wx.cell? ⟨B, 4, none⟩ = some (.int .u64 x3)) ∧
  (wx.frozen? ⟨B, 0, none⟩ = false ∧ wx.frozen? ⟨B, 1, none⟩ = false ∧ wx.frozen? ⟨B, 2, none⟩ = false ∧ wx.frozen? ⟨B, 3, none⟩ = false ∧ wx.frozen? ⟨B, 4, none⟩ = false)
theorem Nc.later {B : Nat} {g : Bool} {x0 x1 x2 x3 : Int} {W w1 : World} (h : Nc B g x0 x1 x2 x3 W) (hB : Below W.heap.size W w1) : Nc B g x0 x1 x2 x3 w1 := by
  obtain ⟨⟨a, b, c, d, e⟩, f, g, h, i, j⟩ := h
  exact ⟨⟨cell_later hB a, cell_later hB b, cell_later hB c, cell_later hB d, cell_later hB e⟩, frz_later hB a f, frz_later hB b g, frz_later hB c h, frz_later hB d i, frz_later hB e j⟩
theorem Nc.drew {B : Nat} {g : Bool} {x0 x1 x2 x3 : Int} {W : World} (h : Nc B g x0 x1 x2 x3 W) : Nc B g x0 x1 x2 x3 W.drew := by
  obtain ⟨⟨a, b, c, d, e⟩, f, g, h, i, j⟩ := h
  unfold Nc; simp [go_sem, *]
theorem Nc.set0 {B : Nat} {g g' : Bool} {x0 x1 x2 x3 : Int} {W : World} (h : Nc B g x0 x1 x2 x3 W) : Nc B g' x0 x1 x2 x3 (W.setCell ⟨B, 0, none⟩ (.bool g')) := by
  obtain ⟨⟨a, b, c, d, e⟩, f, g, h, i, j⟩ := h
  unfold Nc; simp (maxDischargeDepth := 6) [go_sem, *]
theorem Nc.set3 {B : Nat} {g : Bool} {x0 x1 x2 x3 : Int} {v : Value} {W : World} (h : Nc B g x0 x1 x2 x3 W) : Nc B g x0 x1 x2 x3 (W.setCell ⟨B + 1, 0, none⟩ v) := by
  obtain ⟨⟨a, b, c, d, e⟩, f, g, h, i, j⟩ := h
  unfold Nc; simp (maxDischargeDepth := 6) [go_sem, *]
end Go.Proofs.Ytdbbandpobifhaa
