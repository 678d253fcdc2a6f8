/- The row of chicane/chicanelaw49.BumpLoses: for every input that can be read the law returns true, and each argument reads behind the call as it did before it. -/
import Derived.Test.YtgdoaibgcjdklaaRows
import Derived.Test.YtgdoaibgcjdklaaL9c
import Derived.WalkKit
import Derived.ProofKit
import Derived.OpenShut
import Derived.Lib.SmallJoins
namespace Go.Proofs.Ytgdoaibgcjdklaa.bumpLoses
open Go.ChangeShapes Go.WideShapes Go.ChangeAt Go.RowKit Go.Joins
set_option linter.unusedVariables false
set_option linter.constructorNameAsVariable false

theorem own : ownKnob Try.prog.godebug = none := by kernel_rfl
theorem laidOut : laidOutB Try.prog = true := by kernel_rfl
theorem wf_i64 {n : Int} (h : (Lit.int .i64 n).wf = true) : -9223372036854775808 ≤ n ∧ n ≤ 9223372036854775807 := by
  simp [Lit.wf, IntKind.min, IntKind.max, IntKind.signed, IntKind.bits] at h
  omega
theorem wf_u64 {n : Int} (h : (Lit.int .u64 n).wf = true) : 0 ≤ n ∧ n ≤ 18446744073709551615 := by
  simp [Lit.wf, IntKind.min, IntKind.max, IntKind.signed, IntKind.bits] at h
  omega
theorem wf_u32 {n : Int} (h : (Lit.int .u32 n).wf = true) : 0 ≤ n ∧ n ≤ 4294967295 := by
  simp [Lit.wf, IntKind.min, IntKind.max, IntKind.signed, IntKind.bits] at h
  omega
theorem leaf22 {H : Type} {enc : TypeId × Value → H} {w : World} {base : Nat} {spare : Nat → Bool} {held : Bool} {fuel : Nat} {cs : List Value} {y : DataW H × List MemPlace} (h : DataW.trod enc Try.prog w base spare held fuel 22 cs = some y) : ∃ x0 : Int, cs = [.int .i64 x0] ∧ (Lit.int .i64 x0).wf = true := by
  obtain ⟨n, h1, _, h2⟩ := DataW.trod_int Try.underlying22 h
  exact ⟨n, h1, h2⟩
theorem len2 {cs : List Value} (h : cs.length = 2) : ∃ c0 c1 : Value, cs = [c0, c1] := by
  match cs, h with
  | [c0, c1], _ => exact ⟨c0, c1, rfl⟩
theorem leaf24 {H : Type} {enc : TypeId × Value → H} {w : World} {base : Nat} {spare : Nat → Bool} {held : Bool} {fuel : Nat} {cs : List Value} {y : DataW H × List MemPlace} (h : DataW.trod enc Try.prog w base spare held fuel 24 cs = some y) : ∃ x0 x1 : Int, cs = [.int .i64 x0, .int .i64 x1] ∧ (Lit.int .i64 x0).wf = true ∧ (Lit.int .i64 x1).wf = true := by
  obtain ⟨ys, n, -, -, hl, hxl, hg⟩ := DataW.trod_struct Try.underlying24 h
  rw [show Try.prog.cellsOf 24 = 2 by kernel_rfl] at hl
  obtain ⟨c0, c1, rfl⟩ := len2 hl
  have g0 : DataW.trod enc Try.prog w base spare held n 22 ((List.drop 0 [c0, c1]).take (Try.prog.cellsOf 22)) = ys[0]? := hg 0 _ rfl
  rw [List.getElem?_eq_getElem (show 0 < ys.length by rw [hxl]; decide)] at g0
  have g1 : DataW.trod enc Try.prog w base spare held n 22 ((List.drop 1 [c0, c1]).take (Try.prog.cellsOf 22)) = ys[1]? := hg 1 _ rfl
  rw [List.getElem?_eq_getElem (show 1 < ys.length by rw [hxl]; decide)] at g1
  clear hg h
  obtain ⟨a0, e0, w0⟩ := leaf22 g0
  clear g0
  (try dsimp only at e0)
  rw [show Try.prog.cellsOf 22 = 1 by kernel_rfl] at e0
  simp at e0
  obtain ⟨a1, e1, w1⟩ := leaf22 g1
  clear g1
  (try dsimp only at e1)
  rw [show Try.prog.cellsOf 22 = 1 by kernel_rfl] at e1
  simp at e1
  subst e0
  subst e1
  exact ⟨a0, a1, rfl, w0, w1⟩
theorem len6 {cs : List Value} (h : cs.length = 6) : ∃ c0 c1 c2 c3 c4 c5 : Value, cs = [c0, c1, c2, c3, c4, c5] := by
  match cs, h with
  | [c0, c1, c2, c3, c4, c5], _ => exact ⟨c0, c1, c2, c3, c4, c5, rfl⟩
theorem leaf26 {H : Type} {enc : TypeId × Value → H} {w : World} {base : Nat} {spare : Nat → Bool} {held : Bool} {fuel : Nat} {cs : List Value} {y : DataW H × List MemPlace} (h : DataW.trod enc Try.prog w base spare held fuel 26 cs = some y) : ∃ x0 x1 x2 x3 x4 x5 : Int, cs = [.int .i64 x0, .int .i64 x1, .int .i64 x2, .int .i64 x3, .int .i64 x4, .int .i64 x5] ∧ (Lit.int .i64 x0).wf = true ∧ (Lit.int .i64 x1).wf = true ∧ (Lit.int .i64 x2).wf = true ∧ (Lit.int .i64 x3).wf = true ∧ (Lit.int .i64 x4).wf = true ∧ (Lit.int .i64 x5).wf = true := by
  obtain ⟨ys, n, -, -, hl, hxl, hg⟩ := DataW.trod_struct Try.underlying26 h
  rw [show Try.prog.cellsOf 26 = 6 by kernel_rfl] at hl
  obtain ⟨c0, c1, c2, c3, c4, c5, rfl⟩ := len6 hl
  have g0 : DataW.trod enc Try.prog w base spare held n 24 ((List.drop 0 [c0, c1, c2, c3, c4, c5]).take (Try.prog.cellsOf 24)) = ys[0]? := hg 0 _ rfl
  rw [List.getElem?_eq_getElem (show 0 < ys.length by rw [hxl]; decide)] at g0
  have g1 : DataW.trod enc Try.prog w base spare held n 24 ((List.drop 2 [c0, c1, c2, c3, c4, c5]).take (Try.prog.cellsOf 24)) = ys[1]? := hg 1 _ rfl
  rw [List.getElem?_eq_getElem (show 1 < ys.length by rw [hxl]; decide)] at g1
  have g2 : DataW.trod enc Try.prog w base spare held n 22 ((List.drop 4 [c0, c1, c2, c3, c4, c5]).take (Try.prog.cellsOf 22)) = ys[2]? := hg 2 _ rfl
  rw [List.getElem?_eq_getElem (show 2 < ys.length by rw [hxl]; decide)] at g2
  have g3 : DataW.trod enc Try.prog w base spare held n 22 ((List.drop 5 [c0, c1, c2, c3, c4, c5]).take (Try.prog.cellsOf 22)) = ys[3]? := hg 3 _ rfl
  rw [List.getElem?_eq_getElem (show 3 < ys.length by rw [hxl]; decide)] at g3
  clear hg h
  obtain ⟨a0, a1, e0, w0, w1⟩ := leaf24 g0
  clear g0
  (try dsimp only at e0)
  rw [show Try.prog.cellsOf 24 = 2 by kernel_rfl] at e0
  simp at e0
  obtain ⟨a2, a3, e1, w2, w3⟩ := leaf24 g1
  clear g1
  (try dsimp only at e1)
  rw [show Try.prog.cellsOf 24 = 2 by kernel_rfl] at e1
  simp at e1
  obtain ⟨a4, e2, w4⟩ := leaf22 g2
  clear g2
  (try dsimp only at e2)
  rw [show Try.prog.cellsOf 22 = 1 by kernel_rfl] at e2
  simp at e2
  obtain ⟨a5, e3, w5⟩ := leaf22 g3
  clear g3
  (try dsimp only at e3)
  rw [show Try.prog.cellsOf 22 = 1 by kernel_rfl] at e3
  simp at e3
  obtain ⟨rfl, rfl⟩ := e0
  obtain ⟨rfl, rfl⟩ := e1
  subst e2
  subst e3
  exact ⟨a0, a1, a2, a3, a4, a5, rfl, w0, w1, w2, w3, w4, w5⟩
theorem okAgg26 {w : World} {r : Reach} {base : Nat} {v : Value} (h : Value.okWide Try.prog w r base 26 v) : ∃ cs, v = .agg cs := by
  simp only [Value.okWide, Try.underlying26] at h
  obtain ⟨cs, h1, _⟩ := h
  exact ⟨cs, h1⟩
theorem cells24 : Try.prog.cellsOf 24 = 2 := by kernel_rfl
theorem cells26 : Try.prog.cellsOf 26 = 6 := by kernel_rfl
set_option maxRecDepth 100000 in
theorem lifted (os : Os) (started : os.Started) (H : Type) (enc : TypeId × Value → H) :
    ReturnsInHanded {} Try.checked os 5 .any (Rows.bumpLosesSpec.pre6 enc Try.prog Try.f5 Rows.bumpLosesRow.domain false) (Rows.bumpLosesSpec.post enc Try.prog Try.f5 false true false false) := by
  refine returnsInHanded_of_change (C := Try.checked) own started (by kernel_rfl) Try.func5
    (ChangeSpec.witness6 (enc := enc) (C := Try.checked) false ⟨#[], #[.agg #[.int .i64 0, .int .i64 0, .int .i64 0, .int .i64 0, .int .i64 0, .int .i64 0], .agg #[.int .i64 0, .int .i64 0, .int .i64 0, .int .i64 0, .int .i64 0, .int .i64 0], .int .i64 0], []⟩ 8 (by kernel_rfl) (by kernel_rfl) (by kernel_rfl) (by kernel_rfl)) ?_
  intro W base args ds gs before hval0 hW hcnd _
  have hval : ∀ (j : Nat) t v, Try.f5.params[j]? = some t → args[j]? = some v → Value.okWide Try.prog W .any base t v := hval0
  have hW' := hW
  obtain ⟨p, q, hA0, hV, rfl, hfz, hnd⟩ := hW
  have hA : DataW.TrodAll enc Try.prog W 0 (fun _ => true) true Try.f5.params.toList args.toList ds p := hA0
  rw [Try.params5] at hA hval
  obtain ⟨v0, vs0, d0, ds0, p0, q0, hargs, rfl, rfl, h0, r0⟩ := trodAll_cons hA
  obtain ⟨v1, vs1, d1, ds1, p1, q1, rfl, rfl, rfl, h1, r1⟩ := trodAll_cons r0
  obtain ⟨v2, vs2, d2, ds2, p2, q2, rfl, rfl, rfl, h2, r2⟩ := trodAll_cons r1
  obtain ⟨rfl, rfl, rfl⟩ := trodAll_nil r2
  obtain rfl : args = #[v0, v1, v2] := by cases args; simp_all
  obtain ⟨rfl, rfl⟩ := trodVars_none hV
  have k0 := h0
  have lt0 : ∀ x ∈ p0, x.block < W.heap.size := by obtain ⟨m, hm⟩ := k0; exact DataW.trod_lt m _ _ _ hm
  obtain ⟨cs0, rfl⟩ := okAgg26 (hval 0 26 v0 rfl rfl)
  obtain ⟨fu0, hf0⟩ := h0
  obtain ⟨x0, x1, x2, x3, x4, x5, e0, wx0, wx1, wx2, wx3, wx4, wx5⟩ := leaf26 hf0
  obtain ⟨l0⟩ := cs0
  simp [Value.cells] at e0
  subst e0
  obtain ⟨x0a, x0b⟩ := wf_i64 wx0
  obtain ⟨x1a, x1b⟩ := wf_i64 wx1
  obtain ⟨x2a, x2b⟩ := wf_i64 wx2
  obtain ⟨x3a, x3b⟩ := wf_i64 wx3
  obtain ⟨x4a, x4b⟩ := wf_i64 wx4
  obtain ⟨x5a, x5b⟩ := wf_i64 wx5
  have k1 := h1
  have lt1 : ∀ x ∈ p1, x.block < W.heap.size := by obtain ⟨m, hm⟩ := k1; exact DataW.trod_lt m _ _ _ hm
  obtain ⟨cs1, rfl⟩ := okAgg26 (hval 1 26 v1 rfl rfl)
  obtain ⟨fu1, hf1⟩ := h1
  obtain ⟨x6, x7, x8, x9, x10, x11, e1, wx6, wx7, wx8, wx9, wx10, wx11⟩ := leaf26 hf1
  obtain ⟨l1⟩ := cs1
  simp [Value.cells] at e1
  subst e1
  obtain ⟨x6a, x6b⟩ := wf_i64 wx6
  obtain ⟨x7a, x7b⟩ := wf_i64 wx7
  obtain ⟨x8a, x8b⟩ := wf_i64 wx8
  obtain ⟨x9a, x9b⟩ := wf_i64 wx9
  obtain ⟨x10a, x10b⟩ := wf_i64 wx10
  obtain ⟨x11a, x11b⟩ := wf_i64 wx11
  have k2 := h2
  have lt2 : ∀ x ∈ p2, x.block < W.heap.size := by obtain ⟨m, hm⟩ := k2; exact DataW.trod_lt m _ _ _ hm
  obtain ⟨x12, rfl, rfl, rfl, wx12⟩ := open_int Try.underlying22 (hval 2 22 v2 rfl rfl) h2
  obtain ⟨x12a, x12b⟩ := wf_i64 wx12
  clear hA0 hval0
  refine (walk_BumpLoses x0 x1 x2 x3 x4 x5 x6 x7 x8 x9 x10 x11 x12 W x0a x0b x1a x1b x2a x2b x3a x3b x4a x4b x5a x5b x6a x6b x7a x7b x8a x8b x9a x9b x10a x10b x11a x11b x12a x12b).mono fun e W' ⟨he, bel⟩ => ?_
  subst he
  exact ⟨_, rfl, _, _, _, [], _, [], hW', trodAll_mk1 (shut_bool Try.underlying4 _), (trodAll_cons_mk (Below.trod laidOut (by kernel_rfl) (of_decide_eq_true (by kernel_rfl)) k0 bel lt0) (trodAll_cons_mk (Below.trod laidOut (by kernel_rfl) (of_decide_eq_true (by kernel_rfl)) k1 bel lt1) (trodAll_cons_mk (Below.trod laidOut (by kernel_rfl) (of_decide_eq_true (by kernel_rfl)) k2 bel lt2) trodAll_mk0))), rfl, bel.frame _, fun h => by cases h⟩

theorem over : Rows.bumpLosesRow.holds Try.pinned (OpenSpec.ofChange Rows.bumpLosesSpec) :=
  OpenClaim.holds_of_wide 5 Try.f5 rfl rfl rfl rfl rfl rfl rfl ⟨rfl, rfl, rfl, rfl, rfl⟩ rfl rfl rfl rfl rfl (by kernel_rfl) Try.func5 (by kernel_rfl)
    (of_decide_eq_true (by kernel_rfl)) (by unfold Func.isWrapper; first | (rw [if_pos (by decide +kernel)]; kernel_rfl) | (rw [if_neg (by decide +kernel)]; exact ⟨rfl, rfl⟩))
    (fun os started H enc _ => lifted os started H enc)

theorem proved : Rows.BumpLosesSaid := over
#print axioms proved
end Go.Proofs.Ytgdoaibgcjdklaa.bumpLoses
