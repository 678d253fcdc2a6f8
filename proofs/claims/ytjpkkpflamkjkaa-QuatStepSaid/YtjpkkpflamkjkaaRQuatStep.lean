/- The row of chicane/chicanelaw06.QuatStep: for every input that can be read the law returns true, and each argument reads behind the call as it did before it. -/
import Derived.Test.YtjpkkpflamkjkaaRows
import Derived.Test.YtjpkkpflamkjkaaL6f
import Derived.WalkKit
import Derived.ProofKit
import Derived.OpenShut
import Derived.Lib.SmallJoins
namespace Go.Proofs.Ytjpkkpflamkjkaa.quatStep
open Go.ChangeShapes Go.WideShapes Go.ChangeAt Go.RowKit Go.Joins
set_option linter.unusedVariables false
set_option linter.constructorNameAsVariable false

theorem own : ownKnob Try.prog.godebug = none := by kernel_rfl
theorem laidOut : laidOutB Try.prog = true := by kernel_rfl
theorem wf_i64 {n : Int} (h : (Lit.int .i64 n).wf = true) : -9223372036854775808 ≤ n ∧ n ≤ 9223372036854775807 := by
  simp [Lit.wf, IntKind.min, IntKind.max, IntKind.signed, IntKind.bits] at h
  omega
theorem wf_u64 {n : Int} (h : (Lit.int .u64 n).wf = true) : 0 ≤ n ∧ n ≤ 18446744073709551615 := by
  simp [Lit.wf, IntKind.min, IntKind.max, IntKind.signed, IntKind.bits] at h
  omega
theorem wf_u32 {n : Int} (h : (Lit.int .u32 n).wf = true) : 0 ≤ n ∧ n ≤ 4294967295 := by
  simp [Lit.wf, IntKind.min, IntKind.max, IntKind.signed, IntKind.bits] at h
  omega
theorem leaf22 {H : Type} {enc : TypeId × Value → H} {w : World} {base : Nat} {spare : Nat → Bool} {held : Bool} {fuel : Nat} {cs : List Value} {y : DataW H × List MemPlace} (h : DataW.trod enc Try.prog w base spare held fuel 22 cs = some y) : ∃ (x0 : Int), cs = [.int .i64 x0] ∧ (Lit.int .i64 x0).wf = true := by
  obtain ⟨n, h1, _, h2⟩ := DataW.trod_int Try.underlying22 h
  exact ⟨n, h1, h2⟩
theorem len2 {cs : List Value} (h : cs.length = 2) : ∃ c0 c1 : Value, cs = [c0, c1] := by
  match cs, h with
  | c0 :: c1 :: [], _ => exact ⟨c0, c1, rfl⟩
theorem leaf52 {H : Type} {enc : TypeId × Value → H} {w : World} {base : Nat} {spare : Nat → Bool} {held : Bool} {fuel : Nat} {cs : List Value} {y : DataW H × List MemPlace} (h : DataW.trod enc Try.prog w base spare held fuel 52 cs = some y) : ∃ (x0 : Int) (x1 : Int), cs = [.int .i64 x0, .int .i64 x1] ∧ (Lit.int .i64 x0).wf = true ∧ (Lit.int .i64 x1).wf = true := by
  obtain ⟨ys, n, -, -, hl, hxl, hg⟩ := DataW.trod_array Try.underlying52 h
  rw [show Try.prog.cellsOf 52 = 2 by kernel_rfl] at hl
  rw [show Try.prog.cellsOf 22 = 1 by kernel_rfl] at hg
  obtain ⟨c0, c1, rfl⟩ := len2 hl
  have g0 := hg 0 (by decide)
  rw [List.getElem?_eq_getElem (show 0 < ys.length by rw [hxl]; decide)] at g0
  have g1 := hg 1 (by decide)
  rw [List.getElem?_eq_getElem (show 1 < ys.length by rw [hxl]; decide)] at g1
  clear hg h
  obtain ⟨a0, e0, w0⟩ := leaf22 g0
  clear g0
  (try dsimp only at e0)
  simp at e0
  obtain ⟨a1, e1, w1⟩ := leaf22 g1
  clear g1
  (try dsimp only at e1)
  simp at e1
  subst e0
  subst e1
  exact ⟨a0, a1, rfl, w0, w1⟩
theorem okAgg52 {w : World} {r : Reach} {base : Nat} {v : Value} (h : Value.okWide Try.prog w r base 52 v) : ∃ cs, v = .agg cs := by
  simp only [Value.okWide, Try.underlying52] at h
  obtain ⟨cs, h1, _⟩ := h
  exact ⟨cs, h1⟩
theorem cells24 : Try.prog.cellsOf 24 = 4 := by kernel_rfl
theorem cells26 : Try.prog.cellsOf 26 = 3 := by kernel_rfl
set_option maxRecDepth 100000 in
theorem lifted (os : Os) (started : os.Started) (H : Type) (enc : TypeId × Value → H) :
    ReturnsInHanded {} Try.checked os 7 .any (Rows.quatStepSpec.pre6 enc Try.prog Try.f7 Rows.quatStepRow.domain false) (Rows.quatStepSpec.post enc Try.prog Try.f7 false true false false) := by
  refine returnsInHanded_of_change (C := Try.checked) own started (by kernel_rfl) Try.func7
    (ChangeSpec.witness6 (enc := enc) (C := Try.checked) false ⟨#[], #[.agg #[.int .i64 0, .int .i64 0, .int .i64 0, .int .i64 0], .agg #[.int .i64 0, .int .i64 0, .int .i64 0], .agg #[.int .i64 0, .int .i64 0]], []⟩ 8 (by kernel_rfl) (by kernel_rfl) (by kernel_rfl) (by kernel_rfl)) ?_
  intro W base args ds gs before hval0 hW hcnd _
  have hval : ∀ (j : Nat) t v, Try.f7.params[j]? = some t → args[j]? = some v → Value.okWide Try.prog W .any base t v := hval0
  have hW' := hW
  obtain ⟨p, q, hA0, hV, rfl, hfz, hnd⟩ := hW
  have hA : DataW.TrodAll enc Try.prog W 0 (fun _ => true) true Try.f7.params.toList args.toList ds p := hA0
  rw [Try.params7] at hA hval
  obtain ⟨v0, vs0, d0, ds0, p0, q0, hargs, rfl, rfl, h0, r0⟩ := trodAll_cons hA
  obtain ⟨v1, vs1, d1, ds1, p1, q1, rfl, rfl, rfl, h1, r1⟩ := trodAll_cons r0
  obtain ⟨v2, vs2, d2, ds2, p2, q2, rfl, rfl, rfl, h2, r2⟩ := trodAll_cons r1
  obtain ⟨rfl, rfl, rfl⟩ := trodAll_nil r2
  obtain rfl : args = #[v0, v1, v2] := by cases args; simp_all
  obtain ⟨rfl, rfl⟩ := trodVars_none hV
  have k0 := h0
  have lt0 : ∀ x ∈ p0, x.block < W.heap.size := by obtain ⟨m, hm⟩ := k0; exact DataW.trod_lt m _ _ _ hm
  obtain ⟨c0_0, c0_1, c0_2, c0_3, y0_0, y0_1, y0_2, y0_3, m0, rfl, rfl, rfl, g0_0, g0_1, g0_2, g0_3⟩ := open_agg4 Try.underlying24 (by kernel_rfl) cells24 (hval 0 24 v0 rfl rfl) h0
  obtain ⟨x0, ex0, rfl, wx0⟩ := DataW.trod_int Try.underlying22 g0_0
  simp at ex0; subst ex0
  obtain ⟨x0a, x0b⟩ := wf_i64 wx0
  obtain ⟨x1, ex1, rfl, wx1⟩ := DataW.trod_int Try.underlying22 g0_1
  simp at ex1; subst ex1
  obtain ⟨x1a, x1b⟩ := wf_i64 wx1
  obtain ⟨x2, ex2, rfl, wx2⟩ := DataW.trod_int Try.underlying22 g0_2
  simp at ex2; subst ex2
  obtain ⟨x2a, x2b⟩ := wf_i64 wx2
  obtain ⟨x3, ex3, rfl, wx3⟩ := DataW.trod_int Try.underlying22 g0_3
  simp at ex3; subst ex3
  obtain ⟨x3a, x3b⟩ := wf_i64 wx3
  have k1 := h1
  have lt1 : ∀ x ∈ p1, x.block < W.heap.size := by obtain ⟨m, hm⟩ := k1; exact DataW.trod_lt m _ _ _ hm
  obtain ⟨c1_0, c1_1, c1_2, y1_0, y1_1, y1_2, m1, rfl, rfl, rfl, g1_0, g1_1, g1_2⟩ := open_agg3 Try.underlying26 (by kernel_rfl) cells26 (hval 1 26 v1 rfl rfl) h1
  obtain ⟨x4, ex4, rfl, wx4⟩ := DataW.trod_int Try.underlying22 g1_0
  simp at ex4; subst ex4
  obtain ⟨x4a, x4b⟩ := wf_i64 wx4
  obtain ⟨x5, ex5, rfl, wx5⟩ := DataW.trod_int Try.underlying22 g1_1
  simp at ex5; subst ex5
  obtain ⟨x5a, x5b⟩ := wf_i64 wx5
  obtain ⟨x6, ex6, rfl, wx6⟩ := DataW.trod_int Try.underlying22 g1_2
  simp at ex6; subst ex6
  obtain ⟨x6a, x6b⟩ := wf_i64 wx6
  have k2 := h2
  have lt2 : ∀ x ∈ p2, x.block < W.heap.size := by obtain ⟨m, hm⟩ := k2; exact DataW.trod_lt m _ _ _ hm
  obtain ⟨cs2, rfl⟩ := okAgg52 (hval 2 52 v2 rfl rfl)
  obtain ⟨fu2, hf2⟩ := h2
  obtain ⟨x7, x8, e2, wx7, wx8⟩ := leaf52 hf2
  obtain ⟨l2⟩ := cs2
  simp [Value.cells] at e2
  subst e2
  obtain ⟨x7a, x7b⟩ := wf_i64 wx7
  obtain ⟨x8a, x8b⟩ := wf_i64 wx8
  clear hA0 hval0
  refine (walk_QuatStep x0 x1 x2 x3 x4 x5 x6 x7 x8 W x0a x0b x1a x1b x2a x2b x3a x3b x4a x4b x5a x5b x6a x6b x7a x7b x8a x8b).mono fun e W' ⟨he, bel⟩ => ?_
  subst he
  exact ⟨_, rfl, _, _, _, [], _, [], hW', trodAll_mk1 (shut_bool Try.underlying4 _), (trodAll_cons_mk (Below.trod laidOut (by kernel_rfl) (of_decide_eq_true (by kernel_rfl)) k0 bel lt0) (trodAll_cons_mk (Below.trod laidOut (by kernel_rfl) (of_decide_eq_true (by kernel_rfl)) k1 bel lt1) (trodAll_cons_mk (Below.trod laidOut (by kernel_rfl) (of_decide_eq_true (by kernel_rfl)) k2 bel lt2) trodAll_mk0))), rfl, bel.frame _, fun h => by cases h⟩

theorem over : Rows.quatStepRow.holds Try.pinned (OpenSpec.ofChange Rows.quatStepSpec) :=
  OpenClaim.holds_of_wide 7 Try.f7 rfl rfl rfl rfl rfl rfl rfl ⟨rfl, rfl, rfl, rfl, rfl⟩ rfl rfl rfl rfl rfl (by kernel_rfl) Try.func7 (by kernel_rfl)
    (of_decide_eq_true (by kernel_rfl)) (by unfold Func.isWrapper; first | (rw [if_pos (by decide +kernel)]; kernel_rfl) | (rw [if_neg (by decide +kernel)]; exact ⟨rfl, rfl⟩))
    (fun os started H enc _ => lifted os started H enc)

theorem proved : Rows.QuatStepSaid := over
#print axioms proved
end Go.Proofs.Ytjpkkpflamkjkaa.quatStep
