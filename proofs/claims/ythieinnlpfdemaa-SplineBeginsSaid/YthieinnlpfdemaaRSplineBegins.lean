/- The row of chicane/chicanelaw11.SplineBegins: for every input that can be read the law returns true, and each argument reads behind the call as it did before it. -/
import Derived.Test.YthieinnlpfdemaaRows
import Derived.Test.YthieinnlpfdemaaS22
import Derived.WalkKit
import Derived.ProofKit
import Derived.OpenShut
import Derived.Lib.SmallJoins
namespace Go.Proofs.Ythieinnlpfdemaa.splineBegins
open Go.ChangeShapes Go.WideShapes Go.ChangeAt Go.RowKit Go.Joins
set_option linter.unusedVariables false
set_option linter.constructorNameAsVariable false

theorem own : ownKnob Try.prog.godebug = none := by kernel_rfl
theorem laidOut : laidOutB Try.prog = true := by kernel_rfl
theorem wf_i64 {n : Int} (h : (Lit.int .i64 n).wf = true) : -9223372036854775808 ≤ n ∧ n ≤ 9223372036854775807 := by
  simp [Lit.wf, IntKind.min, IntKind.max, IntKind.signed, IntKind.bits] at h
  omega
theorem wf_u64 {n : Int} (h : (Lit.int .u64 n).wf = true) : 0 ≤ n ∧ n ≤ 18446744073709551615 := by
  simp [Lit.wf, IntKind.min, IntKind.max, IntKind.signed, IntKind.bits] at h
  omega
theorem wf_u32 {n : Int} (h : (Lit.int .u32 n).wf = true) : 0 ≤ n ∧ n ≤ 4294967295 := by
  simp [Lit.wf, IntKind.min, IntKind.max, IntKind.signed, IntKind.bits] at h
  omega
theorem cells32 : Try.prog.cellsOf 32 = 2 := by kernel_rfl
set_option maxRecDepth 100000 in
theorem lifted (os : Os) (started : os.Started) (H : Type) (enc : TypeId × Value → H) :
    ReturnsInHanded {} Try.checked os 8 .any (Rows.splineBeginsSpec.pre6 enc Try.prog Try.f8 Rows.splineBeginsRow.domain false) (Rows.splineBeginsSpec.post enc Try.prog Try.f8 false true false false) := by
  refine returnsInHanded_of_change (C := Try.checked) own started (by kernel_rfl) Try.func8
    (ChangeSpec.witness6 (enc := enc) (C := Try.checked) false ⟨#[], #[.slice none 0 0, .int .i64 0], []⟩ 8 (by kernel_rfl) (by kernel_rfl) (by kernel_rfl) (by kernel_rfl)) ?_
  intro W base args ds gs before hval0 hW hcnd _
  have hval : ∀ (j : Nat) t v, Try.f8.params[j]? = some t → args[j]? = some v → Value.okWide Try.prog W .any base t v := hval0
  have hW' := hW
  obtain ⟨p, q, hA0, hV, rfl, hfz, hnd⟩ := hW
  have hA : DataW.TrodAll enc Try.prog W 0 (fun _ => true) true Try.f8.params.toList args.toList ds p := hA0
  rw [Try.params8] at hA hval
  obtain ⟨v0, vs0, d0, ds0, p0, q0, hargs, rfl, rfl, h0, r0⟩ := trodAll_cons hA
  obtain ⟨v1, vs1, d1, ds1, p1, q1, rfl, rfl, rfl, h1, r1⟩ := trodAll_cons r0
  obtain ⟨rfl, rfl, rfl⟩ := trodAll_nil r1
  obtain rfl : args = #[v0, v1] := by cases args; simp_all
  obtain ⟨rfl, rfl⟩ := trodVars_none hV
  have k0 := h0
  have lt0 : ∀ x ∈ p0, x.block < W.heap.size := by obtain ⟨m, hm⟩ := k0; exact DataW.trod_lt m _ _ _ hm
  obtain ⟨a0, len0, cap0, rfl⟩ := okWide_slice Try.underlying22 (hval 0 22 v0 rfl rfl)
  obtain ⟨fu0, hf0⟩ := h0
  obtain ⟨X0, Y0, S0⟩ : ∃ X Y, Sl a0 len0 cap0 X Y W := by
    rcases Go.Deep.open_slice_pairs Try.underlying22 Try.underlying32 cells32 rfl rfl (show Try.prog.cellsOf 23 = 1 by kernel_rfl) (show Try.prog.cellsOf 23 = 1 by kernel_rfl) hf0 with ⟨hcs, _⟩ | ⟨a, len', cap', m, n, V0, V1, D0, D1, P0, P1, hcs, _, hl, hm, hmm, hx, hcell⟩
    · simp [Value.cells] at hcs
      exact ⟨fun _ => 0, fun _ => 0, Or.inl hcs⟩
    · simp [Value.cells] at hcs
      obtain ⟨h1, h2, h3⟩ := hcs
      subst h2 h3
      simp only [if_true] at hmm
      have hml : maxLen ≤ 9223372036854775807 := by decide
      have key : ∀ i, i < m → ∃ x y : Int, V0 i = .int .i64 x ∧ V1 i = .int .i64 y ∧ (Lit.int .i64 x).wf = true ∧ (Lit.int .i64 y).wf = true := by
        intro i hi
        obtain ⟨_, _, t0, t1⟩ := hcell i hi
        obtain ⟨x, e0, _, w0⟩ := DataW.trod_int Try.underlying23 t0
        obtain ⟨y, e1, _, w1⟩ := DataW.trod_int Try.underlying23 t1
        simp at e0 e1
        exact ⟨x, y, e0, e1, w0, w1⟩
      refine ⟨fun i => if h : i < m then (key i h).choose else 0, fun i => if h : i < m then (key i h).choose_spec.choose else 0, Or.inr ⟨a, h1, by omega, fun i hi => ?_, fun i hi => ?_, fun i hi => ?_⟩⟩
      · have hi2 : i < m := by omega
        simp only [dif_pos hi2]
        exact wf_i64 (key i hi2).choose_spec.choose_spec.2.2.1
      · have hi2 : i < m := by omega
        simp only [dif_pos hi2]
        exact wf_i64 (key i hi2).choose_spec.choose_spec.2.2.2
      · have hi2 : i < m := by omega
        simp only [dif_pos hi2]
        have h := key i hi2
        obtain ⟨c0, c1, _, _⟩ := hcell i hi2
        rw [(key i hi2).choose_spec.choose_spec.1] at c0
        rw [(key i hi2).choose_spec.choose_spec.2.1, add_pair] at c1
        exact ⟨c0, c1⟩
  have k1 := h1
  have lt1 : ∀ x ∈ p1, x.block < W.heap.size := by obtain ⟨m, hm⟩ := k1; exact DataW.trod_lt m _ _ _ hm
  obtain ⟨x0, rfl, rfl, rfl, wx0⟩ := open_int Try.underlying3 (hval 1 3 v1 rfl rfl) h1
  obtain ⟨x0a, x0b⟩ := wf_i64 wx0
  clear hA0 hval0
  refine (walk_SplineBegins a0 len0 cap0 X0 Y0 x0 W S0 x0a x0b).mono fun e W' ⟨he, bel⟩ => ?_
  subst he
  exact ⟨_, rfl, _, _, _, [], _, [], hW', trodAll_mk1 (shut_bool Try.underlying4 _), (trodAll_cons_mk (Below.trod laidOut (by kernel_rfl) (of_decide_eq_true (by kernel_rfl)) k0 bel lt0) (trodAll_cons_mk (Below.trod laidOut (by kernel_rfl) (of_decide_eq_true (by kernel_rfl)) k1 bel lt1) trodAll_mk0)), rfl, bel.frame _, fun h => by cases h⟩

theorem over : Rows.splineBeginsRow.holds Try.pinned (OpenSpec.ofChange Rows.splineBeginsSpec) :=
  OpenClaim.holds_of_wide 8 Try.f8 rfl rfl rfl rfl rfl rfl rfl ⟨rfl, rfl, rfl, rfl, rfl⟩ rfl rfl rfl rfl rfl (by kernel_rfl) Try.func8 (by kernel_rfl)
    (of_decide_eq_true (by kernel_rfl)) (by unfold Func.isWrapper; first | (rw [if_pos (by decide +kernel)]; kernel_rfl) | (rw [if_neg (by decide +kernel)]; exact ⟨rfl, rfl⟩))
    (fun os started H enc _ => lifted os started H enc)

theorem proved : Rows.SplineBeginsSaid := over
#print axioms proved
end Go.Proofs.Ythieinnlpfdemaa.splineBegins
