/- The contracts of the document's numbers: Words, Sign, Cmp. -/
import Derived.Test.YtjpkkpflamkjkaaB3
set_option linter.unusedSimpArgs false
set_option linter.unusedVariables false
namespace Go.Proofs.Ytjpkkpflamkjkaa
open Go.RowKit
def sgv (g : Bool) (m : Int) : Int := if g = true then -m else m
theorem W_no (v rh rl : Int) (ro : Bool) (hv : ¬(-170141183460469231731687303715884105728 ≤ v ∧ v ≤ 170141183460469231731687303715884105727)) (h1 : rh = hw (cw v)) (h2 : rl = lw (cw v)) (h3 : ro = fw v) : rh = 0 ∧ rl = 0 ∧ ro = false := by
  have f : fw v = false := decide_eq_false hv
  have c : cw v = 0 := by unfold cw; rw [f]; rfl
  rw [c] at h1 h2
  exact ⟨h1, h2, by rw [h3, f]⟩
theorem W_yes (v rh rl : Int) (ro : Bool) (hv : -170141183460469231731687303715884105728 ≤ v ∧ v ≤ 170141183460469231731687303715884105727) (h1 : rh = hw (cw v)) (h2 : rl = lw (cw v)) (h3 : ro = fw v) : rh = v / 18446744073709551616 ∧ rl = v % 18446744073709551616 ∧ ro = true := by
  have f : fw v = true := decide_eq_true hv
  have c : cw v = v := by unfold cw; rw [f]; rfl
  rw [c] at h1 h2
  exact ⟨h1, h2, by rw [h3, f]⟩
theorem cRWords (g : Bool) (m : Int) (w : World) (hm : 0 ≤ m) (hm' : m ≤ 340282366920938463463374607431768211455) :
    Calls Try.prog 91 #[.agg #[.bool (g), .int .u64 (d0 (m)), .int .u64 (d1 (m)), .int .u64 (d2 (m)), .int .u64 (d3 (m))]] w fun e w' => e = .returned (.tuple #[.int .i64 (hw (cw (sgv g m))), .int .u64 (lw (cw (sgv g m))), .bool (fw (sgv g m))]) ∧ Below w.heap.size w w' := by
  have em := dg m hm hm'
  have a0 := d0_bd m; have a1 := d1_bd m; have a2 := d2_bd m; have a3 := d3_bd m
  generalize d0 m = x0 at *; generalize d1 m = x1 at *; generalize d2 m = x2 at *; generalize d3 m = x3 at *
  obtain ⟨h, hh⟩ : ∃ h, h = x3 * 4294967296 + x2 := ⟨_, rfl⟩
  obtain ⟨l, hl⟩ : ∃ l, l = x1 * 4294967296 + x0 := ⟨_, rfl⟩
  obtain ⟨t1, ht1⟩ : ∃ t, t = x1 * 4294967296 := ⟨_, rfl⟩
  obtain ⟨t3, ht3⟩ : ∃ t, t = x3 * 4294967296 := ⟨_, rfl⟩
  obtain ⟨nl, hnl⟩ : ∃ t, t = 18446744073709551615 - l := ⟨_, rfl⟩
  obtain ⟨nh, hnh⟩ : ∃ t, t = 18446744073709551615 - h := ⟨_, rfl⟩
  obtain ⟨ml, hml⟩ : ∃ t, t = (18446744073709551616 - l) % 18446744073709551616 := ⟨_, rfl⟩
  obtain ⟨mh, hmh⟩ : ∃ t, t = (18446744073709551616 - h) % 18446744073709551616 := ⟨_, rfl⟩
  have e1 : IntKind.u64.wrap (x3 * 4294967296) = t3 := by rw [IntKind.wrap_u64]; omega
  have e2 : IntKind.u64.wrap (t3 + x2) = h := by rw [IntKind.wrap_u64]; omega
  have e3 : IntKind.u64.wrap (x1 * 4294967296) = t1 := by rw [IntKind.wrap_u64]; omega
  have e4 : IntKind.u64.wrap (t1 + x0) = l := by rw [IntKind.wrap_u64]; omega
  have xl : bits .xor .u64 IntKind.u64.max l = nl := by rw [not_u64 l (by omega) (by omega)]; omega
  have xh : bits .xor .u64 IntKind.u64.max h = nh := by rw [not_u64 h (by omega) (by omega)]; omega
  have xz : bits .xor .u64 IntKind.u64.max 0 = 18446744073709551615 := not_u64 0 (by decide) (by decide)
  have xw : IntKind.u64.wrap 18446744073709551616 = 0 := by decide
  have xz2 : bits .xor .u64 IntKind.u64.max 9223372036854775808 = 9223372036854775807 := not_u64 9223372036854775808 (by decide) (by decide)
  have xw2 : IntKind.u64.wrap 9223372036854775808 = 9223372036854775808 := by decide
  have ym : IntKind.u64.wrap (nl + 1) = ml := by rw [IntKind.wrap_u64]; omega
  have yh : IntKind.u64.wrap (nh + 1) = mh := by rw [IntKind.wrap_u64]; omega
  have hs : IntKind.u64.signed = false := rfl
  have H : Hid (m = h * 18446744073709551616 + l ∧ 0 ≤ h ∧ h ≤ 18446744073709551615 ∧ 0 ≤ l ∧ l ≤ 18446744073709551615 ∧ nh = 18446744073709551615 - h ∧ ml = (18446744073709551616 - l) % 18446744073709551616 ∧ mh = (18446744073709551616 - h) % 18446744073709551616) := Lib.hid (by refine ⟨?_, ?_⟩ <;> omega)
  obtain ⟨v, hv⟩ : ∃ v, v = sgv g m := ⟨_, rfl⟩
  obtain ⟨rh, hrh⟩ : ∃ v, v = hw (cw (sgv g m)) := ⟨_, rfl⟩
  obtain ⟨rl, hrl⟩ : ∃ v, v = lw (cw (sgv g m)) := ⟨_, rfl⟩
  obtain ⟨ro, hro⟩ : ∃ v, v = fw (sgv g m) := ⟨_, rfl⟩
  have R := Lib.hid (And.intro hrh (And.intro hrl hro))
  rw [← hrh, ← hrl, ← hro]
  clear hrh hrl hro hv hm hm' em a0 a1 a2 a3 hh hl ht1 ht3 hnl hnh hml hmh
  cases g
  · go_enter Try.func91, Try.ntmps91
    go_wp2
    all_goals simp [bodyPost, results, Try.results91, go_sem]
    all_goals (obtain ⟨hrh, hrl, hro⟩ := R.out; obtain ⟨b1, b2, b3, b4, b5, b6, b7, b8⟩ := H.out)
    all_goals refine ⟨?_, by (repeat (first | with_reducible assumption | with_reducible exact Below.refl _ _ | ((with_reducible refine Below.setCell ?_ ?_ _); rotate_left; (first | exact Nat.le_refl _ | (dsimp only; omega) | (simp; done) | (simp; omega))) | with_reducible refine below_alloc ?_ _ | with_reducible apply below_drewN | with_reducible apply Below.drew | with_reducible refine below_step ?_ (by assumption)))⟩
    all_goals clear R H e1 e2 e3 e4 xl xh xz xw xz2 xw2 ym yh hs
    all_goals (try simp only [beq_iff_eq, beq_eq_false_iff_ne, ne_eq] at *)
    all_goals first
      | (obtain ⟨c1, c2, c3⟩ := W_no _ _ _ _ (by unfold sgv; simp; omega) hrh hrl hro; exact ⟨c1.symm, c2.symm, c3⟩)
      | (obtain ⟨c1, c2, c3⟩ := W_yes _ _ _ _ (by unfold sgv; simp; omega) hrh hrl hro; simp only [sgv, if_true, Bool.false_eq_true, if_false] at c1 c2; refine ⟨?_, ?_, c3⟩ <;> (try unfold wrap64) <;> omega)
  · go_enter Try.func91, Try.ntmps91
    go_wp2
    all_goals simp [bodyPost, results, Try.results91, go_sem]
    all_goals (obtain ⟨hrh, hrl, hro⟩ := R.out; obtain ⟨b1, b2, b3, b4, b5, b6, b7, b8⟩ := H.out)
    all_goals refine ⟨?_, by (repeat (first | with_reducible assumption | with_reducible exact Below.refl _ _ | ((with_reducible refine Below.setCell ?_ ?_ _); rotate_left; (first | exact Nat.le_refl _ | (dsimp only; omega) | (simp; done) | (simp; omega))) | with_reducible refine below_alloc ?_ _ | with_reducible apply below_drewN | with_reducible apply Below.drew | with_reducible refine below_step ?_ (by assumption)))⟩
    all_goals clear R H e1 e2 e3 e4 xl xh xz xw xz2 xw2 ym yh hs
    all_goals (try simp only [beq_iff_eq, beq_eq_false_iff_ne, ne_eq] at *)
    all_goals first
      | (obtain ⟨c1, c2, c3⟩ := W_no _ _ _ _ (by unfold sgv; simp; omega) hrh hrl hro; exact ⟨c1.symm, c2.symm, c3⟩)
      | (obtain ⟨c1, c2, c3⟩ := W_yes _ _ _ _ (by unfold sgv; simp; omega) hrh hrl hro; simp only [sgv, if_true, Bool.false_eq_true, if_false] at c1 c2; refine ⟨?_, ?_, c3⟩ <;> (try unfold wrap64) <;> omega)
end Go.Proofs.Ytjpkkpflamkjkaa
