/- What lies so far between two numbers: both packages. -/
import Derived.Test.YtggpeefijdiiiaaR1
import Derived.Test.YtggpeefijdiiiaaF3
namespace Go.Proofs.Ytggpeefijdiiiaa
open Go.RowKit
def mx (a b t : Int) : Int := sat (a + sat (rsh (sat (b - a) * t)))
def mxo (a b t : Int) : Bool := !fx (b - a) || (!fx (rsh (sat (b - a) * t)) || !fx (a + sat (rsh (sat (b - a) * t))))
theorem bor3 (o p q r : Bool) : (((o || p) || q) || r) = (o || (p || (q || r))) := by cases o <;> cases p <;> rfl
theorem cFMix (a b t : Int) (k : Nat) (o : Bool) (w : World) (a0 : -9223372036854775808 ≤ a) (a1 : a ≤ 9223372036854775807) (b0 : -9223372036854775808 ≤ b) (b1 : b ≤ 9223372036854775807) (t0 : -9223372036854775808 ≤ t) (t1 : t ≤ 9223372036854775807)
    (hc : w.cell? ⟨k, 0, none⟩ = some (.bool o)) (hf : w.frozen? ⟨k, 0, none⟩ = false) :
    Calls Try.prog 24 #[.pointer (some ⟨k, 0, none⟩), .int .i64 a, .int .i64 b, .int .i64 t] w fun e w' => e = .returned (.int .i64 (mx a b t)) ∧ Mv k (o || mxo a b t) w w' := by
  go_enter Try.func24, Try.ntmps24
  go_wp2_with (fail)
  refine (cFSub b a k o _ b0 b1 a0 a1 hc hf).mono ?_
  rintro e w1 ⟨rfl, hM1⟩
  go_wp2_with (fail)
  refine (cFMul _ t k _ _ (sat_lo _) (sat_hi _) t0 t1 hM1.cell hM1.free).mono ?_
  rintro e w2 ⟨rfl, hM2⟩
  go_wp2_with (fail)
  refine (cFAdd a _ k _ _ a0 a1 (sat_lo _) (sat_hi _) hM2.cell hM2.free).mono ?_
  rintro e w3 ⟨rfl, hM3⟩
  go_wp2_with (fail)
  go_ret
  refine ⟨rfl, ?_⟩
  have h := (hM1.trans hM2).trans hM3
  rw [bor3] at h
  exact h
theorem rFMix (a b t : Int) (k : Nat) (o : Bool) (w : World) (a0 : -9223372036854775808 ≤ a) (a1 : a ≤ 9223372036854775807) (b0 : -9223372036854775808 ≤ b) (b1 : b ≤ 9223372036854775807) (t0 : -9223372036854775808 ≤ t) (t1 : t ≤ 9223372036854775807)
    (hc : w.cell? ⟨k, 0, none⟩ = some (.bool o)) (hf : w.frozen? ⟨k, 0, none⟩ = false) :
    Calls Try.prog 25 #[.pointer (some ⟨k, 0, none⟩), .int .i64 a, .int .i64 b, .int .i64 t] w fun e w' => e = .returned (.int .i64 (mx a b t)) ∧ Mv k (o || mxo a b t) w w' := by
  go_enter Try.func25, Try.ntmps25
  go_wp2_with (fail)
  refine (rFSub b a k o _ b0 b1 a0 a1 hc hf).mono ?_
  rintro e w1 ⟨rfl, hM1⟩
  go_wp2_with (fail)
  refine (rFMul _ t k _ _ (sat_lo _) (sat_hi _) t0 t1 hM1.cell hM1.free).mono ?_
  rintro e w2 ⟨rfl, hM2⟩
  go_wp2_with (fail)
  refine (rFAdd a _ k _ _ a0 a1 (sat_lo _) (sat_hi _) hM2.cell hM2.free).mono ?_
  rintro e w3 ⟨rfl, hM3⟩
  go_wp2_with (fail)
  go_ret
  refine ⟨rfl, ?_⟩
  have h := (hM1.trans hM2).trans hM3
  rw [bor3] at h
  exact h
end Go.Proofs.Ytggpeefijdiiiaa
