/- The contract of the document's quotient (chapter 1). -/
import Derived.Test.YtdbbandpobifhaaB11
import Derived.Test.YtdbbandpobifhaaB7
import Derived.Deep.CutBlock
import Derived.Deep.DeepCutAuto
set_option linter.unusedSimpArgs false
set_option linter.unusedVariables false
namespace Go.Proofs.Ytdbbandpobifhaa
open Go.RowKit
def DW (w : World) (A D Q : Nat) (g h : Bool) (m n q : Int) (W : World) : Prop :=
  Below w.heap.size w W ∧ Nc A g (d0 m) (d1 m) (d2 m) (d3 m) W ∧ Nc D h (d0 n) (d1 n) (d2 n) (d3 n) W ∧ Rc Q (d0 q) (d1 q) (d2 q) (d3 q) W ∧ w.heap.size ≤ A ∧ A < Q ∧ w.heap.size ≤ D ∧ D < Q ∧ Q < W.heap.size
theorem DW.later {w : World} {A D Q : Nat} {g h : Bool} {m n q : Int} {W w1 : World} (H : DW w A D Q g h m n q W) (hB : Below W.heap.size W w1) : DW w A D Q g h m n q w1 := by
  obtain ⟨b, ha, hd, hq, e1, e2, e3, e4, e5⟩ := H
  exact ⟨below_step b hB, ha.later hB, hd.later hB, hq.later hB, e1, e2, e3, e4, Nat.lt_of_lt_of_le e5 hB.size⟩
theorem DW.put {w : World} {A D Q : Nat} {g h : Bool} {m n q : Int} {W : World} (H : DW w A D Q g h m n q W) (s : Int) :
    DW w A D Q g h m n s ((((W.setCell ⟨Q, 0, none⟩ (.int .u64 (d0 s))).setCell ⟨Q, 1, none⟩ (.int .u64 (d1 s))).setCell ⟨Q, 2, none⟩ (.int .u64 (d2 s))).setCell ⟨Q, 3, none⟩ (.int .u64 (d3 s))) := by
  obtain ⟨b, ha, hd, hq, e1, e2, e3, e4, e5⟩ := H
  exact ⟨by (repeat (first | with_reducible assumption | with_reducible exact Below.refl _ _ | ((with_reducible refine Below.setCell ?_ ?_ _); rotate_left; (first | exact Nat.le_refl _ | (dsimp only; omega) | (simp; done) | (simp; omega))) | with_reducible refine below_alloc ?_ _ | with_reducible apply below_drewN | with_reducible apply Below.drew | with_reducible refine below_step ?_ (by assumption))), ha.put4 (by omega), hd.put4 (by omega), hq.put _ _ _ _, e1, e2, e3, e4, by simpa using e5⟩
theorem bne_t (g h : Bool) : (g != h) = true → (g = true ∧ h = false) ∨ (g = false ∧ h = true) := by cases g <;> cases h <;> simp
theorem bne_f (g h : Bool) : (g != h) = false → (g = true ∧ h = true) ∨ (g = false ∧ h = false) := by cases g <;> cases h <;> simp
theorem qn_cases (m n q r r2 : Int) (hq : m / n = q) (hr : m % n = r) (h2 : 2 * r = r2) : qn m n = if (decide (n < r2) || (decide (r2 = n) && decide (q % 2 = 1))) = true then q + 1 else q := by
  unfold qn
  rw [hq, hr, h2]
  by_cases h1 : n < r2 <;> by_cases h3 : r2 = n <;> by_cases h4 : q % 2 = 1 <;> simp [h1, h3, h4]
set_option maxHeartbeats 8000000 in
theorem cRDiv (x b : Int) (w : World) (hx : (x.natAbs : Int) ≤ 170141183460469231731687303715884105728) (b0 : -9223372036854775808 ≤ b) (b1 : b ≤ 9223372036854775807) :
    Calls Try.prog 26 #[.agg #[.bool (decide (x < 0)), .int .u64 (d0 (x.natAbs)), .int .u64 (d1 (x.natAbs)), .int .u64 (d2 (x.natAbs)), .int .u64 (d3 (x.natAbs))], .int .i64 b] w fun e w' => e = .returned (.tuple #[.int .i64 (dq x b), .bool (dok x b)]) ∧ Below w.heap.size w w' := by
  by_cases hb : b = 0
  · subst hb
    have e1 : dok x 0 = false := by simp [dok]
    have e2 : dq x 0 = 0 := by unfold dq; rw [e1]; rfl
    rw [e1, e2]
    go_enter Try.func26, Try.ntmps26
    go_wp2
    simp [bodyPost, results, Try.results26, go_sem]
    (repeat (first | with_reducible assumption | with_reducible exact Below.refl _ _ | ((with_reducible refine Below.setCell ?_ ?_ _); rotate_left; (first | exact Nat.le_refl _ | (dsimp only; omega) | (simp; done) | (simp; omega))) | with_reducible refine below_alloc ?_ _ | with_reducible apply below_drewN | with_reducible apply Below.drew | with_reducible refine below_step ?_ (by assumption)))
  · have hb2 : (b == 0) = false := by simpa using hb
    obtain ⟨g, hg⟩ : ∃ t, decide (x < 0) = t := ⟨_, rfl⟩
    obtain ⟨m, hm⟩ : ∃ t, (x.natAbs : Int) = t := ⟨_, rfl⟩
    have ko := fun w => cROf b w b0 b1
    obtain ⟨h, hh⟩ : ∃ t, decide (b < 0) = t := ⟨_, rfl⟩
    obtain ⟨n, hn⟩ : ∃ t, (b.natAbs : Int) = t := ⟨_, rfl⟩
    have m0 : 0 ≤ m := by omega
    have m1 : m ≤ 170141183460469231731687303715884105728 := by omega
    have n0 : 0 < n := by omega
    have n1 : n ≤ 9223372036854775808 := by omega
    rw [hg, hm]
    rw [hh, hn] at ko
    have kv := fun w => cROver m n w m0 (by omega) n0 (by omega)
    obtain ⟨q, hq⟩ : ∃ t, m / n = t := ⟨_, rfl⟩
    obtain ⟨r, hr⟩ : ∃ t, m % n = t := ⟨_, rfl⟩
    obtain ⟨r2, hr2⟩ : ∃ t, 2 * r = t := ⟨_, rfl⟩
    obtain ⟨up, hup⟩ : ∃ t, (decide (n < r2) || (decide (r2 = n) && decide (q % 2 = 1))) = t := ⟨_, rfl⟩
    have hQn := qn_cases m n q r r2 hq hr hr2
    rw [hup] at hQn
    obtain ⟨Q, hQ⟩ : ∃ t, qn m n = t := ⟨_, rfl⟩
    rw [hQ] at hQn
    have HX := Lib.hid (dok_of x b m n Q g h hm hg hn hh hb hQ)
    rw [hq, hr] at kv
    have r0 : 0 ≤ r := by rw [← hr]; exact Int.emod_nonneg _ (by omega)
    have r1 : r < n := by rw [← hr]; exact Int.emod_lt_of_pos _ n0
    have q0 : 0 ≤ q := by rw [← hq]; exact Int.ediv_nonneg m0 (by omega)
    have q1 : q ≤ m := by rw [← hq]; exact Int.ediv_le_self _ m0
    have kt := fun w => cRTwice r 0 w r0 (by omega) (by decide) (by decide)
    rw [show (2 * r + 0) % 340282366920938463463374607431768211456 = r2 by omega] at kt
    have kl := fun w => cRLess n r2 w (by omega) (by omega) (by omega) (by omega)
    have ke := fun w => eqDg r2 n (by omega) (by omega) (by omega) (by omega) w
    have kp := fun w => cRPlus q 1 w q0 (by omega) (by decide) (by decide)
    rw [show (q + 1) % 340282366920938463463374607431768211456 = q + 1 by omega, show d0 1 = 1 by decide, show d1 1 = 0 by decide, show d2 1 = 0 by decide, show d3 1 = 0 by decide] at kp
    have Q0 : 0 ≤ Q := by rw [hQn]; split <;> omega
    have Q1 : Q ≤ 170141183460469231731687303715884105729 := by rw [hQn]; split <;> omega
    have HQ := Lib.hid hQn
    have HU := Lib.hid hup
    have hq2 : d0 q % 2 = q % 2 := by unfold d0; omega
    have d0q := d0_bd q
    clear hQn hup hg hm hh hn hx hq hr hr2 hQ hb
    generalize dq x b = X at *
    generalize dok x b = Y at *
    go_enter Try.func26, Try.ntmps26
    go_wp2_with (fail)
    (go_at_call 39; (with_reducible refine (ko _).mono ?_); rintro e w1 ⟨rfl, hM⟩)
    rename World => wd
    have B1 : Below w.heap.size w wd := below_step (W := _) (by (repeat (first | with_reducible assumption | with_reducible exact Below.refl _ _ | ((with_reducible refine Below.setCell ?_ ?_ _); rotate_left; (first | exact Nat.le_refl _ | (dsimp only; omega) | (simp; done) | (simp; omega))) | with_reducible refine below_alloc ?_ _ | with_reducible apply below_drewN | with_reducible apply Below.drew | with_reducible refine below_step ?_ (by assumption)))) hM
    have hz := hM.size
    simp at hz
    have ha := Nc.later (W := _) (B := w.heap.size) (g := g) (x0 := d0 m) (x1 := d1 m) (x2 := d2 m) (x3 := d3 m) (by unfold Nc; simp [go_sem]) hM
    have ha := ha.later ((Below.refl _ _).alloc (Nat.le_refl _) (Obj.cells #[.bool h, .int .u64 (d0 n), .int .u64 (d1 n), .int .u64 (d2 n), .int .u64 (d3 n)] 51))
    have hd : Nc wd.heap.size h (d0 n) (d1 n) (d2 n) (d3 n) (wd.alloc (Obj.cells #[.bool h, .int .u64 (d0 n), .int .u64 (d1 n), .int .u64 (d2 n), .int .u64 (d3 n)] 51)) := by unfold Nc; simp [go_sem]
    clear hM ko
    obtain ⟨⟨u0, u1, u2, u3, u4⟩, u5⟩ := id ha
    obtain ⟨⟨v0, v1, v2, v3, v4⟩, v5⟩ := id hd
    go_wp2_with (fail)
    go_at_call 40
    refine (kv _).mono ?_
    rintro e w2 ⟨rfl, hB⟩
    have B2 : Below w.heap.size w w2 := below_step (W := _) (by (repeat (first | with_reducible assumption | with_reducible exact Below.refl _ _ | ((with_reducible refine Below.setCell ?_ ?_ _); rotate_left; (first | exact Nat.le_refl _ | (dsimp only; omega) | (simp; done) | (simp; omega))) | with_reducible refine below_alloc ?_ _ | with_reducible apply below_drewN | with_reducible apply Below.drew | with_reducible refine below_step ?_ (by assumption)))) hB
    have hz2 := hB.size
    simp at hz2
    have ha := ha.later hB
    have hd := hd.later hB
    clear hB kv u0 u1 u2 u3 u4 u5 v0 v1 v2 v3 v4 v5
    have hW : DW w w.heap.size wd.heap.size w2.heap.size g h m n q ((w2.alloc (Obj.cells #[.int .u64 (d0 q), .int .u64 (d1 q), .int .u64 (d2 q), .int .u64 (d3 q)] 49)).alloc (Obj.cells #[.int .u64 (d0 r), .int .u64 (d1 r), .int .u64 (d2 r), .int .u64 (d3 r)] 49)) :=
      ⟨by (repeat (first | with_reducible assumption | with_reducible exact Below.refl _ _ | ((with_reducible refine Below.setCell ?_ ?_ _); rotate_left; (first | exact Nat.le_refl _ | (dsimp only; omega) | (simp; done) | (simp; omega))) | with_reducible refine below_alloc ?_ _ | with_reducible apply below_drewN | with_reducible apply Below.drew | with_reducible refine below_step ?_ (by assumption))), (ha.later ((Below.refl _ _).alloc (Nat.le_refl _) (Obj.cells #[.int .u64 (d0 q), .int .u64 (d1 q), .int .u64 (d2 q), .int .u64 (d3 q)] 49))).later ((Below.refl _ _).alloc (Nat.le_refl _) (Obj.cells #[.int .u64 (d0 r), .int .u64 (d1 r), .int .u64 (d2 r), .int .u64 (d3 r)] 49)), (hd.later ((Below.refl _ _).alloc (Nat.le_refl _) (Obj.cells #[.int .u64 (d0 q), .int .u64 (d1 q), .int .u64 (d2 q), .int .u64 (d3 q)] 49))).later ((Below.refl _ _).alloc (Nat.le_refl _) (Obj.cells #[.int .u64 (d0 r), .int .u64 (d1 r), .int .u64 (d2 r), .int .u64 (d3 r)] 49)), by unfold Rc; simp [go_sem], Nat.le_refl _, by omega, by omega, by omega, by simp; omega⟩
    clear ha hd
    go_wp2_with (fail)
    (go_at_call 41; (with_reducible refine (kt _).mono ?_); rintro e w1 ⟨rfl, hM⟩)
    rename World => wt
    have H := hW.later hM
    clear hM hW kt
    go_upto_region 6 with (fail)
    have Ht := H.later ((Below.refl _ _).alloc (Nat.le_refl _) (Obj.cells #[.int .u64 (d0 r2), .int .u64 (d1 r2), .int .u64 (d2 r2), .int .u64 (d3 r2)] 49))
    have ht : Rc wt.heap.size (d0 r2) (d1 r2) (d2 r2) (d3 r2) (wt.alloc (Obj.cells #[.int .u64 (d0 r2), .int .u64 (d1 r2), .int .u64 (d2 r2), .int .u64 (d3 r2)] 49)) := by unfold Rc; simp [go_sem]
    clear H
    go_cut [42] (fun a wx => a = .bool up ∧ DW w w.heap.size wd.heap.size w2.heap.size g h m n q wx)
    case first =>
      obtain ⟨HB0, ⟨⟨u0, u1, u2, u3, u4⟩, u5⟩, ⟨⟨v0, v1, v2, v3, v4⟩, v5⟩, ⟨⟨c0, c1, c2, c3⟩, c4⟩, f1, f2, f3, f4, f5⟩ := id Ht
      obtain ⟨⟨s0, s1, s2, s3⟩, s4⟩ := id ht
      rcases (show n < r2 ∨ (r2 = n ∧ q % 2 = 1) ∨ (r2 = n ∧ q % 2 = 0) ∨ r2 < n by omega) with hs | hs | hs | hs
      · have t1 := decide_eq_true hs
        rw [t1] at kl
        have eu : Hid (up = true) := Lib.hid (by rw [← HU.out]; simp; omega)
        have HS := Lib.hid hs
        clear hs
        go_wp2_with (fail)
        (go_at_call 42; (with_reducible refine (kl _).mono ?_); rintro e w1 ⟨rfl, hM⟩)
        have H5 := Ht.later hM
        have h5 := ht.later hM
        clear HB0 u0 u1 u2 u3 u4 u5 v0 v1 v2 v3 v4 v5 c0 c1 c2 c3 c4 f1 f2 f3 f4 f5
        clear s0 s1 s2 s3 s4
        obtain ⟨HB0, ⟨⟨u0, u1, u2, u3, u4⟩, u5⟩, ⟨⟨v0, v1, v2, v3, v4⟩, v5⟩, ⟨⟨c0, c1, c2, c3⟩, c4⟩, f1, f2, f3, f4, f5⟩ := id H5
        obtain ⟨⟨s0, s1, s2, s3⟩, s4⟩ := id h5
        go_wp2
        go_meet
        exact ⟨by rw [eu.out], H5⟩
      · rw [decide_eq_false (show ¬ n < r2 by omega)] at kl
        rw [decide_eq_true hs.1] at ke
        have t3 : (q % 2 == 1) = true := by simpa using hs.2
        have eu : Hid (up = true) := Lib.hid (by rw [← HU.out]; simp; omega)
        have HS := Lib.hid hs
        clear hs
        go_wp2_with (fail)
        (go_at_call 42; (with_reducible refine (kl _).mono ?_); rintro e w1 ⟨rfl, hM⟩)
        have H5 := Ht.later hM
        have h5 := ht.later hM
        clear HB0 u0 u1 u2 u3 u4 u5 v0 v1 v2 v3 v4 v5 c0 c1 c2 c3 c4 f1 f2 f3 f4 f5
        clear s0 s1 s2 s3 s4
        obtain ⟨HB0, ⟨⟨u0, u1, u2, u3, u4⟩, u5⟩, ⟨⟨v0, v1, v2, v3, v4⟩, v5⟩, ⟨⟨c0, c1, c2, c3⟩, c4⟩, f1, f2, f3, f4, f5⟩ := id H5
        obtain ⟨⟨s0, s1, s2, s3⟩, s4⟩ := id h5
        go_wp2
        go_meet
        exact ⟨by rw [eu.out], H5⟩
      · rw [decide_eq_false (show ¬ n < r2 by omega)] at kl
        rw [decide_eq_true hs.1] at ke
        have t3 : (q % 2 == 1) = false := by simp; omega
        have eu : Hid (up = false) := Lib.hid (by rw [← HU.out]; simp; omega)
        have HS := Lib.hid hs
        clear hs
        go_wp2_with (fail)
        (go_at_call 42; (with_reducible refine (kl _).mono ?_); rintro e w1 ⟨rfl, hM⟩)
        have H5 := Ht.later hM
        have h5 := ht.later hM
        clear HB0 u0 u1 u2 u3 u4 u5 v0 v1 v2 v3 v4 v5 c0 c1 c2 c3 c4 f1 f2 f3 f4 f5
        clear s0 s1 s2 s3 s4
        obtain ⟨HB0, ⟨⟨u0, u1, u2, u3, u4⟩, u5⟩, ⟨⟨v0, v1, v2, v3, v4⟩, v5⟩, ⟨⟨c0, c1, c2, c3⟩, c4⟩, f1, f2, f3, f4, f5⟩ := id H5
        obtain ⟨⟨s0, s1, s2, s3⟩, s4⟩ := id h5
        go_wp2
        go_meet
        exact ⟨by rw [eu.out], H5⟩
      · rw [decide_eq_false (show ¬ n < r2 by omega)] at kl
        rw [decide_eq_false (show ¬ r2 = n by omega)] at ke
        have eu : Hid (up = false) := Lib.hid (by rw [← HU.out]; simp; omega)
        have HS := Lib.hid hs
        clear hs
        go_wp2_with (fail)
        (go_at_call 42; (with_reducible refine (kl _).mono ?_); rintro e w1 ⟨rfl, hM⟩)
        have H5 := Ht.later hM
        have h5 := ht.later hM
        clear HB0 u0 u1 u2 u3 u4 u5 v0 v1 v2 v3 v4 v5 c0 c1 c2 c3 c4 f1 f2 f3 f4 f5
        clear s0 s1 s2 s3 s4
        obtain ⟨HB0, ⟨⟨u0, u1, u2, u3, u4⟩, u5⟩, ⟨⟨v0, v1, v2, v3, v4⟩, v5⟩, ⟨⟨c0, c1, c2, c3⟩, c4⟩, f1, f2, f3, f4, f5⟩ := id H5
        obtain ⟨⟨s0, s1, s2, s3⟩, s4⟩ := id h5
        go_wp2
        go_meet
        exact ⟨by rw [eu.out], H5⟩
    case rest =>
      obtain ⟨rfl, H⟩ := hcut
      clear kl ke Ht ht
      go_upto_if 42 with (fail)
      go_cut [] (fun wx => DW w w.heap.size wd.heap.size w2.heap.size g h m n Q wx)
      case first =>
        cases up with
        | false =>
          have e : Q = q := by rw [HQ.out]; rfl
          go_wp2
          go_meet
          rw [e]; exact H
        | true =>
          have e : Q = q + 1 := by rw [HQ.out]; rfl
          obtain ⟨HB0, ⟨⟨u0, u1, u2, u3, u4⟩, u5⟩, ⟨⟨v0, v1, v2, v3, v4⟩, v5⟩, ⟨⟨c0, c1, c2, c3⟩, c4⟩, f1, f2, f3, f4, f5⟩ := id H
          go_wp2_with (fail)
          (go_at_call 43; (with_reducible refine (kp _).mono ?_); rintro e w1 ⟨rfl, hM⟩)
          have H6 := (H.later ((Below.refl _ _).alloc (Nat.le_refl _) (Obj.cells #[.int .u64 1, .int .u64 0, .int .u64 0, .int .u64 0] 49))).later hM
          clear hM
          clear HB0 u0 u1 u2 u3 u4 u5 v0 v1 v2 v3 v4 v5 c0 c1 c2 c3 c4 f1 f2 f3 f4 f5
          obtain ⟨HB0, ⟨⟨u0, u1, u2, u3, u4⟩, u5⟩, ⟨⟨v0, v1, v2, v3, v4⟩, v5⟩, ⟨⟨c0, c1, c2, c3⟩, c4⟩, f1, f2, f3, f4, f5⟩ := id H6
          go_wp2
          go_meet
          rw [e]; exact H6.put (q + 1)
      case rest =>
        have z0 := d0_bd Q
        have z1 := d1_bd Q
        have z2 := d2_bd Q
        have z3 := d3_bd Q
        have zq := dg Q Q0 (by omega)
        obtain ⟨HB0, ⟨⟨u0, u1, u2, u3, u4⟩, u5⟩, ⟨⟨v0, v1, v2, v3, v4⟩, v5⟩, ⟨⟨c0, c1, c2, c3⟩, c4⟩, f1, f2, f3, f4, f5⟩ := id hcut
        obtain ⟨ng, hng⟩ : ∃ t, (g != h) = t := ⟨_, rfl⟩
        rw [hng] at HX
        clear HQ HU hcut
        by_cases y2 : d2 Q = 0
        · by_cases y3 : d3 Q = 0
          · have y2' : (d2 Q != 0) = false := by simp [y2]
            have y3' : (d3 Q != 0) = false := by simp [y3]
            have zz : d1 Q * 4294967296 + d0 Q = Q := by omega
            have w1' : IntKind.u64.wrap (d1 Q * 4294967296) = d1 Q * 4294967296 := IntWalk.u64_in _ (by omega)
            have w2' : IntKind.u64.wrap (d1 Q * 4294967296 + d0 Q) = Q := by rw [zz]; exact IntWalk.u64_in _ (by omega)
            have Q2 : Q ≤ 18446744073709551615 := by omega
            cases ng with
            | true =>
              have hgh := bne_t g h hng
              by_cases yb : 9223372036854775808 < Q
              · have EY : Hid (Y = false) := Lib.hid (by rw [HX.out.1]; unfold fx; simp; omega)
                have EX : Hid (X = 0) := Lib.hid (by rw [HX.out.2, ← HX.out.1, EY.out]; rfl)
                clear HX zq y2 y3 hng
                rcases hgh with ⟨rfl, rfl⟩ | ⟨rfl, rfl⟩
                all_goals go_wp2
                all_goals go_ret2
                all_goals exact ⟨by rw [EX.out, EY.out]; rfl, by (repeat (first | with_reducible assumption | with_reducible exact Below.refl _ _ | ((with_reducible refine Below.setCell ?_ ?_ _); rotate_left; (first | exact Nat.le_refl _ | (dsimp only; omega) | (simp; done) | (simp; omega))) | with_reducible refine below_alloc ?_ _ | with_reducible apply below_drewN | with_reducible apply Below.drew | with_reducible refine below_step ?_ (by assumption)))⟩
              · have EY : Hid (Y = true) := Lib.hid (by rw [HX.out.1]; unfold fx; simp; omega)
                have EX : Hid (X = -Q) := Lib.hid (by rw [HX.out.2, ← HX.out.1, EY.out]; rfl)
                have w3 : wrap64 (IntKind.u64.wrap (-Q)) = -Q := by unfold wrap64; rw [IntKind.wrap_u64]; omega
                clear HX zq y2 y3 hng
                rcases hgh with ⟨rfl, rfl⟩ | ⟨rfl, rfl⟩
                all_goals go_wp2
                all_goals go_ret2
                all_goals exact ⟨by rw [EX.out, EY.out]; first | rfl | (simp [w3]; done), by (repeat (first | with_reducible assumption | with_reducible exact Below.refl _ _ | ((with_reducible refine Below.setCell ?_ ?_ _); rotate_left; (first | exact Nat.le_refl _ | (dsimp only; omega) | (simp; done) | (simp; omega))) | with_reducible refine below_alloc ?_ _ | with_reducible apply below_drewN | with_reducible apply Below.drew | with_reducible refine below_step ?_ (by assumption)))⟩
            | false =>
              have hgh := bne_f g h hng
              by_cases yb : 9223372036854775807 < Q
              · have EY : Hid (Y = false) := Lib.hid (by rw [HX.out.1]; unfold fx; simp; omega)
                have EX : Hid (X = 0) := Lib.hid (by rw [HX.out.2, ← HX.out.1, EY.out]; rfl)
                clear HX zq y2 y3 hng
                rcases hgh with ⟨rfl, rfl⟩ | ⟨rfl, rfl⟩
                all_goals go_wp2
                all_goals go_ret2
                all_goals exact ⟨by rw [EX.out, EY.out]; rfl, by (repeat (first | with_reducible assumption | with_reducible exact Below.refl _ _ | ((with_reducible refine Below.setCell ?_ ?_ _); rotate_left; (first | exact Nat.le_refl _ | (dsimp only; omega) | (simp; done) | (simp; omega))) | with_reducible refine below_alloc ?_ _ | with_reducible apply below_drewN | with_reducible apply Below.drew | with_reducible refine below_step ?_ (by assumption)))⟩
              · have EY : Hid (Y = true) := Lib.hid (by rw [HX.out.1]; unfold fx; simp; omega)
                have EX : Hid (X = Q) := Lib.hid (by rw [HX.out.2, ← HX.out.1, EY.out]; rfl)
                have w3 : wrap64 Q = Q := by unfold wrap64; omega
                clear HX zq y2 y3 hng
                rcases hgh with ⟨rfl, rfl⟩ | ⟨rfl, rfl⟩
                all_goals go_wp2
                all_goals go_ret2
                all_goals exact ⟨by rw [EX.out, EY.out]; first | rfl | (simp [w3]; done), by (repeat (first | with_reducible assumption | with_reducible exact Below.refl _ _ | ((with_reducible refine Below.setCell ?_ ?_ _); rotate_left; (first | exact Nat.le_refl _ | (dsimp only; omega) | (simp; done) | (simp; omega))) | with_reducible refine below_alloc ?_ _ | with_reducible apply below_drewN | with_reducible apply Below.drew | with_reducible refine below_step ?_ (by assumption)))⟩
          · have y2' : (d2 Q != 0) = false := by simp [y2]
            have y3' : (d3 Q != 0) = true := by simp [y3]
            have Q2 : 18446744073709551616 ≤ Q := by omega
            have EY : Hid (Y = false) := Lib.hid (by rw [HX.out.1]; unfold fx; split <;> simp <;> omega)
            have EX : Hid (X = 0) := Lib.hid (by rw [HX.out.2, ← HX.out.1, EY.out]; rfl)
            clear HX zq y2 y3
            go_wp2
            go_ret2
            exact ⟨by rw [EX.out, EY.out]; rfl, by (repeat (first | with_reducible assumption | with_reducible exact Below.refl _ _ | ((with_reducible refine Below.setCell ?_ ?_ _); rotate_left; (first | exact Nat.le_refl _ | (dsimp only; omega) | (simp; done) | (simp; omega))) | with_reducible refine below_alloc ?_ _ | with_reducible apply below_drewN | with_reducible apply Below.drew | with_reducible refine below_step ?_ (by assumption)))⟩
        · have y2' : (d2 Q != 0) = true := by simp [y2]
          have Q2 : 18446744073709551616 ≤ Q := by omega
          have EY : Hid (Y = false) := Lib.hid (by rw [HX.out.1]; unfold fx; split <;> simp <;> omega)
          have EX : Hid (X = 0) := Lib.hid (by rw [HX.out.2, ← HX.out.1, EY.out]; rfl)
          clear HX zq y2
          go_wp2
          go_ret2
          exact ⟨by rw [EX.out, EY.out]; rfl, by (repeat (first | with_reducible assumption | with_reducible exact Below.refl _ _ | ((with_reducible refine Below.setCell ?_ ?_ _); rotate_left; (first | exact Nat.le_refl _ | (dsimp only; omega) | (simp; done) | (simp; omega))) | with_reducible refine below_alloc ?_ _ | with_reducible apply below_drewN | with_reducible apply Below.drew | with_reducible refine below_step ?_ (by assumption)))⟩
end Go.Proofs.Ytdbbandpobifhaa
