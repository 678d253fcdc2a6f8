/- The plain law of PlaneMeets, PlaneMeeting. -/
import Derived.Test.YtcijddjfadcanaaH9
set_option linter.unusedSimpArgs false
set_option linter.unusedVariables false
namespace Go.Proofs.Ytcijddjfadcanaa
open Go.RowKit
theorem sgn_nil (n : Int) : sgn n = 0 ↔ n = 0 := by unfold sgn cmp3; split <;> (try split) <;> omega
/-- Is a place on a stretch? -/
def tch (ax ay bx bY px py : Int) : Bool := if (ax = bx ∧ ay = bY) then decide (ax = px ∧ ay = py) else (decide (ar ax ay bx bY px py = 0) && wn ax ay bx bY px py)
def btw (n a b : Int) : Bool := decide (min a b ≤ n ∧ n ≤ max a b)
def on7 (ax ay bx bY px py : Int) : Bool := btw px ax bx && btw py ay bY
theorem sq_nn (a : Int) : 0 ≤ a * a := by
  rcases (show 0 ≤ a ∨ 0 ≤ -a by omega) with h | h
  · exact Int.mul_nonneg h h
  · rw [← Int.neg_mul_neg]; exact Int.mul_nonneg h h
theorem sq_pos (d e : Int) (h : ¬ (d = 0 ∧ e = 0)) : 0 < d * d + e * e := by
  have h1 : 0 ≤ d * d := sq_nn d
  have h2 : 0 ≤ e * e := sq_nn e
  by_cases hd : d = 0
  · have he : e ≠ 0 := fun h3 => h ⟨hd, h3⟩
    have : e * e ≠ 0 := fun h3 => by rcases Int.mul_eq_zero.1 h3 with h4 | h4 <;> exact he h4
    omega
  · have : d * d ≠ 0 := fun h3 => by rcases Int.mul_eq_zero.1 h3 with h4 | h4 <;> exact hd h4
    omega
theorem nn_of_mul (a b : Int) (hb : 0 < b) (h : 0 ≤ a * b) : 0 ≤ a := by
  apply Classical.byContradiction
  intro h2
  have := Int.mul_neg_of_neg_of_pos (a := a) (b := b) (by omega) hb
  omega
/-- Ways of one line, that go together: both parts go together. -/
theorem colin (dx dy ex ey : Int) (h0 : ¬ (dx = 0 ∧ dy = 0)) (hc : dx * ey = dy * ex) (hd : 0 ≤ dx * ex + dy * ey) : 0 ≤ dx * ex ∧ 0 ≤ dy * ey := by
  have hp := sq_pos dx dy h0
  constructor
  · apply nn_of_mul _ _ hp
    rw [show dx * ex * (dx * dx + dy * dy) = (dx * dx) * (dx * ex + dy * ey) + dx * dy * (dy * ex - dx * ey) by grind, hc]
    rw [Int.sub_self, Int.mul_zero, Int.add_zero]
    exact Int.mul_nonneg (sq_nn dx) hd
  · apply nn_of_mul _ _ hp
    rw [show dy * ey * (dx * dx + dy * dy) = (dy * dy) * (dx * ex + dy * ey) + dx * dy * (dx * ey - dy * ex) by grind, hc]
    rw [Int.sub_self, Int.mul_zero, Int.add_zero]
    exact Int.mul_nonneg (sq_nn dy) hd
theorem in_box (a b p other : Int) (h1 : 0 ≤ (b - a) * (p - a)) (h2 : 0 ≤ (a - b) * (p - b)) (hz : a = b → p = a) : min a b ≤ p ∧ p ≤ max a b := by
  rcases (show a = b ∨ a < b ∨ b < a by omega) with h | h | h
  · have := hz h; omega
  · have g1 : 0 ≤ p - a := nn_of_mul _ (b - a) (by omega) (by rw [Int.mul_comm]; exact h1)
    have g2 : 0 ≤ b - p := nn_of_mul _ (b - a) (by omega) (by rw [show (b - p) * (b - a) = (a - b) * (p - b) by grind]; exact h2)
    omega
  · have g1 : 0 ≤ a - p := nn_of_mul _ (a - b) (by omega) (by rw [show (a - p) * (a - b) = (b - a) * (p - a) by grind]; exact h1)
    have g2 : 0 ≤ p - b := nn_of_mul _ (a - b) (by omega) (by rw [Int.mul_comm]; exact h2)
    omega
theorem box_in (a b p : Int) (h : min a b ≤ p ∧ p ≤ max a b) : 0 ≤ (b - a) * (p - a) ∧ 0 ≤ (a - b) * (p - b) := by
  rcases (show (a ≤ p ∧ p ≤ b) ∨ (b ≤ p ∧ p ≤ a) by omega) with ⟨h1, h2⟩ | ⟨h1, h2⟩
  · refine ⟨Int.mul_nonneg (by omega) (by omega), ?_⟩
    rw [show (a - b) * (p - b) = (b - a) * (b - p) by grind]
    exact Int.mul_nonneg (by omega) (by omega)
  · refine ⟨?_, Int.mul_nonneg (by omega) (by omega)⟩
    rw [show (b - a) * (p - a) = (a - b) * (a - p) by grind]
    exact Int.mul_nonneg (by omega) (by omega)
theorem tch_on (ax ay bx bY px py : Int) : tch ax ay bx bY px py = (decide (ar ax ay bx bY px py = 0) && on7 ax ay bx bY px py) := by
  unfold tch on7 btw
  by_cases h : ax = bx ∧ ay = bY
  · rw [if_pos h]
    obtain ⟨rfl, rfl⟩ := h
    rw [show ar ax ay ax ay px py = 0 by unfold ar; simp, Bool.eq_iff_iff]
    simp only [decide_true, Bool.true_and, Bool.and_eq_true, decide_eq_true_eq]
    omega
  · rw [if_neg h, Bool.eq_iff_iff]
    unfold wn
    simp only [Bool.and_eq_true, decide_eq_true_eq]
    constructor
    · rintro ⟨h1, h2, h3⟩
      refine ⟨h1, ?_⟩
      unfold ar at h1
      unfold dp at h2 h3
      have c1 := colin (bx - ax) (bY - ay) (px - ax) (py - ay) (by omega) (by omega) h2
      have c2 := colin (ax - bx) (ay - bY) (px - bx) (py - bY) (by omega) (by grind) h3
      constructor
      · apply in_box ax bx px 0 c1.1 c2.1
        intro e
        rw [e, Int.sub_self, Int.zero_mul, Int.zero_sub] at h1
        have : bY - ay ≠ 0 := by omega
        have := (Int.mul_eq_zero.1 (Int.neg_eq_zero.1 h1)).resolve_left this
        omega
      · apply in_box ay bY py 0 c1.2 c2.2
        intro e
        rw [e, Int.sub_self, Int.zero_mul, Int.sub_zero] at h1
        have : bx - ax ≠ 0 := by omega
        have := (Int.mul_eq_zero.1 h1).resolve_left this
        omega
    · rintro ⟨h1, h2, h3⟩
      have b1 := box_in ax bx px h2
      have b2 := box_in ay bY py h3
      exact ⟨h1, by unfold dp; omega, by unfold dp; omega⟩
theorem sd_bd1 (ax ay bx bY px py : Int) : sd ax ay bx bY px py = -1 ∨ sd ax ay bx bY px py = 0 ∨ sd ax ay bx bY px py = 1 := by
  unfold sd sgn cmp3
  split <;> (try split) <;> (try split) <;> simp
theorem sd_pr (ax ay bx bY px py a' b' c' d' e' f' : Int) : -1 ≤ sd ax ay bx bY px py * sd a' b' c' d' e' f' ∧ sd ax ay bx bY px py * sd a' b' c' d' e' f' ≤ 1 := by
  rcases sd_bd1 ax ay bx bY px py with h | h | h <;> rcases sd_bd1 a' b' c' d' e' f' with h' | h' | h' <;> rw [h, h'] <;> decide
/-- Do stretches meet? -/
def mt (ax ay bx bY px py qx qy : Int) : Bool :=
  (pn ax ay && pn bx bY && pn px py && pn qx qy) && ((tch ax ay bx bY px py || tch ax ay bx bY qx qy || tch px py qx qy ax ay || tch px py qx qy bx bY) ||
    (decide (sd ax ay bx bY px py * sd ax ay bx bY qx qy < 0) && decide (sd px py qx qy ax ay * sd px py qx qy bx bY < 0)))
theorem sd_near (ax ay bx bY px py : Int) (ha : pn ax ay = true) (hb : pn bx bY = true) (hp : pn px py = true) : sd ax ay bx bY px py = sgn (ar ax ay bx bY px py) := by
  unfold sd; rw [ha, hb, hp]; rfl
/-- The document's way to tell it. -/
theorem mt_doc (ax ay bx bY px py qx qy : Int) (ha : pn ax ay = true) (hb : pn bx bY = true) (hp : pn px py = true) (hq : pn qx qy = true) :
    mt ax ay bx bY px py qx qy = (if (decide (sd ax ay bx bY px py * sd ax ay bx bY qx qy < 0) && decide (sd px py qx qy ax ay * sd px py qx qy bx bY < 0)) = true then true else
      (decide (sd ax ay bx bY px py = 0) && on7 ax ay bx bY px py || decide (sd ax ay bx bY qx qy = 0) && on7 ax ay bx bY qx qy || decide (sd px py qx qy ax ay = 0) && on7 px py qx qy ax ay || decide (sd px py qx qy bx bY = 0) && on7 px py qx qy bx bY)) := by
  unfold mt
  rw [tch_on, tch_on, tch_on, tch_on, sd_near ax ay bx bY px py ha hb hp, sd_near ax ay bx bY qx qy ha hb hq, sd_near px py qx qy ax ay hp hq ha, sd_near px py qx qy bx bY hp hq hb, ha, hb, hp, hq]
  simp only [sgn_nil]
  split
  · next h => rw [h]; simp
  · next h => rw [Bool.not_eq_true] at h; rw [h]; simp
theorem tch_turn (ax ay bx bY px py : Int) : tch bx bY ax ay px py = tch ax ay bx bY px py := by
  rw [tch_on, tch_on, ar_turn]
  unfold on7 btw
  rw [Int.min_comm bx ax, Int.max_comm bx ax, Int.min_comm bY ay, Int.max_comm bY ay]
  congr 1
  rw [decide_eq_decide]; omega
theorem mt_turn (ax ay bx bY px py qx qy : Int) : mt px py qx qy bx bY ax ay = mt ax ay bx bY px py qx qy := by
  unfold mt
  rw [tch_turn ax ay bx bY px py, tch_turn ax ay bx bY qx qy, sd_turn ax ay bx bY px py, sd_turn ax ay bx bY qx qy, Int.neg_mul_neg, Int.mul_comm (sd px py qx qy bx bY)]
  generalize tch ax ay bx bY px py = t1
  generalize tch ax ay bx bY qx qy = t2
  generalize tch px py qx qy ax ay = t3
  generalize tch px py qx qy bx bY = t4
  generalize decide (sd ax ay bx bY px py * sd ax ay bx bY qx qy < 0) = t5
  generalize decide (sd px py qx qy ax ay * sd px py qx qy bx bY < 0) = t6
  generalize pn ax ay = n1; generalize pn bx bY = n2; generalize pn px py = n3; generalize pn qx qy = n4
  cases n1 <;> cases n2 <;> cases n3 <;> cases n4 <;> (try rfl) <;> simp only [Bool.and_true, Bool.true_and] <;> cases t1 <;> cases t2 <;> cases t3 <;> cases t4 <;> cases t5 <;> cases t6 <;> rfl
/-- A place of a line, both of whose ends lie on the two sides of another line through it, is on the stretch. -/
theorem tch_of (ax ay bx bY px py qx qy : Int) (h0 : ar ax ay bx bY px py = 0) (h1 : 0 ≤ ar px py qx qy ax ay) (h2 : ar px py qx qy bx bY ≤ 0) (h3 : ar px py qx qy bx bY < ar px py qx qy ax ay) : tch ax ay bx bY px py = true := by
  have hn : ¬ (ax = bx ∧ ay = bY) := by rintro ⟨rfl, rfl⟩; omega
  unfold tch
  rw [if_neg hn, h0]
  unfold wn
  have hp := sq_pos (bx - ax) (bY - ay) (by omega)
  simp only [decide_true, Bool.true_and, Bool.and_eq_true, decide_eq_true_eq]
  have e1 : dp ax ay bx bY px py * (ar px py qx qy ax ay - ar px py qx qy bx bY) = ((bx - ax) * (bx - ax) + (bY - ay) * (bY - ay)) * ar px py qx qy ax ay + ((qx - px) * (bx - ax) + (qy - py) * (bY - ay)) * ar ax ay bx bY px py := by
    unfold ar dp; grind
  have e2 : dp bx bY ax ay px py * (ar px py qx qy ax ay - ar px py qx qy bx bY) = ((bx - ax) * (bx - ax) + (bY - ay) * (bY - ay)) * (-ar px py qx qy bx bY) - ((qx - px) * (bx - ax) + (qy - py) * (bY - ay)) * ar ax ay bx bY px py := by
    unfold ar dp; grind
  rw [h0, Int.mul_zero] at e1 e2
  constructor
  · apply nn_of_mul _ _ (by omega : 0 < ar px py qx qy ax ay - ar px py qx qy bx bY)
    rw [e1, Int.add_zero]; exact Int.mul_nonneg (by omega) h1
  · apply nn_of_mul _ _ (by omega : 0 < ar px py qx qy ax ay - ar px py qx qy bx bY)
    rw [e2, Int.sub_zero]; exact Int.mul_nonneg (by omega) (by omega)
theorem mt_of_cxb (ax ay bx bY px py qx qy : Int) (h : cxb ax ay bx bY px py qx qy = true) : mt ax ay bx bY px py qx qy = true := by
  unfold cxb at h
  simp only [Bool.and_eq_true, Bool.not_eq_true', Bool.or_eq_false_iff, decide_eq_false_iff_not] at h
  obtain ⟨⟨⟨⟨⟨ha, hb⟩, hp⟩, hq⟩, h1, h2⟩, h3, h4⟩ := h
  unfold mt
  rw [sd_near ax ay bx bY px py ha hb hp, sd_near ax ay bx bY qx qy ha hb hq]
  rw [sd_near px py qx qy ax ay hp hq ha, sgn_neg'] at h3
  rw [sd_near px py qx qy bx bY hp hq hb] at h4
  have h4' := (sgn_neg' _).1 (Int.not_le.1 h4)
  rw [sd_near px py qx qy ax ay hp hq ha, sd_near px py qx qy bx bY hp hq hb, ha, hb, hp, hq]
  simp only [Bool.true_and]
  by_cases s0 : ar ax ay bx bY px py = 0
  · rw [tch_of ax ay bx bY px py qx qy s0 (by omega) (by omega) (by omega)]; simp
  · by_cases e0 : ar px py qx qy ax ay = 0
    · have : tch px py qx qy ax ay = true := by
        rw [← tch_turn]
        exact tch_of qx qy px py ax ay bx bY (by rw [ar_turn, e0]; rfl) (by omega) (by omega) (by omega)
      rw [this]; simp
    · have a1 : sgn (ar ax ay bx bY px py) < 0 := (sgn_neg' _).2 (by omega)
      have a2 : 0 < sgn (ar ax ay bx bY qx qy) := (sgn_pos _).2 (by omega)
      have a3 : 0 < sgn (ar px py qx qy ax ay) := (sgn_pos _).2 (by omega)
      have a4 : sgn (ar px py qx qy bx bY) < 0 := (sgn_neg' _).2 h4'
      rw [decide_eq_true (Int.mul_neg_of_neg_of_pos a1 a2), decide_eq_true (Int.mul_neg_of_pos_of_neg a3 a4)]; simp
end Go.Proofs.Ytcijddjfadcanaa
