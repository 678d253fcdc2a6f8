/- The laws' example. -/
import Derived.Test.YtbicnpiifpcnjaaG4
import Derived.Deep.RegionWith
set_option linter.unusedSimpArgs false
set_option linter.unusedVariables false
namespace Go.Proofs.Ytbicnpiifpcnjaa
open Go.RowKit
theorem cCarsNo (n : Int) (p : Option Addr) (len cap : Nat) (b : Nat) (w : World) (h : n < 1 ∨ 16 < n) :
    Calls Try.prog 5 #[.pointer (some ⟨b, 0, none⟩), .int .i64 n, .slice p len cap] w fun e w' => e = .returned (.slice none 0 0) ∧ Below w.heap.size w w' := by
  have k1 := cZonesNo n p len cap (.pointer (some ⟨b, 0, none⟩)) w ⟨_, rfl⟩ h
  go_enter Try.func5, Try.ntmps5
  go_wp2_with (go_at_call 7; refine k1.mono ?_; rintro e W1 ⟨rfl, hB⟩; clear k1)
  go_ret
  exact ⟨rfl, hB⟩
set_option maxHeartbeats 2000000 in
theorem cInts (a c : Addr) (n m k : Nat) (f : Nat → Int) (w : World) (hn : n ≤ 1000) (ha : ∀ i, i < n → w.cell? (a.add i) = some (.int .i64 (f i))) (hc : ∀ i, i < n → w.cell? (c.add i) = some (.int .i64 (f i))) :
    Calls Try.prog 10 #[.slice (some a) n m, .slice (some c) n k] w fun e w' => e = .returned (.bool true) ∧ Below w.heap.size w w' := by
  go_enter Try.func10, Try.ntmps10
  go_wp2
  go_loopw [5] (fun i wx => ∃ j : Nat, i = .int .i64 j ∧ j ≤ n ∧ Below w.heap.size w wx) (fun i _ => n - (RowKit.intOf i).toNat)
  case atStart => exact ⟨0, rfl, by omega, Below.refl _ _⟩
  case round =>
    obtain ⟨j, rfl, hj, hB⟩ := hrel
    by_cases hlt : j < n
    · have h1 := cell_later hB (ha j hlt)
      have h2 := cell_later hB (hc j hlt)
      go_upto_region 6 with (fail)
      go_region
      all_goals go_wp2
      exact ⟨⟨j + 1, by go_num, by omega, hB.drew⟩, by simp [RowKit.intOf]; omega⟩
    · obtain rfl : j = n := by omega
      go_wp2
      go_ret
      exact ⟨rfl, hB⟩
theorem fold_put (p : Nat) : ∀ (l : List Value) (k : Nat) (init : Array Value), p + k + l.length ≤ init.size →
    (List.foldl (fun (cs : Array Value) (x : Value × Nat) => cs.setIfInBounds (p + x.2) x.1) init (l.zipIdx k)).size = init.size ∧
    ∀ j, (List.foldl (fun (cs : Array Value) (x : Value × Nat) => cs.setIfInBounds (p + x.2) x.1) init (l.zipIdx k))[j]? = if p + k ≤ j ∧ j < p + k + l.length then l[j - p - k]? else init[j]?
  | [], k, init, _ => ⟨rfl, fun j => by simp; intro h1 h2; omega⟩
  | v :: l, k, init, h => by
    simp only [List.length_cons] at h
    have ih := fold_put p l (k + 1) (init.setIfInBounds (p + k) v) (by simp; omega)
    simp only [List.zipIdx_cons, List.foldl_cons]
    refine ⟨by rw [ih.1]; simp, fun j => ?_⟩
    rw [ih.2 j]
    by_cases h1 : j = p + k
    · subst h1
      rw [if_neg (by omega), if_pos (by simp)]
      rw [Array.getElem?_setIfInBounds]
      simp
      omega
    · by_cases h2 : p + k ≤ j ∧ j < p + k + (l.length + 1)
      · rw [if_pos (by omega), if_pos (by simpa using h2)]
        rw [show j - p - k = (j - p - (k + 1)) + 1 by omega]
        simp
      · rw [if_neg (by omega), if_neg (by simpa using h2)]
        rw [Array.getElem?_setIfInBounds]
        simp [Ne.symm h1]
theorem fold_put0 (l : List Value) (init : Array Value) (h : l.length ≤ init.size) :
    ∀ j, (List.foldl (fun (cs : Array Value) (x : Value × Nat) => cs.setIfInBounds x.2 x.1) init (l.zipIdx 0))[j]? = if j < l.length then l[j]? else init[j]? := fun j => by
  have := (fold_put 0 l 0 init (by omega)).2 j
  simpa using this
theorem fold_arr (F : Array Value → Value × Nat → Array Value) (init c : Array Value) (n : Nat) (h : c.size = n) : Array.foldl F init c.zipIdx 0 n = List.foldl F init (c.toList.zipIdx 0) := by
  subst h
  have := Array.foldl_toList F (init := init) (xs := c.zipIdx)
  rw [Array.toList_zipIdx] at this
  rw [this]
  congr 1
  simp
@[simp] theorem row_one (f : Nat → Int) (g : Nat → Bool) (init : Array Value) (h : init.size = 41) : Array.foldl (fun (cs : Array Value) (x : Value × Nat) => cs.setIfInBounds x.2 x.1) init ((sc f g).zipIdx) 0 41 = sc f g := by
  rw [fold_arr _ _ (sc f g) 41 rfl]
  apply Array.ext_getElem?
  intro j
  rw [fold_put0 _ _ (by simp [h])]
  split
  · simp
  · rename_i h
    simp at h
    rw [Array.getElem?_eq_none (by omega), Array.getElem?_eq_none (by simp; omega)]
@[simp] theorem row_size (f : Nat → Int) (g : Nat → Bool) (init : Array Value) (h : init.size = 82) : (Array.foldl (fun (cs : Array Value) (x : Value × Nat) => cs.setIfInBounds x.2 x.1) init ((sc f g).zipIdx) 0 41).size = 82 := by
  rw [fold_arr _ _ (sc f g) 41 rfl]
  have := (fold_put 0 (sc f g).toList 0 init (by simp [h])).1
  simpa [h] using this
@[simp] theorem row_two (f f' : Nat → Int) (g g' : Nat → Bool) (init : Array Value) (h : init.size = 82) :
    Array.foldl (fun (cs : Array Value) (x : Value × Nat) => cs.setIfInBounds (41 + x.2) x.1) (Array.foldl (fun (cs : Array Value) (x : Value × Nat) => cs.setIfInBounds x.2 x.1) init ((sc f g).zipIdx) 0 41) ((sc f' g').zipIdx) 0 41 = sc f g ++ sc f' g' := by
  have hs := row_size f g init h
  rw [fold_arr _ _ (sc f' g') 41 rfl]
  apply Array.ext_getElem?
  intro j
  rw [(fold_put 41 _ 0 _ (by rw [hs]; simp)).2 j, fold_arr _ _ (sc f g) 41 rfl, fold_put0 _ _ (by simp [h]), Array.getElem?_append]
  have l1 : (sc f g).toList.length = 41 := rfl
  have l2 : (sc f' g').toList.length = 41 := rfl
  by_cases h1 : j < 41
  · rw [if_neg (show ¬ (41 + 0 ≤ j ∧ j < 41 + 0 + (sc f' g').toList.length) by omega), if_pos (show j < (sc f g).toList.length by omega), if_pos (show j < (sc f g).size from h1)]; simp
  · by_cases h3 : j < 82
    · rw [if_pos (show 41 + 0 ≤ j ∧ j < 41 + 0 + (sc f' g').toList.length by omega), if_neg (show ¬ j < (sc f g).size from h1)]; simp
    · rw [if_neg (show ¬ (41 + 0 ≤ j ∧ j < 41 + 0 + (sc f' g').toList.length) by omega), if_neg (show ¬ j < (sc f g).toList.length by omega), if_neg (show ¬ j < (sc f g).size from h1), Array.getElem?_eq_none (by omega), Array.getElem?_eq_none (by simp; omega)]
theorem own_cell {W : World} {base : Nat} {e : TypeId} {v : Value} {n : Nat} {xs : List Value} (h : W.ownsRow base e 1 v n xs) (hn : 0 < n) : ∃ g cap, v = .slice (some ⟨g, 0, none⟩) n cap ∧ base ≤ g ∧ g < W.heap.size ∧ ∀ j, j < n → W.cell? ⟨g, j, none⟩ = xs[j]? := by
  have hl := h.1
  rcases h.2 with ⟨_, h0⟩ | ⟨g, cap, cur, hv, hb, hg, hc, hm, hs, ht⟩
  · omega
  · refine ⟨g, cap, hv, hb, (Array.getElem?_eq_some_iff.1 hg).1, fun j hj => ?_⟩
    rw [cell_of_row W g j cur _ _ hg, ← ht, List.getElem?_take, if_pos (by omega)]
    simp
theorem add0 (g j : Nat) : (⟨g, 0, none⟩ : Addr).add j = ⟨g, j, none⟩ := by unfold Addr.add; split <;> simp_all
theorem rt_0 : rt 0 = 0 := by
  have h := rt_le 0 (by decide)
  have h2 := rt_nonneg 0
  generalize rt 0 = r at *
  rcases Int.lt_or_le 0 r with h3 | h3
  · have := Int.mul_pos h3 h3; omega
  · omega
theorem lnok_0 : lnok 0 = true := by simp [lnok, fw, rt_0]
theorem ln_0 : ln 0 = 0 := by simp [ln, lnok_0, rt_0]
/-- The example's two cars. -/
def fz : Nat → Int := fun _ => 0
def ft : Nat → Int := fun j => if j = 31 then 2 else 0
def gz : Nat → Bool := fun j => j == 32
theorem fz_bd (j : Nat) : -9223372036854775808 ≤ fz j ∧ fz j ≤ 9223372036854775807 := by unfold fz; omega
theorem ft_bd (j : Nat) : -9223372036854775808 ≤ ft j ∧ ft j ≤ 9223372036854775807 := by unfold ft; split <;> omega
theorem lit_sc : (#[.int .i64 0, .int .i64 0, .int .i64 0, .int .i64 0, .int .i64 0, .int .i64 0, .int .i64 0, .int .i64 0, .int .i64 0, .int .i64 0, .int .i64 0, .int .i64 0, .int .i64 0, .int .i64 0, .int .i64 0, .bool false, .int .i64 0, .int .i64 0, .bool false, .int .i64 0, .int .i64 0, .bool false, .int .i64 0, .int .i64 0, .bool false, .int .i64 0, .bool false, .int .i64 0, .int .i64 0, .int .u32 0, .int .i64 0, .int .i64 0, .bool true, .bool false, .int .i64 0, .int .i64 0, .int .i64 0, .int .i64 0, .int .i64 0, .bool false, .bool false] : Array Value) = sc fz gz := rfl
theorem Sb.turn {B : Nat} {w : World} (h : Sb B fz gz w) : Sb B ft gz (w.setCell ⟨B, 31, none⟩ (.int .i64 2)) := by
  obtain ⟨hlt, hk⟩ := Array.getElem?_eq_some_iff.1 h
  show (w.heap.modify B _)[B]? = _
  rw [Array.getElem?_eq_getElem (by rw [Array.size_modify]; exact hlt), Array.getElem_modify_self, hk]
  rfl
def S1 : Nat → Car := fun _ => ⟨fz, gz, fz_bd⟩
def S2 : Nat → Car := fun j => if j = 0 then ⟨fz, gz, fz_bd⟩ else ⟨ft, gz, ft_bd⟩
theorem sat_0 : sat 0 = 0 := by decide
theorem e_rl1 : rl S1 1 = [(0, ⟨fz, gz, fz_bd⟩)] := rfl
theorem e_rl2 : rl S2 2 = [(0, ⟨fz, gz, fz_bd⟩), (1, ⟨ft, gz, ft_bd⟩)] := rfl
theorem e_dgz : dg fz gz = true := by simp [dg, fz, gz, dn]
theorem e_dgt : dg ft gz = true := by simp [dg, ft, gz, dn]
theorem e_okz : dgok fz = true := by simp [dgok, fz, lnok_0]
theorem e_okt : dgok ft = true := by simp [dgok, ft, lnok_0]
theorem e_znz : zn 3 fz gz = 2 := by decide
theorem e_znt : zn 3 ft gz = 2 := by decide
theorem e_zv1 (i : Nat) (hi : i < 3) : zv 3 (rl S1 1) i = if i = 2 then 1 else 0 := by
  rw [e_rl1]; simp only [zv, List.any_cons, List.any_nil, e_znz, e_dgz, Bool.and_true, Bool.or_false]
  rcases i with _ | _ | _ | i <;> first | rfl | omega
theorem e_zo1 : zo 3 (rl S1 1) = false := by rw [e_rl1]; simp [zo, e_znz, e_okz]
theorem e_zo2 : zo 3 (rl S2 2) = false := by rw [e_rl2]; simp [zo, e_znz, e_okz, e_znt, e_okt]
theorem e_nrb : nrb fz ft = true := by simp [nrb, fz, ft, sat_0, ln_0]
theorem e_nrk : nrk fz ft = true := by simp [nrk, fz, ft, sat_0, lnok_0]; decide
theorem e_lv0 : lv (S2 0) 0 (rl S2 2) = true := by rw [e_rl2]; simp [lv, lc, S2, e_nrb]; simp [gz, fz, ft]
theorem e_lv1 : lv (S2 1) 1 (rl S2 2) = false := by rw [e_rl2]; simp [lv, lc, S2]; simp [gz, fz, ft]
theorem e_lo0 : lo (S2 0) 0 (rl S2 2) = false := by rw [e_rl2]; simp [lo, lc, S2, e_nrk]
theorem e_lo1 : lo (S2 1) 1 (rl S2 2) = false := by rw [e_rl2]; simp [lo, lc, S2]; simp [gz, fz, ft]
theorem e_fls : fls 3 S2 2 2 = [.int .i64 2, .int .i64 1] := by
  have h0 : fl 3 S2 2 0 = 2 := by unfold fl; rw [e_lv0]; simp [S2, gz, fz]
  have h1 : fl 3 S2 2 1 = 1 := by
    unfold fl
    rw [e_lv1]
    show (if gz 39 = true then (4 : Int) else if (gz 32 && !gz 33 && decide (240 < ft 37)) = true then 3 else if false = true then 2 else if 0 ≤ zn 3 ft gz then zv 3 (rl S2 2) (zn 3 ft gz).toNat else 0) = 1
    rw [e_znt, e_rl2, show ft 37 = 0 from rfl, show gz 39 = false from rfl, show gz 32 = true from rfl]
    simp [zv, e_znz, e_dgz]
  show [Value.int .i64 (fl 3 S2 2 0), Value.int .i64 (fl 3 S2 2 1)] = _
  rw [h0, h1]
theorem e_flo : flo S2 2 2 = false := by simp [flo, e_lo0, e_lo1]
set_option maxHeartbeats 8000000 in
set_option maxRecDepth 20000 in
theorem cAwake54 (w : World) : Calls Try.prog 6 #[] w fun e w' => e = .returned (.bool true) ∧ Below w.heap.size w w' := by
  have hfold := lit_sc
  have hs31 : (sc fz gz).setIfInBounds 31 (.int .i64 2) = sc ft gz := rfl
  have hs33 : (sc fz gz).setIfInBounds 33 (.bool false) = sc fz gz := rfl
  have ht33 : (sc fz gz).toList.set 33 (.bool false) = (sc fz gz).toList := rfl
  have hs34 : (sc fz gz).setIfInBounds 34 (.int .i64 0) = sc fz gz := rfl
  have ht34 : (sc fz gz).toList.set 34 (.int .i64 0) = (sc fz gz).toList := rfl
  have hs35 : (sc fz gz).setIfInBounds 35 (.int .i64 0) = sc fz gz := rfl
  have ht35 : (sc fz gz).toList.set 35 (.int .i64 0) = (sc fz gz).toList := rfl
  have hs36 : (sc fz gz).setIfInBounds 36 (.int .i64 0) = sc fz gz := rfl
  have ht36 : (sc fz gz).toList.set 36 (.int .i64 0) = (sc fz gz).toList := rfl
  have hs37 : (sc fz gz).setIfInBounds 37 (.int .i64 0) = sc fz gz := rfl
  have ht37 : (sc fz gz).toList.set 37 (.int .i64 0) = (sc fz gz).toList := rfl
  have hs38 : (sc fz gz).setIfInBounds 38 (.int .i64 0) = sc fz gz := rfl
  have ht38 : (sc fz gz).toList.set 38 (.int .i64 0) = (sc fz gz).toList := rfl
  have hs39 : (sc fz gz).setIfInBounds 39 (.bool false) = sc fz gz := rfl
  have ht39 : (sc fz gz).toList.set 39 (.bool false) = (sc fz gz).toList := rfl
  have hput := put_new fz gz ((w.alloc (.cells #[.bool false] 25)).alloc (.cells (sc fz gz) 46))
  have hput1 := put_new fz gz (w.alloc (.cells #[.bool false] 25))
  simp only [World.size_alloc] at hput hput1
  have hq1 : Qs ⟨w.heap.size + 1, 0, none⟩ fz gz ((w.alloc (.cells #[.bool false] 25)).alloc (.cells (sc fz gz) 46)) := by
    have := (Sb.new fz gz (w.alloc (.cells #[.bool false] 25))).qs
    simpa only [World.size_alloc] using this
  go_enter Try.func6, Try.ntmps6
  go_upto_region 5 with (refine wpList_ld (by rfl) _ rfl _ _ _ rfl (by assumption) ?_)
  clear hfold hput hput1 hq1 hs31 hs33 hs34 hs35 hs36 hs37 hs38 hs39 ht33 ht34 ht35 ht36 ht37 ht38 ht39
  obtain ⟨W0, hW0⟩ : ∃ W0, ((w.alloc (.cells #[.bool false] 25)).alloc (.cells (sc fz gz) 46)).alloc (.cells (sc ft gz) 46) = W0 := ⟨_, rfl⟩
  have z1 : W0.cell? ⟨w.heap.size, 0, none⟩ = some (.bool false) := by rw [← hW0]; simp [go_sem]
  have z2 : W0.frozen? ⟨w.heap.size, 0, none⟩ = false := by rw [← hW0]; simp [go_sem]
  have z3 : Sb (w.heap.size + 1) fz gz W0 := by
    rw [← hW0]
    have := (Sb.new fz gz (w.alloc (.cells #[.bool false] 25))).alloc (.cells (sc ft gz) 46)
    simpa only [World.size_alloc] using this
  have z4 : Sb (w.heap.size + 1 + 1) ft gz W0 := by
    rw [← hW0]
    have := Sb.new ft gz ((w.alloc (.cells #[.bool false] 25)).alloc (.cells (sc fz gz) 46))
    simpa only [World.size_alloc] using this
  have z5 : W0.heap.size = w.heap.size + 3 := by rw [← hW0]; simp
  have hB0 : Below w.heap.size w W0 := by rw [← hW0]; (repeat (first | with_reducible assumption | with_reducible exact Below.refl _ _ | ((with_reducible refine Below.setCell ?_ ?_ _); rotate_left; (first | exact Nat.le_refl _ | (dsimp only; omega) | (simp; done) | (simp; omega))) | with_reducible refine below_alloc ?_ _ | with_reducible apply below_drewN | with_reducible apply Below.drew | with_reducible refine below_step ?_ (by assumption)))
  rw [hW0]
  clear hW0
  have q3 := z3.qs
  have q4 := z4.qs
  have kS1 : Sl (W0.alloc (.cells (sc fz gz) 46)).heap.size w.heap.size (some ⟨w.heap.size + 3, 0, none⟩) 1 1 S1 (W0.alloc (.cells (sc fz gz) 46)) := by
    refine Or.inr ⟨_, rfl, by decide, fun _ => ⟨by simp; omega, by dsimp only; omega⟩, fun k hk => ?_⟩
    obtain rfl : k = 0 := by omega
    have := (Sb.new fz gz W0).qs
    rw [z5] at this
    exact this
  have k1 := cZones 3 _ _ _ S1 w.heap.size false _ (by decide) (by decide) kS1 (by simp [go_sem, *]) (by simp [go_sem, *])
  rw [show ((3 : Nat) : Int) = 3 from rfl, e_zo1] at k1
  go_wp2_with (first
    | (refine wpList_ld (by rfl) _ rfl _ _ _ rfl (by assumption) ?_)
    | (go_at_call 7; refine k1.mono ?_; rintro e W1 ⟨B, rfl, hB1, hr1, hM1⟩; clear k1))
  have hz1 := hM1.size
  simp only [World.size_alloc, z5] at hz1 hB1
  have hc3 : ∀ i, i < 3 → (W1.alloc (.cells #[.int .i64 0, .int .i64 0, .int .i64 1] 3)).cell? ((⟨B, 0, none⟩ : Addr).add i) = some (.int .i64 (if i = 2 then 1 else 0)) := fun i hi => by
    have := (hr1.alloc (.cells #[.int .i64 0, .int .i64 0, .int .i64 1] 3)).cell hi
    rw [e_zv1 i hi] at this
    rw [show (⟨B, 0, none⟩ : Addr).add i = ⟨B, i, none⟩ by unfold Addr.add; split <;> simp_all]
    exact this
  have hd3 : ∀ i, i < 3 → (W1.alloc (.cells #[.int .i64 0, .int .i64 0, .int .i64 1] 3)).cell? ((⟨W1.heap.size, 0, none⟩ : Addr).add i) = some (.int .i64 (if i = 2 then 1 else 0)) := fun i hi => by
    rcases i with _ | _ | _ | i <;> first | omega | (simp [Addr.add, go_sem]; done)
  have kI := cInts ⟨B, 0, none⟩ ⟨W1.heap.size, 0, none⟩ 3 3 3 (fun i => if i = 2 then 1 else 0) _ (by decide) hc3 hd3
  refine kI.mono ?_
  rintro e W2 ⟨rfl, hB2⟩
  have HM : Mv w.heap.size false W0 W2 := ((Mv.after ((Below.refl _ _).alloc (Nat.le_refl _) _) hM1).alloc _).below hB2
  have y3 := ((((z3.alloc (.cells (sc fz gz) 46)).mv hM1 (by omega)).alloc (.cells #[.int .i64 0, .int .i64 0, .int .i64 1] 3)).later hB2)
  have y4 := ((((z4.alloc (.cells (sc fz gz) 46)).mv hM1 (by omega)).alloc (.cells #[.int .i64 0, .int .i64 0, .int .i64 1] 3)).later hB2)
  have p3 := y3.qs
  have p4 := y4.qs
  have hz2 := HM.size
  have kS2 : Sl (W2.alloc (.cells (sc fz gz ++ sc ft gz) 46)).heap.size w.heap.size (some ⟨W2.heap.size, 0, none⟩) 2 2 S2 (W2.alloc (.cells (sc fz gz ++ sc ft gz) 46)) := by
    refine Or.inr ⟨_, rfl, by decide, fun _ => ⟨by simp, by dsimp only; omega⟩, fun k hk => ?_⟩
    have hcell : ∀ m, (W2.alloc (.cells (sc fz gz ++ sc ft gz) 46)).cell? ⟨W2.heap.size, m, none⟩ = (sc fz gz ++ sc ft gz)[m]? := fun m => cell_of_row _ _ m _ _ (0, 0) (heap_alloc_last _ _)
    have hadd : ∀ m, (⟨W2.heap.size, 0, none⟩ : Addr).add m = ⟨W2.heap.size, m, none⟩ := fun m => by unfold Addr.add; split <;> simp_all
    have hadd2 : ∀ m q, (⟨W2.heap.size, q, none⟩ : Addr).add m = ⟨W2.heap.size, q + m, none⟩ := fun m q => by unfold Addr.add; split <;> simp_all
    intro j v hv
    have hj : j < 41 := by have := (Array.getElem?_eq_some_iff.1 hv).1; simpa using this
    rw [hadd, hadd2, hcell, Array.getElem?_append]
    obtain rfl | rfl : k = 0 ∨ k = 1 := by omega
    · rw [if_pos (show 0 * 41 + j < (sc fz gz).size by simp; omega)]; simpa using (show (sc fz gz)[j]? = some v from hv)
    · rw [if_neg (show ¬ 1 * 41 + j < (sc fz gz).size by simp)]; simpa using (show (sc ft gz)[j]? = some v from hv)
  have k2 := cCars 3 _ _ _ S2 w.heap.size false _ (by decide) (by decide) (by decide) kS2 (by simp [go_sem, HM.cell]) (by simp [go_sem, HM.free, fk HM.cell HM.free])
  rw [show ((3 : Nat) : Int) = 3 from rfl, e_zo2, e_flo, e_fls] at k2
  go_wp2_with (first
    | (refine wpList_ld (by rfl) _ rfl _ _ _ rfl (by assumption) ?_)
    | (go_at_call 5; refine k2.mono ?_; rintro e W3 ⟨v, rfl, hown, hM3⟩; clear k2))
  obtain ⟨g, cap, rfl, hg, hgl, hcell⟩ := own_cell hown (by decide)
  have hz3 := hM3.size
  simp only [World.size_alloc] at hz3 hg
  have hc4 : ∀ i, i < 2 → (W3.alloc (.cells #[.int .i64 2, .int .i64 1] 3)).cell? ((⟨g, 0, none⟩ : Addr).add i) = some (.int .i64 (if i = 0 then 2 else 1)) := fun i hi => by
    rw [add0]
    refine cell_later ((Below.refl _ _).alloc (Nat.le_refl _) _) ?_
    rw [hcell i hi]
    rcases i with _ | _ | i <;> first | rfl | omega
  have hd4 : ∀ i, i < 2 → (W3.alloc (.cells #[.int .i64 2, .int .i64 1] 3)).cell? ((⟨W3.heap.size, 0, none⟩ : Addr).add i) = some (.int .i64 (if i = 0 then 2 else 1)) := fun i hi => by
    rcases i with _ | _ | i <;> first | omega | (simp [Addr.add, go_sem]; done)
  have kJ := cInts ⟨g, 0, none⟩ ⟨W3.heap.size, 0, none⟩ 2 cap 2 (fun i => if i = 0 then 2 else 1) _ (by decide) hc4 hd4
  refine kJ.mono ?_
  rintro e W4 ⟨rfl, hB4⟩
  have HM := ((HM.trans (Mv.after ((Below.refl _ _).alloc (Nat.le_refl _) _) hM3)).alloc (.cells #[.int .i64 2, .int .i64 1] 3)).below hB4
  go_wp2_with (go_at_call 5; refine (cCarsNo 17 none 0 0 w.heap.size _ (by decide)).mono ?_; rintro e W5 ⟨rfl, hB5⟩; have HM := HM.below hB5; have hcc := HM.cell)
  go_ret
  exact ⟨by simp, below_mv hB0 HM (Nat.le_refl _)⟩
end Go.Proofs.Ytbicnpiifpcnjaa
