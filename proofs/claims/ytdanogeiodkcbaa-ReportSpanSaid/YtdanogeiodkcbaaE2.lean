/- Contracts of whole numbers' texts: the program's and the document's. -/
import Derived.Test.YtdanogeiodkcbaaA1
import Derived.Test.YtdanogeiodkcbaaE1
set_option linter.unusedSimpArgs false
set_option linter.unusedVariables false
namespace Go.Proofs.Ytdanogeiodkcbaa
open Go.RowKit
theorem bytes_fold (s : List UInt8) : ∀ (r : ByteArray), (s.map (fun c => ((c.toNat : Nat) : Int))).foldl (fun r n => r.push (UInt8.ofNat n.toNat)) r = r ++ bs s := by
  induction s with
  | nil => intro r; apply ByteArray.ext; simp [bs, ByteArray.data_append]
  | cons c s ih =>
    intro r
    rw [List.map_cons, List.foldl_cons, ih]
    apply ByteArray.ext
    simp [bs, ByteArray.data_append, ByteArray.push]
/-- The bytes of a row, read as a text. -/
theorem run_str {P : Program} (w : World) (src dst e : TypeId) (a : Addr) (l c : Nat) (s : List UInt8) (hs : P.underlying src = some (.slice e)) (he : P.underlying e = some (.int .u8)) (hd : P.underlying dst = some .string)
    (hl : s.length = l) (h : ∀ j, (hj : j < s.length) → w.cell? (a.add j) = some (.int .u8 ((s[j].toNat : Nat) : Int))) : (convert src dst (.slice (some a) l c)).run P w = .ok (.string (bs s)) w := by
  subst hl
  rw [run_convert_bytes_string w src dst e (some a) s.length c hs he hd]
  have hc := run_loadCells_list (P := P) w a (s.map (fun (c : UInt8) => Value.int .u8 ((c.toNat : Nat) : Int))) (fun j v hv => by
    simp only [List.getElem?_map, Option.map_eq_some_iff] at hv
    obtain ⟨x, hx, rfl⟩ := hv
    obtain ⟨hj, rfl⟩ := List.getElem?_eq_some_iff.1 hx
    exact h j hj)
  rw [List.length_map] at hc
  rw [run_bytesToString w a s.length c (s.map (fun c => ((c.toNat : Nat) : Int))) (by rw [hc]; simp [Function.comp_def])]
  rw [bytes_fold]
  congr 1
theorem zeros20 (j : Nat) (hj : j < 20) : (List.replicate 20 (Value.int .u8 0))[j]? = some (Value.int .u8 0) := by rw [List.getElem?_replicate, if_pos hj]
theorem add_at (b k j : Nat) : Addr.add ⟨b, k, none⟩ j = ⟨b, k + j, none⟩ := by cases j <;> rfl
set_option maxHeartbeats 4000000 in
theorem cDigits (n : Nat) (w : World) (hn : n ≤ 18446744073709551615) : Calls Try.prog 23 #[.int .u64 n, .int .i64 1] w fun e w' => e = .returned (.string (bs (dg n))) ∧ Below w.heap.size w w' := by
  go_enter Try.func23, Try.ntmps23
  go_wp2
  go_loopw [0, 6] (fun u a wr => ∃ (U k : Nat) (s : List UInt8), u = .int .u64 U ∧ a = .int .i64 k ∧ k + s.length = 20 ∧ U ≤ n ∧ Hid (Dg n U s) ∧ Below w.heap.size w wr ∧
      Hid (∀ j, j < 20 → ∃ v, wr.cell? ⟨w.heap.size, j, none⟩ = some v ∧ wr.frozen? ⟨w.heap.size, j, none⟩ = false) ∧
      Hid (∀ j, (hj : j < s.length) → wr.cell? ⟨w.heap.size, k + j, none⟩ = some (.int .u8 ((s[j].toNat : Nat) : Int)))) (fun u a _ => (RowKit.intOf u).toNat + (RowKit.intOf a).toNat)
  case atStart =>
    exact ⟨n, 20, [], rfl, rfl, rfl, Nat.le_refl _, Lib.hid (Dg.start n), by (repeat (first | with_reducible assumption | with_reducible exact Below.refl _ _ | ((with_reducible refine Below.setCell ?_ ?_ _); rotate_left; (first | exact Nat.le_refl _ | (dsimp only; omega) | (simp; done) | (simp; omega))) | with_reducible refine below_alloc ?_ _ | with_reducible apply below_drewN | with_reducible apply Below.drew | with_reducible refine below_step ?_ (by assumption))), Lib.hid (fun j hj => ⟨.int .u8 0, by simp [go_sem]; exact zeros20 j hj, by simp [go_sem]⟩), Lib.hid (fun j hj => by simp at hj)⟩
  case round =>
    obtain ⟨U, k, s, rfl, rfl, hk, hU, HD, HB, HC, HS⟩ := hrel
    by_cases hgo : 0 < U ∨ s = []
    · have hr := HD.out.room hgo
      obtain ⟨k, rfl⟩ : ∃ q, k = q + 1 := ⟨k - 1, by omega⟩
      obtain ⟨v, hv, hf⟩ := HC.out k (by omega)
      have hm0 : 0 ≤ (U : Int) % 10 := by omega
      have hm1 : (U : Int) % 10 ≤ 9 := by omega
      have ed : ((48 : Int) + (U : Int) % 10) = (((UInt8.ofNat (48 + U % 10)).toNat : Nat) : Int) := by simp; omega
      have HE := Lib.hid ed
      clear ed
      have HD2 := Lib.hid (HD.out.step (by omega) hgo hU)
      have HC2 : Hid (∀ (W : World) (u : Value), W = wr.setCell ⟨w.heap.size, k, none⟩ u → ∀ j, j < 20 → ∃ v, W.cell? ⟨w.heap.size, j, none⟩ = some v ∧ W.frozen? ⟨w.heap.size, j, none⟩ = false) := Lib.hid (by
        rintro W u rfl j hj
        obtain ⟨v', hv', hf'⟩ := HC.out j hj
        by_cases hjk : j = k
        · subst hjk; exact ⟨u, World.cell?_setCell_same _ _ _ hv', by simpa using hf'⟩
        · exact ⟨v', by rw [World.cell?_setCell_other _ _ _ _ (fun h => by have h2 := congrArg Addr.off h; dsimp only at h2; omega)]; exact hv', by simpa using hf'⟩)
      have HS2 : Hid (∀ (W : World), W = wr.setCell ⟨w.heap.size, k, none⟩ (.int .u8 (48 + (U : Int) % 10)) → ∀ j, (hj : j < (UInt8.ofNat (48 + U % 10) :: s).length) → W.cell? ⟨w.heap.size, k + j, none⟩ = some (.int .u8 ((((UInt8.ofNat (48 + U % 10) :: s)[j]).toNat : Nat) : Int))) := Lib.hid (by
        rintro W rfl j hj
        cases j with
        | zero => rw [HE.out]; exact World.cell?_setCell_same _ _ _ hv
        | succ j =>
          rw [World.cell?_setCell_other _ _ _ _ (fun h => by have h2 := congrArg Addr.off h; dsimp only at h2; omega)]
          have := HS.out j (by simpa using hj)
          rw [show k + 1 + j = k + (j + 1) by omega] at this
          exact this)
      have hc := hv
      rcases (show 0 < U ∨ (U = 0 ∧ k = 19) by rcases hgo with h | h; exact Or.inl h; (subst h; simp at hk; rcases Nat.eq_zero_or_pos U with h1 | h1; exact Or.inr ⟨h1, by omega⟩; exact Or.inl h1)) with h | ⟨rfl, rfl⟩
      all_goals clear hgo
      all_goals go_wp2
      all_goals exact ⟨⟨_, _, _, by go_num, rfl, by simp; omega, by omega, HD2, by (repeat (first | with_reducible assumption | with_reducible exact Below.refl _ _ | ((with_reducible refine Below.setCell ?_ ?_ _); rotate_left; (first | exact Nat.le_refl _ | (dsimp only; omega) | (simp; done) | (simp; omega))) | with_reducible refine below_alloc ?_ _ | with_reducible apply below_drewN | with_reducible apply Below.drew | with_reducible refine below_step ?_ (by assumption))), Lib.hid (HC2.out _ _ rfl), Lib.hid (HS2.out _ rfl)⟩, by simp [RowKit.intOf] <;> omega⟩
    · obtain ⟨hU0, hs⟩ := not_or.1 hgo
      obtain rfl : U = 0 := by omega
      have hsl : 1 ≤ s.length := by cases s with | nil => exact absurd rfl hs | cons _ _ => simp
      have e := HD.out.done rfl hs
      subst e
      have RS := fun (c : Nat) => run_str (P := Try.prog) wr 53 9 5 ⟨w.heap.size, k, none⟩ (20 - k) c (dg n) Try.underlying53 Try.underlying5 Try.underlying9 (by omega) (fun j hj => by rw [add_at]; exact HS.out j hj)
      clear hgo hs
      have hk19 : k ≤ 19 := by omega
      have SL : (Instr.sliceAt 72 (.pointer (some ⟨w.heap.size, 0, none⟩)) (some (.int .i64 (k : Int))) none none).run Try.prog wr = .ok (.slice (some ⟨w.heap.size, k, none⟩) (20 - k) (20 - k)) wr := by
        have e1 : Try.prog.arrayLen 72 = 20 := by kernel_rfl
        have e2 : (sizeOf (Try.prog.elem 72)).run Try.prog wr = .ok 1 wr := by
          rw [show Try.prog.elem 72 = 5 by kernel_rfl]; simp [go_sem]
        rw [run_sliceAt_array_l wr 72 _ (by kernel_rfl) .i64 (k : Int) (by omega) (by rw [e1]; omega), e1, e2]
        simp [go_sem, Result.andThen, show ¬ 20 = k by omega]
      go_wp2
      go_ret
      exact ⟨rfl, HB⟩
theorem bs_ne (l : List UInt8) (h : l ≠ []) : (bs l).toList.isEmpty = false := by
  rw [bs_toList]; cases l with
  | nil => exact absurd rfl h
  | cons a l => rfl
set_option maxHeartbeats 4000000 in
theorem cWholeP (n : Nat) (w : World) (hn : n ≤ 9223372036854775807) : Calls Try.prog 13 #[.int .i64 n] w fun e w' => e = .returned (.string (bs (dg n))) ∧ Below w.heap.size w w' := by
  have k1 := fun W => cDigits n W (by omega)
  have hl := dg_len n
  have hz : (bs (dg n)).size ≤ 20 := by rw [bs_size]; exact hl
  have hcat : (⟨#[]⟩ : ByteArray) ++ bs (dg n) = bs (dg n) := bs_append [] (dg n)
  have HC := Lib.hid hcat
  clear hcat hl
  generalize bs (dg n) = T at *
  go_enter Try.func13, Try.ntmps13
  go_wp2_with (first | (go_at_call 23; (with_reducible refine (k1 _).mono ?_); rintro e w1 ⟨rfl, hM⟩) | go_in)
  go_ret
  exact ⟨by rw [← HC.out] <;> rfl, by (repeat (first | with_reducible assumption | with_reducible exact Below.refl _ _ | ((with_reducible refine Below.setCell ?_ ?_ _); rotate_left; (first | exact Nat.le_refl _ | (dsimp only; omega) | (simp; done) | (simp; omega))) | with_reducible refine below_alloc ?_ _ | with_reducible apply below_drewN | with_reducible apply Below.drew | with_reducible refine below_step ?_ (by assumption)))⟩
set_option maxHeartbeats 4000000 in
theorem rDigits (n : Nat) (w : World) (hn : n ≤ 18446744073709551615) : Calls Try.prog 25 #[.int .u64 n] w fun e w' => e = .returned (.string (bs (dg n))) ∧ Below w.heap.size w w' := by
  go_enter Try.func25, Try.ntmps25
  go_wp2
  go_loopw [0, 3] (fun u t wr => ∃ (U : Nat) (s : List UInt8), u = .int .u64 U ∧ t = .string (bs s) ∧ s.length ≤ 20 ∧ U ≤ n ∧ Hid (Dg n U s) ∧ Below w.heap.size w wr) (fun u t _ => (RowKit.intOf u).toNat + (match t with | .string s => 20 - s.size | _ => 0))
  case atStart => exact ⟨n, [], rfl, rfl, by simp, Nat.le_refl _, Lib.hid (Dg.start n), Below.refl _ _⟩
  case round =>
    obtain ⟨U, s, rfl, rfl, hl, hU, HD, HB⟩ := hrel
    have HSZ := Lib.hid (bs_size s)
    have hsz : (bs s).size ≤ 20 := by rw [HSZ.out]; exact hl
    by_cases hgo : 0 < U ∨ s = []
    · have hr := HD.out.room hgo
      have hm0 : 0 ≤ (U : Int) % 10 := by omega
      have hm1 : (U : Int) % 10 ≤ 9 := by omega
      have ed : ((48 : Int) + (U : Int) % 10) = (((UInt8.ofNat (48 + U % 10)).toNat : Nat) : Int) := by simp; omega
      have HE := Lib.hid ed
      clear ed
      have HD2 := Lib.hid (HD.out.step (by omega) hgo hU)
      have RS := fun (W : World) (a : Addr) (c : Nat) (h0 : W.cell? a = some (.int .u8 (48 + (U : Int) % 10))) => run_str (P := Try.prog) W 53 9 5 a 1 c [UInt8.ofNat (48 + U % 10)] Try.underlying53 Try.underlying5 Try.underlying9 rfl (fun j hj => by
        have : j = 0 := by simp at hj; omega
        subst this
        rw [HE.out] at h0
        exact h0)
      have RS2 := fun (c : Nat) => RS (wr.alloc (.cells #[.int .u8 (48 + (U : Int) % 10)] 5)) ⟨wr.heap.size, 0, none⟩ c (by simp [go_sem])
      clear RS
      have hsz1 : (bs [UInt8.ofNat (48 + U % 10)]).size ≤ 1 := by rw [bs_size]; simp
      have HA := Lib.hid (bs_append [UInt8.ofNat (48 + U % 10)] s)
      rcases (show 0 < U ∨ (U = 0 ∧ s = []) by rcases hgo with h | h; exact Or.inl h; (rcases Nat.eq_zero_or_pos U with h1 | h1; exact Or.inr ⟨h1, h⟩; exact Or.inl h1)) with h | ⟨rfl, rfl⟩
      · clear hgo
        have HN := HSZ.out
        generalize UInt8.ofNat (48 + U % 10) = d at *
        go_wp2
        exact ⟨⟨_, _, by go_num, by rw [HA.out]; rfl, by simp; omega, by omega, HD2, by (repeat (first | with_reducible assumption | with_reducible exact Below.refl _ _ | ((with_reducible refine Below.setCell ?_ ?_ _); rotate_left; (first | exact Nat.le_refl _ | (dsimp only; omega) | (simp; done) | (simp; omega))) | with_reducible refine below_alloc ?_ _ | with_reducible apply below_drewN | with_reducible apply Below.drew | with_reducible refine below_step ?_ (by assumption)))⟩, by simp [RowKit.intOf, ByteArray.size_append]; omega⟩
      · clear hgo
        have h0 : (bs []).toList.isEmpty = true := by rw [bs_toList]; rfl
        have e0 : (bs [UInt8.ofNat (48 + 0 % 10)]) = bs [48] := rfl
        rw [e0] at hsz1 HA RS2
        have RS3 : ∀ (c : Nat), (convert 53 9 (.slice (some ⟨wr.heap.size, 0, none⟩) 1 c)).run Try.prog (wr.alloc (.cells #[.int .u8 48] 5)) = .ok (.string (bs [48])) (wr.alloc (.cells #[.int .u8 48] 5)) := RS2
        clear RS2
        go_wp2
        exact ⟨⟨_, _, by go_num, by rw [HA.out]; rfl, by simp, by omega, HD2, by (repeat (first | with_reducible assumption | with_reducible exact Below.refl _ _ | ((with_reducible refine Below.setCell ?_ ?_ _); rotate_left; (first | exact Nat.le_refl _ | (dsimp only; omega) | (simp; done) | (simp; omega))) | with_reducible refine below_alloc ?_ _ | with_reducible apply below_drewN | with_reducible apply Below.drew | with_reducible refine below_step ?_ (by assumption)))⟩, by simp [RowKit.intOf, ByteArray.size_append, bs_size] <;> omega⟩
    · obtain ⟨hU0, hs⟩ := not_or.1 hgo
      obtain rfl : U = 0 := by omega
      have hb := bs_ne s hs
      have e := HD.out.done rfl hs
      subst e
      clear hgo hs
      go_wp2
      go_ret
      exact ⟨rfl, HB⟩
set_option maxHeartbeats 4000000 in
theorem rWhole (n : Nat) (w : World) (hn : n ≤ 9223372036854775807) : Calls Try.prog 16 #[.int .i64 n] w fun e w' => e = .returned (.string (bs (dg n))) ∧ Below w.heap.size w w' := by
  have k1 := fun W => rDigits n W (by omega)
  generalize bs (dg n) = T at *
  go_enter Try.func16, Try.ntmps16
  go_wp2_with (first | (go_at_call 25; (with_reducible refine (k1 _).mono ?_); rintro e w1 ⟨rfl, hM⟩) | go_in)
  go_ret
  exact ⟨rfl, by (repeat (first | with_reducible assumption | with_reducible exact Below.refl _ _ | ((with_reducible refine Below.setCell ?_ ?_ _); rotate_left; (first | exact Nat.le_refl _ | (dsimp only; omega) | (simp; done) | (simp; omega))) | with_reducible refine below_alloc ?_ _ | with_reducible apply below_drewN | with_reducible apply Below.drew | with_reducible refine below_step ?_ (by assumption)))⟩
end Go.Proofs.Ytdanogeiodkcbaa
