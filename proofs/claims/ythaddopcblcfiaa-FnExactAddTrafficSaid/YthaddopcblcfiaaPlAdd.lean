/- AddTraffic: the program and the reference come to the same. -/
import Derived.Test.YthaddopcblcfiaaPlTraffic
import Derived.Test.YthaddopcblcfiaaX15
import Derived.Test.YthaddopcblcfiaaX16
namespace Go.Proofs.Ythaddopcblcfiaa.X
set_option linter.unusedSimpArgs false
set_option linter.unusedVariables false
open Go.RowKit Go.Proofs.YthaddopcblcfiaaW.PrintWords
def ct (l : List Int) (t : Nat) : Int := if t < l.length then rd l (t : Int) else 0
theorem ct_bound {l : List Int} (h : isTr l = true) (t : Nat) : 0 ≤ ct l t ∧ ct l t ≤ 1000 := by
  unfold ct
  split
  · rename_i ht
    exact all_rd (isTr_all h) t ht
  · omega
def sums (a b : List Int) (n : Nat) : List Int := (List.range n).map (fun i => ct a i + ct b i)
theorem sums_succ (a b : List Int) (n : Nat) : sums a b (n + 1) = sums a b n ++ [ct a n + ct b n] := by simp [sums, List.range_succ]
theorem sums_len (a b : List Int) (n : Nat) : (sums a b n).length = n := by simp [sums]
/-- The sums of the first i, behind these the first list's own. -/
def part (a b : List Int) (n i : Nat) : List Int := (List.range n).map (fun j => ct a j + if j < i then ct b j else 0)
theorem part_len (a b : List Int) (n i : Nat) : (part a b n i).length = n := by simp [part]
theorem part_zero (a b : List Int) (n : Nat) (h : a.length ≤ n) : a ++ List.replicate (n - a.length) 0 = part a b n 0 := by
  apply List.ext_getElem
  · simp [part]; omega
  · intro j h1 h2
    simp only [part, List.getElem_map, List.getElem_range, Nat.not_lt_zero, if_false, Int.add_zero]
    unfold ct
    by_cases hj : j < a.length
    · rw [if_pos hj, List.getElem_append_left hj, rd_at a j hj]
    · rw [if_neg hj, List.getElem_append_right (by omega)]
      simp
theorem part_succ (a b : List Int) (n i : Nat) (hi : i < n) (hb : i < b.length) : (part a b n i).set i (rd (part a b n i) (i : Int) + rd b (i : Int)) = part a b n (i + 1) := by
  have hr : rd (part a b n i) (i : Int) = ct a i := by
    rw [rd_at (part a b n i) i (by rw [part_len]; exact hi)]
    simp [part]
  rw [hr]
  apply List.ext_getElem
  · simp [part]
  · intro j h1 h2
    rw [List.getElem_set]
    simp only [part, List.getElem_map, List.getElem_range]
    by_cases e : i = j
    · subst e
      rw [if_pos rfl, if_pos (by omega)]
      have : ct b i = rd b (i : Int) := by unfold ct; rw [if_pos hb]
      omega
    · rw [if_neg e]
      by_cases hj : j < i
      · rw [if_pos hj, if_pos (by omega)]
      · rw [if_neg hj, if_neg (by omega)]
theorem part_end (a b : List Int) (n : Nat) : part a b n b.length = sums a b n := by
  apply List.ext_getElem
  · simp [part, sums]
  · intro j h1 h2
    simp only [part, sums, List.getElem_map, List.getElem_range]
    by_cases hj : j < b.length
    · rw [if_pos hj]
    · rw [if_neg hj]
      have : ct b j = 0 := by unfold ct; rw [if_neg hj]
      omega
theorem part_rd {a b : List Int} (ha : isTr a = true) (hb : isTr b = true) (n i j : Nat) (h : j < n) : 0 ≤ rd (part a b n i) (j : Int) ∧ rd (part a b n i) (j : Int) ≤ 2000 := by
  rw [rd_at _ j (by rw [part_len]; exact h)]
  simp only [part, List.getElem_map, List.getElem_range]
  have h1 := ct_bound ha j
  have h2 := ct_bound hb j
  split <;> omega
def addRes (a b : List Int) : List Int × Bool := if isTr (sums a b (max a.length b.length)) = true then (sums a b (max a.length b.length), true) else ([], false)
theorem specAdd_ev {a b : List Int} (ha : isTr a = true) (hb : isTr b = true) : Ev (fun k => spec_AddTraffic.l0 k a b [] 0) (addRes a b) := by
  have hla := isTr_len ha
  have hlb := isTr_len hb
  have key := evUp0 (max a.length b.length) (fun k (s : List Int) (i : Nat) => spec_AddTraffic.l0 k a b s (i : Int)) (fun i s => s = sums a b i) (addRes a b) [] rfl
    (by
      intro i s hi hI
      have hs := sums_len a b i
      rw [← hI] at hs
      have h1 := ct_bound ha i
      have h2 := ct_bound hb i
      refine .inl ⟨sums a b (i + 1), rfl, fun h => Ev.step (f := fun k => spec_AddTraffic.j2 k a b s (i : Int) true) (fun k => ?_) (evNext (fun k => ?_) h)⟩
      · show spec_AddTraffic.l0 (k + 1) a b s (i : Int) = _
        rw [spec_AddTraffic.l0.eq_2]
        by_cases c : i < a.length
        · rw [if_pos (by omega)]
        · rw [if_neg (by omega), decide_eq_true (by omega)]
      · rw [spec_AddTraffic.j2.eq_2, if_pos rfl]
        show _ = spec_AddTraffic.l0 k a b (sums a b (i + 1)) ((i + 1 : Nat) : Int)
        rw [sums_succ, ← hI]
        have hw : wrap64 ((i : Int) + 1) = ((i + 1 : Nat) : Int) := w64 (by omega) (by omega)
        rw [hw]
        clear hw
        unfold ct at h1 h2 ⊢
        by_cases ca : i < a.length
        · rw [if_pos ca] at h1 ⊢
          rw [if_pos (show (i : Int) < (a.length : Int) by omega), if_pos (show (0 : Int) ≤ (i : Int) by omega)]
          by_cases cb : i < b.length
          · rw [if_pos cb] at h2 ⊢
            rw [if_pos (show (i : Int) < (b.length : Int) by omega), if_pos (by omega), w64 (x := rd a (i : Int)) (by omega) (by omega), w64 (x := rd a (i : Int) + rd b (i : Int)) (by omega) (by omega)]
          · rw [if_neg cb] at h2 ⊢
            rw [if_neg (show ¬ (i : Int) < (b.length : Int) by omega), if_pos (by omega), w64 (x := rd a (i : Int)) (by omega) (by omega), Int.add_zero]
        · rw [if_neg ca] at h1 ⊢
          rw [if_neg (show ¬ (i : Int) < (a.length : Int) by omega)]
          have cb : i < b.length := by omega
          rw [if_pos cb] at h2 ⊢
          rw [if_pos (show (i : Int) < (b.length : Int) by omega), if_pos (show (0 : Int) ≤ (i : Int) by omega), if_pos (by omega), w64 (x := rd b (i : Int)) (by omega) (by omega), Int.zero_add])
    (by
      intro s hI
      have hs := sums_len a b (max a.length b.length)
      rw [← hI] at hs
      have ht := specTraffic_ev s (by omega)
      refine Ev.step (f := fun k => spec_AddTraffic.j2 k a b s ((max a.length b.length : Nat) : Int) false) (fun k => ?_) (evCallEnd ht fun k hk => ?_)
      · show spec_AddTraffic.l0 (k + 1) a b s ((max a.length b.length : Nat) : Int) = _
        rw [spec_AddTraffic.l0.eq_2, if_neg (by omega), decide_eq_false (by omega)]
      · rw [spec_AddTraffic.j2.eq_2, if_neg (by simp), hk]
        unfold addRes
        rw [← hI]
        cases isTr s <;> simp)
  exact key
theorem implAdd_ev {a b : List Int} (ha : isTr a = true) (hb : isTr b = true) : Ev (fun k => impl_AddTraffic.l0 k (part a b (max a.length b.length) 0) b (b.length : Int) 0) (addRes a b) := by
  have hla := isTr_len ha
  have hlb := isTr_len hb
  have key := evUp0 b.length (fun k (s : List Int) (i : Nat) => impl_AddTraffic.l0 k s b (b.length : Int) (i : Int)) (fun i s => s = part a b (max a.length b.length) i) (addRes a b) (part a b (max a.length b.length) 0) rfl
    (by
      intro i s hi hI
      have hs := part_len a b (max a.length b.length) i
      rw [← hI] at hs
      have h1 := part_rd ha hb (max a.length b.length) i i (by omega)
      rw [← hI] at h1
      have h2 := all_rd (isTr_all hb) i hi
      refine .inl ⟨part a b (max a.length b.length) (i + 1), rfl, fun h => evNext (fun k => ?_) h⟩
      show impl_AddTraffic.l0 (k + 1) s b (b.length : Int) (i : Int) = impl_AddTraffic.l0 k (part a b (max a.length b.length) (i + 1)) b (b.length : Int) ((i + 1 : Nat) : Int)
      rw [impl_AddTraffic.l0.eq_2, if_pos (by omega), if_pos (by omega), if_pos (by omega), if_pos (by omega), w64 (x := rd s (i : Int) + rd b (i : Int)) (by omega) (by omega), w64 (x := (i : Int) + 1) (by omega) (by omega), Int.toNat_natCast, ← part_succ a b (max a.length b.length) i (by omega) hi, hI]
      rfl)
    (by
      intro s hI
      refine evEnd fun k => ?_
      show impl_AddTraffic.l0 (k + 1) s b (b.length : Int) (b.length : Int) = _
      rw [impl_AddTraffic.l0.eq_2, if_neg (by omega), implTraffic_eq]
      unfold addRes
      rw [hI, part_end]
      simp only [Option.bind_some]
      cases isTr (sums a b (max a.length b.length)) <;> simp)
  exact key
theorem addRes_len (a b : List Int) (ha : isTr a = true) (hb : isTr b = true) : (addRes a b).1.length ≤ 1000000 := by
  have hla := isTr_len ha
  have hlb := isTr_len hb
  unfold addRes
  split
  · simp only [sums_len]
    omega
  · simp
theorem AddTraffic_same (a b : List Int) (h : (a.length ≤ maxLen ∧ a.length * 8 ≤ 140737488351232 ∧ (∀ x ∈ a, (Lit.int .i64 x).wf = true) ∧ b.length ≤ maxLen ∧ b.length * 8 ≤ 140737488351232 ∧ (∀ x ∈ b, (Lit.int .i64 x).wf = true) ∧ a.length ≤ 1048576 ∧ b.length ≤ 1048576)) :
    ∃ v, Ev (fun k => spec_AddTraffic.f k a b) v ∧ Ev (fun k => impl_AddTraffic.f k a b) v ∧ v.1.length ≤ 1000000 := by
  obtain ⟨K1, e1⟩ := specTraffic_ev a (by omega)
  obtain ⟨K2, e2⟩ := specTraffic_ev b (by omega)
  have s1 := implTraffic_eq a
  have s2 := implTraffic_eq b
  dsimp only at e1 e2
  have bad : (isTr a && isTr b) = false → ∃ v, Ev (fun k => spec_AddTraffic.f k a b) v ∧ Ev (fun k => impl_AddTraffic.f k a b) v ∧ v.1.length ≤ 1000000 := by
    intro hb
    refine ⟨([], false), ⟨K1 + K2 + 9, fun k hk => ?_⟩, ⟨9, fun k hk => ?_⟩, by simp⟩
    · obtain ⟨m, rfl⟩ : ∃ m, k = m + 9 := ⟨k - 9, by omega⟩
      have f1 := e1 (m + 9) (by omega)
      have f2 := e2 (m + 9) (by omega)
      dsimp only
      unfold spec_AddTraffic.f
      rw [f1]
      simp only [Option.bind_some]
      cases ha : isTr a with
      | false => rw [if_neg (by simp), spec_AddTraffic.j0.eq_2, if_pos rfl]
      | true =>
        have hb' : isTr b = false := by rw [ha] at hb; simpa using hb
        rw [if_pos rfl, f2, hb']
        simp only [Option.bind_some]
        rw [spec_AddTraffic.j0.eq_2, if_pos (by simp)]
    · obtain ⟨m, rfl⟩ : ∃ m, k = m + 9 := ⟨k - 9, by omega⟩
      dsimp only
      unfold impl_AddTraffic.f
      rw [s1]
      simp only [Option.bind_some]
      cases ha : isTr a with
      | false => rw [if_neg (by simp), impl_AddTraffic.j0.eq_2, if_pos rfl]
      | true =>
        have hb' : isTr b = false := by rw [ha] at hb; simpa using hb
        rw [if_pos rfl, s2, hb']
        simp only [Option.bind_some]
        rw [impl_AddTraffic.j0.eq_2, if_pos (by simp)]
  cases ha : isTr a with
  | false => exact bad (by rw [ha]; rfl)
  | true =>
    cases hb : isTr b with
    | false => exact bad (by rw [ha, hb]; rfl)
    | true =>
      obtain ⟨K3, e3⟩ := specAdd_ev ha hb
      obtain ⟨K4, e4⟩ := implAdd_ev ha hb
      dsimp only at e3 e4
      have hla := isTr_len ha
      have hlb := isTr_len hb
      rw [ha] at e1 s1
      rw [hb] at e2 s2
      refine ⟨addRes a b, ⟨K1 + K2 + K3 + 9, fun k hk => ?_⟩, ⟨K4 + 9, fun k hk => ?_⟩, addRes_len a b ha hb⟩
      · obtain ⟨m, rfl⟩ : ∃ m, k = m + 9 := ⟨k - 9, by omega⟩
        dsimp only
        unfold spec_AddTraffic.f
        rw [e1 _ (by omega)]
        simp only [Option.bind_some]
        rw [if_pos trivial, e2 _ (by omega)]
        simp only [Option.bind_some]
        rw [spec_AddTraffic.j0.eq_2, if_neg (by simp)]
        exact e3 _ (by omega)
      · obtain ⟨m, rfl⟩ : ∃ m, k = m + 9 := ⟨k - 9, by omega⟩
        have hmx : mx (a.length : Int) (b.length : Int) = ((max a.length b.length : Nat) : Int) := by unfold mx; split <;> omega
        have hcp : addCopy.f a ((max a.length b.length : Nat) : Int) = some (part a b (max a.length b.length) 0) := by
          unfold addCopy.f
          rw [Int.toNat_natCast, if_pos (by omega), if_pos (by omega), if_pos (by omega), part_zero a b _ (by omega)]
        dsimp only
        unfold impl_AddTraffic.f
        rw [s1]
        simp only [Option.bind_some]
        rw [if_pos trivial, s2]
        simp only [Option.bind_some]
        rw [impl_AddTraffic.j0.eq_2, if_neg (by simp), hmx, hcp]
        simp only [Option.bind_some]
        exact e4 _ (by omega)
end Go.Proofs.Ythaddopcblcfiaa.X
