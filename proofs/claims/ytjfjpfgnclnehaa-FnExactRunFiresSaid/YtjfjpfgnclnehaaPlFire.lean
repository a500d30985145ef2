/- FireStation: the program and the reference come to the same. -/
import Derived.Test.YtjfjpfgnclnehaaPlHolders
import Derived.Test.YtjfjpfgnclnehaaPlHas
import Derived.Test.YtjfjpfgnclnehaaX17
import Derived.Test.YtjfjpfgnclnehaaX9
import Derived.Test.YtjfjpfgnclnehaaX19
namespace Go.Proofs.Ytjfjpfgnclnehaa.X
set_option linter.unusedSimpArgs false
set_option linter.unusedVariables false
open Go.RowKit Go.Proofs.YtjfjpfgnclnehaaW.PrintWords
/-- The states behind the firing of station s. -/
def fire (l : List Int) (k : Int) (s : Nat) : List Int := if s = 0 then l.set 0 ((rd l 0 + 1) % k) else l.set s (rd l ((s : Int) - 1))
theorem fire_len (l : List Int) (k : Int) (s : Nat) : (fire l k s).length = l.length := by
  unfold fire
  split <;> simp
theorem fire_ok {l : List Int} {k : Int} (h : isSt l k = true) (s : Nat) (hs : s < l.length) : isSt (fire l k s) k = true := by
  have hb := isSt_iff h
  have e := h
  unfold isSt at e ⊢
  simp only [Bool.and_eq_true] at e ⊢
  rw [fire_len]
  refine ⟨e.1, e.2.1, ?_⟩
  rw [List.all_eq_true]
  intro x hx
  have h0 := hb.2.2.2.2
  unfold fire at hx
  by_cases hs0 : s = 0
  · rw [if_pos hs0] at hx
    rcases List.mem_or_eq_of_mem_set hx with hx | hx
    · exact inB_iff.2 (h0 x hx)
    · rw [hx]
      have h1 := Int.emod_nonneg (rd l 0 + 1) (show k ≠ 0 by omega)
      have h2 := Int.emod_lt_of_pos (rd l 0 + 1) (show 0 < k by omega)
      exact inB_iff.2 (by omega)
  · rw [if_neg hs0] at hx
    rcases List.mem_or_eq_of_mem_set hx with hx | hx
    · exact inB_iff.2 (h0 x hx)
    · rw [hx, show (s : Int) - 1 = ((s - 1 : Nat) : Int) from by omega, rd_at l (s - 1) (by omega)]
      exact inB_iff.2 (h0 _ (List.getElem_mem _))
theorem own_eq (l : List Int) (hl : l.length ≤ 100000) : spec_l1Own.f l = some l := by
  unfold spec_l1Own.f
  simp only [Option.bind_some, List.length_nil, List.nil_append]
  rw [if_pos (by omega)]
theorem clone_eq (l : List Int) (hl : l.length ≤ 100000) : slices_Clone_int_int.f l = some l := by
  unfold slices_Clone_int_int.f
  rw [if_pos (by omega)]
theorem specFire_eq {l : List Int} {k : Int} (h : isSt l k = true) (s : Nat) (hs : s < l.length) : spec_elFire.f l k (s : Int) = some (fire l k s) := by
  have hb := isSt_iff h
  have h0 := hb.2.2.2.2 _ (List.getElem_mem (show 0 < l.length by omega))
  have e0 : rd l 0 = l[0] := rd_at l 0 (by omega)
  unfold spec_elFire.f fire
  rw [own_eq l (by omega)]
  simp only [Option.bind_some]
  by_cases hs0 : s = 0
  · subst hs0
    rw [if_pos (by omega), if_pos (by omega), if_neg (by omega), w64 (by omega) (by omega), Int.tmod_eq_emod_of_nonneg (by omega)]
    rfl
  · rw [if_neg (by omega), w64 (by omega) (by omega), if_pos (by omega), if_pos (by omega), if_pos (by omega), if_pos (by omega), if_neg hs0, Int.toNat_natCast]
theorem implFire_eq {l : List Int} {k : Int} (h : isSt l k = true) (s : Nat) (hs : s < l.length) : impl_fired.f l k (s : Int) = some (fire l k s) := by
  have hb := isSt_iff h
  have h0 := hb.2.2.2.2 _ (List.getElem_mem (show 0 < l.length by omega))
  have e0 : rd l 0 = l[0] := rd_at l 0 (by omega)
  unfold impl_fired.f fire
  rw [clone_eq l (by omega)]
  simp only [Option.bind_some]
  by_cases hs0 : s = 0
  · subst hs0
    rw [if_pos (by omega), if_pos (by omega), if_neg (by omega), w64 (by omega) (by omega), Int.tmod_eq_emod_of_nonneg (by omega)]
    rfl
  · rw [if_neg (by omega), w64 (by omega) (by omega), if_pos (by omega), if_pos (by omega), if_pos (by omega), if_pos (by omega), if_neg hs0, Int.toNat_natCast]
theorem hs_mem (l : List Int) (n : Nat) (x : Int) : x ∈ hs l n ↔ ∃ j : Nat, j < n ∧ hold l j = true ∧ (j : Int) = x := by
  unfold hs
  simp [List.mem_map, List.mem_filter, and_assoc]
theorem FireStation_same (l : List Int) (k s : Int) (h : (l.length ≤ maxLen ∧ l.length * 8 ≤ 140737488351232 ∧ (∀ x ∈ l, (Lit.int .i64 x).wf = true) ∧ (Lit.int .i64 k).wf = true ∧ (Lit.int .i64 s).wf = true ∧ l.length ≤ 1048576)) :
    ∃ v, Ev (fun n => spec_FireStation.f n l k s) v ∧ Ev (fun n => impl_FireStation.f n l k s) v ∧ v.1.length ≤ 1000000 := by
  obtain ⟨K, e⟩ := specStates_ev l k (by omega)
  dsimp only at e
  cases hk : isSt l k with
  | true =>
    rw [hk] at e
    have hb := isSt_iff hk
    obtain ⟨K2, e2⟩ := implHolders_ev l (by omega)
    obtain ⟨K3, e3⟩ := contains_ev (hs l l.length) s (by have := hs_len l l.length; omega)
    dsimp only at e2 e3
    by_cases hc : 0 ≤ s ∧ s < l.length
    · obtain ⟨j, rfl⟩ := Int.eq_ofNat_of_zero_le hc.1
      have hj : j < l.length := by omega
      have hin : inB 0 ((l.length : Int) - 1) (j : Int) = true := inB_iff.2 (by omega)
      have hcon : (hs l l.length).contains (j : Int) = hold l j := by
        rw [Bool.eq_iff_iff, List.contains_iff_mem, hs_mem]
        constructor
        · rintro ⟨i, _, h1, h2⟩
          have : i = j := by omega
          rwa [this] at h1
        · intro h1
          exact ⟨j, hj, h1, rfl⟩
      rw [hcon] at e3
      cases hh : hold l j with
      | true =>
        rw [hh] at e3
        refine ⟨(fire l k j, true), ⟨K + 9, fun n hn => ?_⟩, ⟨K2 + K3 + 9, fun n hn => ?_⟩, by simp only [fire_len]; omega⟩
        · simp (disch := omega) only [spec_FireStation.f, e, l1In_eq, w64, hin, specHolds_eq, hh, specFire_eq hk, Option.bind_some, if_true]
        · simp (disch := omega) only [impl_FireStation.f, implStates_eq, hk, e2, e3, implFire_eq hk, Option.bind_some, if_true]
      | false =>
        rw [hh] at e3
        refine ⟨([], false), ⟨K + 9, fun n hn => ?_⟩, ⟨K2 + K3 + 9, fun n hn => ?_⟩, by simp⟩
        · simp (disch := omega) only [spec_FireStation.f, e, l1In_eq, w64, hin, specHolds_eq, hh, Option.bind_some, if_true, Bool.false_eq_true, if_false]
        · simp (disch := omega) only [impl_FireStation.f, implStates_eq, hk, e2, e3, Option.bind_some, if_true, Bool.false_eq_true, if_false]
    · have hin : inB 0 ((l.length : Int) - 1) s = false := by
        cases hx : inB 0 ((l.length : Int) - 1) s with
        | false => rfl
        | true =>
          have := inB_iff.1 hx
          exact absurd ⟨this.1, by omega⟩ hc
      have hcon : (hs l l.length).contains s = false := by
        cases hx : (hs l l.length).contains s with
        | false => rfl
        | true =>
          rw [List.contains_iff_mem, hs_mem] at hx
          obtain ⟨i, h1, _, h2⟩ := hx
          exact absurd ⟨by omega, by omega⟩ hc
      rw [hcon] at e3
      refine ⟨([], false), ⟨K + 9, fun n hn => ?_⟩, ⟨K2 + K3 + 9, fun n hn => ?_⟩, by simp⟩
      · simp (disch := omega) only [spec_FireStation.f, e, l1In_eq, w64, hin, Option.bind_some, if_true, Bool.false_eq_true, if_false]
      · simp (disch := omega) only [impl_FireStation.f, implStates_eq, hk, e2, e3, Option.bind_some, if_true, Bool.false_eq_true, if_false]
  | false =>
    rw [hk] at e
    refine ⟨([], false), ⟨K + 9, fun n hn => ?_⟩, ⟨9, fun n hn => ?_⟩, by simp⟩
    · simp (disch := omega) [spec_FireStation.f, e]
    · simp [impl_FireStation.f, implStates_eq, hk]
end Go.Proofs.Ytjfjpfgnclnehaa.X
