/- WinnerOf: the program and the reference come to the same. -/
import Derived.Test.YtbiiklkkfkipeaaPlNames
import Derived.Test.YtbiiklkkfkipeaaX11
import Derived.Test.YtbiiklkkfkipeaaX12
namespace Go.Proofs.Ytbiiklkkfkipeaa.X
set_option linter.unusedSimpArgs false
set_option linter.unusedVariables false
open Go.RowKit Go.Proofs.YtbiiklkkfkipeaaW.PrintWords
/-- The first of the first n stations with the greatest name. -/
def top (l : List Int) : Nat → Nat
  | 0 => 0
  | n + 1 => if rd l (n : Int) > rd l ((top l n : Nat) : Int) then n else top l n
theorem maxTo_top (l : List Int) : ∀ n, maxTo l n = rd l ((top l n : Nat) : Int)
  | 0 => rfl
  | n + 1 => by
    simp only [maxTo, top, maxTo_top l n]
    split <;> rfl
theorem top_lt (l : List Int) (h : 0 < l.length) : ∀ n, n ≤ l.length → top l n < l.length
  | 0, _ => h
  | n + 1, hn => by
    simp only [top]
    split
    · omega
    · exact top_lt l h n (by omega)
theorem top_ge (l : List Int) : ∀ n i : Nat, i < n → rd l (i : Int) ≤ rd l ((top l n : Nat) : Int)
  | 0, i, h => by omega
  | n + 1, i, h => by
    simp only [top]
    by_cases e : i = n
    · subst e
      split <;> omega
    · have := top_ge l n i (by omega)
      split <;> omega
theorem specWinner_ev (l : List Int) (h0 : 0 < l.length) (hl : l.length ≤ 1048576) : Ev (fun k => spec_elWinner.f k l) ((top l l.length : Nat) : Int) := by
  have key := evUp0 l.length (fun k (s : Nat) (i : Nat) => spec_elWinner.l0 k l (s : Int) l (l.length : Int) (i : Int)) (fun i s => s = top l i) ((top l l.length : Nat) : Int) 0 rfl
    (by
      intro i s hi hI
      have ht := top_lt l h0 i (by omega)
      rw [← hI] at ht
      refine .inl ⟨top l (i + 1), rfl, fun h => evNext (fun k => ?_) h⟩
      show spec_elWinner.l0 (k + 1) l (s : Int) l (l.length : Int) (i : Int) = spec_elWinner.l0 k l ((top l (i + 1) : Nat) : Int) l (l.length : Int) ((i + 1 : Nat) : Int)
      simp only [spec_elWinner.l0]
      rw [if_pos (by omega), if_pos (by omega), if_pos (by omega), if_pos (by omega), if_pos (by omega), w64 (by omega) (by omega)]
      simp only [top, ← hI]
      split <;> rfl)
    (by
      intro s hI
      refine evEnd fun k => ?_
      show spec_elWinner.l0 (k + 1) l (s : Int) l (l.length : Int) (l.length : Int) = _
      simp only [spec_elWinner.l0]
      rw [if_neg (by omega), hI])
  exact key
theorem indexAt_ev (l : List Int) (t : Nat) (ht : t < l.length) (hl : l.length ≤ 1048576) (hn : ∀ i : Nat, i < t → rd l (t : Int) ≠ rd l (i : Int)) : Ev (fun k => slices_Index_int_int.f k l (rd l (t : Int))) (t : Int) := by
  have key := evUp0 t (fun k (_ : Unit) (i : Nat) => slices_Index_int_int.l0 k l (rd l (t : Int)) (l.length : Int) (i : Int)) (fun _ _ => True) (t : Int) () trivial
    (by
      intro i s hi _
      refine .inl ⟨(), trivial, fun h => evNext (fun k => ?_) h⟩
      show slices_Index_int_int.l0 (k + 1) l (rd l (t : Int)) (l.length : Int) (i : Int) = slices_Index_int_int.l0 k l (rd l (t : Int)) (l.length : Int) ((i + 1 : Nat) : Int)
      simp only [slices_Index_int_int.l0]
      rw [if_pos (by omega), if_pos (by omega), if_pos (by omega), if_neg (hn i hi), w64 (by omega) (by omega)]
      rfl)
    (by
      intro s _
      refine evEnd fun k => ?_
      show slices_Index_int_int.l0 (k + 1) l (rd l (t : Int)) (l.length : Int) (t : Int) = _
      simp only [slices_Index_int_int.l0]
      rw [if_pos (by omega), if_pos (by omega), if_pos (by omega), if_pos trivial])
  exact key
theorem implWinner_ev (l : List Int) (h0 : 0 < l.length) (hl : l.length ≤ 1048576) (hf : fresh l l.length = true) : Ev (fun k => impl_winner.f k l) ((top l l.length : Nat) : Int) := by
  have ht := top_lt l h0 l.length (Nat.le_refl _)
  obtain ⟨K, e⟩ := indexAt_ev l (top l l.length) ht hl (fun i hi => fresh_ne hf ht (by omega) (by omega))
  dsimp only at e
  refine ⟨K, fun k hk => ?_⟩
  have hM : slices_Max_int_int.f l = some (rd l ((top l l.length : Nat) : Int)) := by
    unfold slices_Max_int_int.f
    rw [if_neg (by omega), maxTo_top]
  show impl_winner.f k l = _
  unfold impl_winner.f
  rw [hM]
  simp only [Option.bind_some]
  rw [e k hk]
  rfl
theorem WinnerOf_same (l : List Int) (h : (l.length ≤ maxLen ∧ l.length * 8 ≤ 140737488351232 ∧ (∀ x ∈ l, (Lit.int .i64 x).wf = true) ∧ l.length ≤ 1048576)) :
    ∃ v, Ev (fun k => spec_WinnerOf.f k l) v ∧ Ev (fun k => impl_WinnerOf.f k l) v := by
  obtain ⟨K, e⟩ := specNames_ev l h.2.2.2
  obtain ⟨K', e'⟩ := implNames_ev l h.2.2.2
  dsimp only at e e'
  cases hk : isNm l with
  | true =>
    rw [hk] at e e'
    have hb := isNm_iff hk
    obtain ⟨K1, e1⟩ := specWinner_ev l (by omega) (by omega)
    obtain ⟨K2, e2⟩ := implWinner_ev l (by omega) (by omega) hb.2.2.2
    dsimp only at e1 e2
    refine ⟨(((top l l.length : Nat) : Int), true), ⟨K + K1, fun n hn => ?_⟩, ⟨K' + K2, fun n hn => ?_⟩⟩
    · simp (disch := omega) only [spec_WinnerOf.f, e, e1, Option.bind_some, if_true]
    · simp (disch := omega) only [impl_WinnerOf.f, e', e2, Option.bind_some, if_true]
  | false =>
    rw [hk] at e e'
    refine ⟨(0, false), ⟨K + 9, fun n hn => ?_⟩, ⟨K' + 9, fun n hn => ?_⟩⟩
    · simp (disch := omega) [spec_WinnerOf.f, e]
    · simp (disch := omega) [impl_WinnerOf.f, e']
end Go.Proofs.Ytbiiklkkfkipeaa.X
