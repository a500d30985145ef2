/- Plain lemmas: the holders of a token. -/
import Derived.Test.YtjfjpfgnclnehaaPlStates
import Derived.Test.YtjfjpfgnclnehaaX6
import Derived.Test.YtjfjpfgnclnehaaX7
namespace Go.Proofs.Ytjfjpfgnclnehaa.X
set_option linter.unusedSimpArgs false
set_option linter.unusedVariables false
open Go.RowKit Go.Proofs.YtjfjpfgnclnehaaW.PrintWords
/-- Does station s hold a token? -/
def hold (l : List Int) (s : Nat) : Bool := if s = 0 then rd l 0 == rd l ((l.length : Int) - 1) else rd l (s : Int) != rd l ((s : Int) - 1)
/-- The holders below n. -/
def hs (l : List Int) (n : Nat) : List Int := ((List.range n).filter (hold l)).map (fun (j : Nat) => (j : Int))
theorem hs_succ (l : List Int) (n : Nat) : hs l (n + 1) = if hold l n = true then hs l n ++ [(n : Int)] else hs l n := by
  unfold hs
  rw [List.range_succ, List.filter_append]
  cases h : hold l n <;> simp [List.filter_cons, h]
theorem hs_len (l : List Int) (n : Nat) : (hs l n).length ≤ n := by
  unfold hs
  rw [List.length_map]
  have := List.length_filter_le (hold l) (List.range n)
  rw [List.length_range] at this
  exact this
theorem mod_prev (s n : Int) (h0 : 0 ≤ s) (h1 : s < n) : Int.tmod (s + n - 1) n = if s = 0 then n - 1 else s - 1 := by
  rw [Int.tmod_eq_emod_of_nonneg (by omega)]
  by_cases h : s = 0
  · rw [if_pos h, Int.emod_eq_of_lt (by omega) (by omega)]
    omega
  · rw [if_neg h, show s + n - 1 = (s - 1) + n from by omega, Int.add_emod_right, Int.emod_eq_of_lt (by omega) (by omega)]
theorem specHolds_eq (l : List Int) (s : Nat) (hs : s < l.length) (hl : l.length ≤ 100000) : spec_elHolds.f l (s : Int) = some (hold l s) := by
  unfold spec_elHolds.f hold
  by_cases h : s = 0
  · subst h
    rw [if_pos (by omega), if_pos (by omega), w64 (by omega) (by omega), if_pos (by omega), if_pos (by omega)]
    rfl
  · rw [if_neg (by omega), if_pos (by omega), if_pos (by omega), w64 (by omega) (by omega), if_pos (by omega), if_pos (by omega), if_neg h]
theorem specHolders_ev (l : List Int) (hl : l.length ≤ 100000) : Ev (fun k => spec_elHolders.f k l) (hs l l.length) := by
  have key := evUp0 l.length (fun k (s : List Int) (i : Nat) => spec_elHolders.l0 k l s (l.length : Int) (i : Int)) (fun i s => s = hs l i) (hs l l.length) [] rfl
    (by
      intro i s hi hI
      have hlen := hs_len l i
      rw [← hI] at hlen
      refine .inl ⟨hs l (i + 1), rfl, fun h => evNext (fun k => ?_) h⟩
      show spec_elHolders.l0 (k + 1) l s (l.length : Int) (i : Int) = spec_elHolders.l0 k l (hs l (i + 1)) (l.length : Int) (i + 1 : Nat)
      simp only [spec_elHolders.l0]
      rw [if_pos (by omega), specHolds_eq l i hi hl, w64 (by omega) (by omega), hs_succ]
      simp only [Option.bind_some]
      by_cases hh : hold l i = true
      · rw [if_pos hh, if_pos hh, if_pos (by omega), hI]
        rfl
      · rw [if_neg hh, if_neg hh, hI]
        rfl)
    (by
      intro s hI
      refine evEnd fun k => ?_
      show spec_elHolders.l0 (k + 1) l s (l.length : Int) (l.length : Int) = _
      simp only [spec_elHolders.l0]
      rw [if_neg (by omega), hI])
  exact key
theorem implHolders_ev (l : List Int) (hl : l.length ≤ 100000) : Ev (fun k => impl_holders.f k l) (hs l l.length) := by
  have key := evUp0 l.length (fun k (s : List Int) (i : Nat) => impl_holders.l0 k l s l (l.length : Int) (i : Int)) (fun i s => s = hs l i) (hs l l.length) [] rfl
    (by
      intro i s hi hI
      have hlen := hs_len l i
      rw [← hI] at hlen
      refine .inl ⟨hs l (i + 1), rfl, fun h => evNext (fun k => ?_) h⟩
      show impl_holders.l0 (k + 1) l s l (l.length : Int) (i : Int) = impl_holders.l0 k l (hs l (i + 1)) l (l.length : Int) (i + 1 : Nat)
      have hm := mod_prev (i : Int) (l.length : Int) (by omega) (by omega)
      have e1 : wrap64 ((i : Int) + l.length) = (i : Int) + l.length := w64 (by omega) (by omega)
      have e2 : wrap64 ((i : Int) + l.length - 1) = (i : Int) + l.length - 1 := w64 (by omega) (by omega)
      have hc : (((i : Int) == 0) == ((rd l (i : Int)) == (rd l (if (i : Int) = 0 then (l.length : Int) - 1 else (i : Int) - 1)))) = hold l i := by
        unfold hold
        by_cases h0 : i = 0
        · subst h0
          simp
        · rw [if_neg h0, if_neg (show ¬ (i : Int) = 0 by omega)]
          have : ((i : Int) == 0) = false := by simpa using h0
          rw [this]
          simp [bne]
      simp only [impl_holders.l0]
      rw [e1, e2, hm, if_pos (by omega), if_pos (by omega), if_pos (by omega), if_neg (by omega), if_pos (by split <;> omega), if_pos (by split <;> omega), hc, w64 (by omega) (by omega), hs_succ]
      by_cases hh : hold l i = true
      · rw [if_pos hh, if_pos hh, if_pos (by omega), hI]
        rfl
      · rw [if_neg hh, if_neg hh, hI]
        rfl)
    (by
      intro s hI
      refine evEnd fun k => ?_
      show impl_holders.l0 (k + 1) l s l (l.length : Int) (l.length : Int) = _
      simp only [impl_holders.l0]
      rw [if_neg (by omega), hI])
  exact key
end Go.Proofs.Ytjfjpfgnclnehaa.X
