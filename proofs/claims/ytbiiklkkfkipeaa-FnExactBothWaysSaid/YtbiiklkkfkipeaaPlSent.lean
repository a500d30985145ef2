/- Plain lemmas: how far a name is sent in a phase. -/
import Derived.Test.YtbiiklkkfkipeaaPlReach
import Derived.Test.YtbiiklkkfkipeaaX25
namespace Go.Proofs.Ytbiiklkkfkipeaa.X
set_option linter.unusedSimpArgs false
set_option linter.unusedVariables false
open Go.RowKit Go.Proofs.YtbiiklkkfkipeaaW.PrintWords
theorem sent_idx (n : Nat) (s step k : Int) (hst : step = 1 ∨ step = -1) (h1 : 1 ≤ k) (h2 : k ≤ 1000) (h0 : 0 ≤ s) (hs : s < n) (hl : n ≤ 1000) :
    Int.tmod (wrap64 ((wrap64 (s + (wrap64 (k * step)))) + (wrap64 (k * (n : Int))))) (n : Int) = (s + k * step) % (n : Int) := by
  have hP : -k ≤ k * step ∧ k * step ≤ k := by
    rcases hst with rfl | rfl <;> omega
  have hQ : k ≤ k * (n : Int) ∧ k * (n : Int) ≤ 1000000 := by
    constructor
    · have := Int.mul_le_mul_of_nonneg_left (show (1 : Int) ≤ (n : Int) by omega) (show (0 : Int) ≤ k by omega)
      rw [Int.mul_one] at this
      exact this
    · have := Int.mul_le_mul h2 (show (n : Int) ≤ 1000 by omega) (by omega) (by omega)
      exact Int.le_trans this (by decide)
  have e : (s + k * step + k * (n : Int)) % (n : Int) = (s + k * step) % (n : Int) := Int.add_mul_emod_self_right _ _ _
  generalize k * step = P at *
  generalize k * (n : Int) = Q at *
  clear hst
  rw [w64 (x := P) (by omega) (by omega), w64 (x := Q) (by omega) (by omega), w64 (x := s + P) (by omega) (by omega), w64 (x := s + P + Q) (by omega) (by omega), Int.tmod_eq_emod_of_nonneg (by omega), e]
theorem specSent_ev (l : List Int) (s step most : Int) (h0 : 0 ≤ s) (hs : s < l.length) (hl : l.length ≤ 1000) (hst : step = 1 ∨ step = -1) (h1 : 0 ≤ most) (h2 : most ≤ 1000) :
    Ev (fun k => spec_elSent.f k l s step most) ((far l s step most).1, !(far l s step most).2) := by
  have key := evUp0 most.toNat (fun k (_ : Unit) (i : Nat) => spec_elSent.l0 k l s step most (l.length : Int) ((i : Int) + 1)) (fun i _ => rch l s step most (most.toNat - i) ((i : Int) + 1) = far l s step most) ((far l s step most).1, !(far l s step most).2) () rfl
    (by
      intro i u hi hI
      have e : most.toNat - i = (most.toNat - (i + 1)) + 1 := by omega
      rw [e, rch] at hI
      have hb := stn_bound l s step ((i : Int) + 1) (by omega)
      have hm7 := sent_idx l.length s step ((i : Int) + 1) hst (by omega) (by omega) h0 hs hl
      have hm6 : (s + ((i : Int) + 1) * step) % (l.length : Int) = stn l s step ((i : Int) + 1) := rfl
      rw [hm6] at hm7
      generalize stn l s step ((i : Int) + 1) = q at *
      by_cases hc : rd l q > rd l s
      · rw [if_pos hc] at hI
        refine .inr (evEnd fun k => ?_)
        show spec_elSent.l0 (k + 1) l s step most (l.length : Int) ((i : Int) + 1) = _
        simp only [spec_elSent.l0]
        rw [hm7, if_pos (by omega), if_neg (by omega), if_pos (by omega), if_pos (by omega), if_pos (by omega), if_pos (by omega), if_pos hc, ← hI]
        rfl
      · rw [if_neg hc] at hI
        refine .inl ⟨(), hI, fun h => evNext (fun k => ?_) h⟩
        show spec_elSent.l0 (k + 1) l s step most (l.length : Int) ((i : Int) + 1) = spec_elSent.l0 k l s step most (l.length : Int) (((i + 1 : Nat) : Int) + 1)
        simp only [spec_elSent.l0]
        rw [hm7, if_pos (by omega), if_neg (by omega), if_pos (by omega), if_pos (by omega), if_pos (by omega), if_pos (by omega), if_neg hc, w64 (by omega) (by omega)]
        rfl)
    (by
      intro u hI
      refine evEnd fun k => ?_
      show spec_elSent.l0 (k + 1) l s step most (l.length : Int) ((most.toNat : Int) + 1) = _
      simp only [spec_elSent.l0]
      rw [if_neg (by omega), ← hI, Nat.sub_self]
      rfl)
  exact key
end Go.Proofs.Ytbiiklkkfkipeaa.X
