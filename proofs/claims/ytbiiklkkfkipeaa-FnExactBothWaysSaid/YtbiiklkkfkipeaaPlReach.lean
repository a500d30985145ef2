/- Plain lemmas: how far a name is sent. -/
import Derived.Test.YtbiiklkkfkipeaaPlNames
import Derived.Test.YtbiiklkkfkipeaaX15
namespace Go.Proofs.Ytbiiklkkfkipeaa.X
set_option linter.unusedSimpArgs false
set_option linter.unusedVariables false
open Go.RowKit Go.Proofs.YtbiiklkkfkipeaaW.PrintWords
theorem tmod_shift (a n : Int) (hn : 0 < n) : Int.tmod (Int.tmod a n + n) n = a % n := by
  have h1 : 0 ≤ Int.tmod a n + n := by
    have := Int.lt_tmod_of_pos a hn
    omega
  rw [Int.tmod_eq_emod_of_nonneg h1]
  have h2 : Int.tmod a n = a - n * Int.tdiv a n := by
    have := Int.mul_tdiv_add_tmod a n
    omega
  rw [h2, show a - n * Int.tdiv a n + n = a + n * (1 - Int.tdiv a n) from by rw [Int.mul_sub]; omega, Int.add_mul_emod_self_left]
theorem tmod_bound (a n : Int) (hn : 0 < n) : -n < Int.tmod a n ∧ Int.tmod a n < n := ⟨Int.lt_tmod_of_pos a hn, Int.tmod_lt_of_pos a hn⟩
/-- The station that is k steps on. -/
def stn (l : List Int) (s step k : Int) : Int := (s + k * step) % (l.length : Int)
theorem stn_bound (l : List Int) (s step k : Int) (h : 0 < l.length) : 0 ≤ stn l s step k ∧ stn l s step k < l.length := by
  unfold stn
  exact ⟨Int.emod_nonneg _ (by omega), Int.emod_lt_of_pos _ (by omega)⟩
/-- At the k-th station from k on, at most n more: the first whose name is greater. -/
def rch (l : List Int) (s step most : Int) : Nat → Int → Int × Bool
  | 0, _ => (most, false)
  | n + 1, k => if rd l (stn l s step k) > rd l s then (k, true) else rch l s step most n (k + 1)
def far (l : List Int) (s step most : Int) : Int × Bool := rch l s step most most.toNat 1
theorem implReach_ev (l : List Int) (s step most : Int) (h0 : 0 ≤ s) (hs : s < l.length) (hl : l.length ≤ 1000) (hst : step = 1 ∨ step = -1) (h1 : 0 ≤ most) (h2 : most ≤ 1000) :
    Ev (fun k => impl_reach.f k l s step most) (far l s step most) := by
  have key := evUp0 most.toNat (fun k (_ : Unit) (i : Nat) => impl_reach.l0 k l s step most (l.length : Int) ((i : Int) + 1)) (fun i _ => rch l s step most (most.toNat - i) ((i : Int) + 1) = far l s step most) (far l s step most) () rfl
    (by
      intro i u hi hI
      have e : most.toNat - i = (most.toNat - (i + 1)) + 1 := by omega
      rw [e, rch] at hI
      have hb := stn_bound l s step ((i : Int) + 1) (by omega)
      have hm : wrap64 (((i : Int) + 1) * step) = ((i : Int) + 1) * step := by
        rcases hst with rfl | rfl
        · rw [Int.mul_one]; exact w64 (by omega) (by omega)
        · rw [show ((i : Int) + 1) * -1 = -((i : Int) + 1) from by omega]; exact w64 (by omega) (by omega)
      have hm2 : -2000 ≤ ((i : Int) + 1) * step ∧ ((i : Int) + 1) * step ≤ 2000 := by
        rcases hst with rfl | rfl <;> omega
      have hm3 : wrap64 (s + ((i : Int) + 1) * step) = s + ((i : Int) + 1) * step := w64 (by omega) (by omega)
      have ht := tmod_bound (s + ((i : Int) + 1) * step) (l.length : Int) (by omega)
      have hm4 : wrap64 (Int.tmod (s + ((i : Int) + 1) * step) (l.length : Int) + (l.length : Int)) = Int.tmod (s + ((i : Int) + 1) * step) (l.length : Int) + (l.length : Int) := w64 (by omega) (by omega)
      have hm5 := tmod_shift (s + ((i : Int) + 1) * step) (l.length : Int) (by omega)
      have hm6 : (s + ((i : Int) + 1) * step) % (l.length : Int) = stn l s step ((i : Int) + 1) := rfl
      by_cases hc : rd l (stn l s step ((i : Int) + 1)) > rd l s
      · rw [if_pos hc] at hI
        refine .inr (evEnd fun k => ?_)
        show impl_reach.l0 (k + 1) l s step most (l.length : Int) ((i : Int) + 1) = _
        simp only [impl_reach.l0]
        rw [hm, hm3, hm4, hm5, hm6, if_pos (by omega), if_neg (by omega), if_pos (by omega), if_pos (by omega), if_pos (by omega), if_pos (by omega), if_pos hc, hI]
      · rw [if_neg hc] at hI
        refine .inl ⟨(), hI, fun h => evNext (fun k => ?_) h⟩
        show impl_reach.l0 (k + 1) l s step most (l.length : Int) ((i : Int) + 1) = impl_reach.l0 k l s step most (l.length : Int) (((i + 1 : Nat) : Int) + 1)
        simp only [impl_reach.l0]
        rw [hm, hm3, hm4, hm5, hm6, if_pos (by omega), if_neg (by omega), if_pos (by omega), if_pos (by omega), if_pos (by omega), if_pos (by omega), if_neg hc, w64 (by omega) (by omega)]
        rfl)
    (by
      intro u hI
      refine evEnd fun k => ?_
      show impl_reach.l0 (k + 1) l s step most (l.length : Int) ((most.toNat : Int) + 1) = _
      simp only [impl_reach.l0]
      rw [if_neg (by omega), ← hI, Nat.sub_self]
      rfl)
  exact key
end Go.Proofs.Ytbiiklkkfkipeaa.X
