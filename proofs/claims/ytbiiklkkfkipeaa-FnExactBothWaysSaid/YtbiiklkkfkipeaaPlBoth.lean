/- Plain lemmas: the phases of the election both ways. -/
import Derived.Test.YtbiiklkkfkipeaaPlWinner
import Derived.Test.YtbiiklkkfkipeaaPlReach
namespace Go.Proofs.Ytbiiklkkfkipeaa.X
set_option linter.unusedSimpArgs false
set_option linter.unusedVariables false
open Go.RowKit Go.Proofs.YtbiiklkkfkipeaaW.PrintWords
theorem rch_same (l : List Int) (s step p q : Int) : ∀ (j m m' : Nat) (k : Int), j < m → j < m' → rd l (stn l s step (k + j)) > rd l s → rch l s step p m k = rch l s step q m' k
  | j, 0, _, k, h, _, _ => by omega
  | j, _, 0, k, _, h, _ => by omega
  | 0, m + 1, m' + 1, k, _, _, h => by
    simp only [rch]
    rw [show k + ((0 : Nat) : Int) = k by omega] at h
    rw [if_pos h, if_pos h]
  | j + 1, m + 1, m' + 1, k, h1, h2, h => by
    simp only [rch]
    split
    · rfl
    · exact rch_same l s step p q j m m' (k + 1) (by omega) (by omega) (by rw [show k + 1 + (j : Int) = k + ((j + 1 : Nat) : Int) by omega]; exact h)
theorem far_same (l : List Int) (s step p q : Int) (j : Nat) (h : rd l (stn l s step ((j : Int) + 1)) > rd l s) (hp : (j : Int) < p) (hq : (j : Int) < q) : far l s step p = far l s step q := by
  unfold far
  exact rch_same l s step p q j p.toNat q.toNat 1 (by omega) (by omega) (by rw [show (1 : Int) + (j : Int) = (j : Int) + 1 by omega]; exact h)
/-- There is a step to any other station. -/
theorem stn_to (l : List Int) (s t : Nat) (hs : s < l.length) (ht : t < l.length) (hne : s ≠ t) (step : Int) (hst : step = 1 ∨ step = -1) : ∃ j : Nat, j + 1 < l.length ∧ stn l (s : Int) step ((j : Int) + 1) = (t : Int) := by
  have key : ∀ (d : Int), 0 < d → d < l.length → ((s : Int) + d * step = t ∨ (s : Int) + d * step = t + l.length ∨ (s : Int) + d * step = t - l.length) → ∃ j : Nat, j + 1 < l.length ∧ stn l (s : Int) step ((j : Int) + 1) = (t : Int) := by
    intro d h1 h2 h3
    refine ⟨(d - 1).toNat, by omega, ?_⟩
    rw [show (((d - 1).toNat : Nat) : Int) + 1 = d by omega]
    unfold stn
    have e : (t : Int) % (l.length : Int) = t := Int.emod_eq_of_lt (by omega) (by omega)
    rcases h3 with h3 | h3 | h3
    · rw [h3, e]
    · rw [h3, Int.add_emod_right, e]
    · rw [h3, Int.sub_emod_right, e]
  rcases hst with rfl | rfl
  · by_cases h : s < t
    · exact key (t - s) (by omega) (by omega) (.inl (by omega))
    · exact key (t - s + l.length) (by omega) (by omega) (.inr (.inl (by omega)))
  · by_cases h : s < t
    · exact key (s - t + l.length) (by omega) (by omega) (.inr (.inr (by omega)))
    · exact key (s - t) (by omega) (by omega) (.inl (by omega))
/-- A name that is not the greatest one is stopped, if sent far enough: then the greatest number of links does not matter. -/
theorem far_cut {l : List Int} (hf : fresh l l.length = true) (s : Nat) (hs : s < l.length) (step : Int) (hst : step = 1 ∨ step = -1) (f : Int) (h : ¬ (f ≥ (l.length : Int) ∧ s = top l l.length)) :
    far l (s : Int) step (if f < (l.length : Int) then f else (l.length : Int)) = far l (s : Int) step f := by
  by_cases hc : f < (l.length : Int)
  · rw [if_pos hc]
  · rw [if_neg hc]
    have ht := top_lt l (by omega) l.length (Nat.le_refl _)
    have hne : s ≠ top l l.length := fun e => h ⟨by omega, e⟩
    obtain ⟨j, hj, e⟩ := stn_to l s (top l l.length) hs ht hne step hst
    have hg := top_ge l l.length s hs
    have hn := fresh_ne hf hs ht hne
    refine far_same l (s : Int) step _ _ j ?_ (by omega) (by omega)
    rw [e]
    omega
def ow (A : Int × Bool) : Int := if A.2 then A.1 else A.1 + A.1
def oneWay (l : List Int) (s step f : Int) : Int := ow (far l s step f)
def stays (l : List Int) (s f : Int) : Bool := !(far l s 1 f).2 && !(far l s (-1) f).2
def bwStep (l : List Int) (f : Int) (x : Int × List Int) (s : Int) : Int × List Int :=
  if f ≥ (l.length : Int) ∧ s = ((top l l.length : Nat) : Int) then (x.1 + (l.length : Int), x.2) else (x.1 + (oneWay l s 1 f + oneWay l s (-1) f), if stays l s f then x.2 ++ [s] else x.2)
def bwTo (l L : List Int) (f c : Int) : Nat → Int × List Int
  | 0 => (c, [])
  | i + 1 => bwStep l f (bwTo l L f c i) (rd L (i : Int))
theorem rch_bnd (l : List Int) (s step most : Int) : ∀ (n : Nat) (k : Int), 1 ≤ k → (n : Int) + k - 1 ≤ most → 0 ≤ most → 0 ≤ (rch l s step most n k).1 ∧ (rch l s step most n k).1 ≤ most
  | 0, k, h1, h2, h3 => by simp [rch]; omega
  | n + 1, k, h1, h2, h3 => by
    simp only [rch]
    split
    · simp only
      omega
    · exact rch_bnd l s step most n (k + 1) (by omega) (by omega) h3
theorem far_bnd (l : List Int) (s step f : Int) (h : 0 ≤ f) : 0 ≤ (far l s step f).1 ∧ (far l s step f).1 ≤ f := by
  unfold far
  exact rch_bnd l s step f f.toNat 1 (by omega) (by omega) h
theorem oneWay_bnd (l : List Int) (s step f : Int) (h : 0 ≤ f) : 0 ≤ oneWay l s step f ∧ oneWay l s step f ≤ 2 * f := by
  have := far_bnd l s step f h
  unfold oneWay ow
  split <;> omega
theorem bwTo_bnd (l L : List Int) (f c : Int) (hf : 0 ≤ f ∧ f ≤ 24) (hl : l.length ≤ 12) (hc : 0 ≤ c) (n : Nat) (hL : ∀ i : Nat, i < L.length → 0 ≤ rd L (i : Int) ∧ rd L (i : Int) < n) : ∀ i : Nat, i ≤ L.length → 0 ≤ (bwTo l L f c i).1 ∧ (bwTo l L f c i).1 ≤ c + 100 * i ∧ (bwTo l L f c i).2.length ≤ i ∧ ∀ x ∈ (bwTo l L f c i).2, 0 ≤ x ∧ x < n
  | 0, _ => by simp [bwTo]; omega
  | i + 1, hi => by
    obtain ⟨h1, h2, h3, h4⟩ := bwTo_bnd l L f c hf hl hc n hL i (by omega)
    have hx := hL i (by omega)
    simp only [bwTo, bwStep]
    have a1 := oneWay_bnd l (rd L (i : Int)) 1 f hf.1
    have a2 := oneWay_bnd l (rd L (i : Int)) (-1) f hf.1
    split
    · simp only
      exact ⟨by omega, by omega, by omega, h4⟩
    · simp only
      split
      · refine ⟨by omega, by omega, by simp; omega, fun x hx' => ?_⟩
        rcases List.mem_append.1 hx' with hx' | hx'
        · exact h4 x hx'
        · rw [List.mem_singleton.1 hx']
          exact hx
      · exact ⟨by omega, by omega, by omega, h4⟩
end Go.Proofs.Ytbiiklkkfkipeaa.X
