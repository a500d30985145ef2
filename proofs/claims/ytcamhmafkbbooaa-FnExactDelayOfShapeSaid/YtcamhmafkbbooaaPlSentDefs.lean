/- Plain lemmas: what a run of sending tells of delays and backlogs. -/
import Derived.Test.YtcamhmafkbbooaaPlSend
namespace Go.Proofs.Ytcamhmafkbbooaa.X
set_option linter.unusedSimpArgs false
set_option linter.unusedVariables false
open Go.RowKit Go.Proofs.YtcamhmafkbbooaaW.PrintWords
/-- What has come at the first k ticks. -/
def ps (l : List Int) : Nat → Int
  | 0 => 0
  | k + 1 => ps l k + rd l (k : Int)
def gn (r d : Int) (l : List Int) : Nat → Int
  | 0 => 0
  | t + 1 => gn r d l t + amt r d l t
def nd (l : List Int) (t : Nat) : Nat := min t l.length
def dues (l : List Int) (m : Nat) : List Int := (List.range m).map (fun k => ps l (k + 1))
theorem dues_len (l : List Int) (m : Nat) : (dues l m).length = m := by simp [dues]
theorem dues_succ (l : List Int) (m : Nat) : dues l (m + 1) = dues l m ++ [ps l (m + 1)] := by simp [dues, List.range_succ]
theorem dues_rd (l : List Int) (m k : Nat) (h : k < m) : rd (dues l m) (k : Int) = ps l (k + 1) := by
  rw [rd_at _ k (by rw [dues_len]; exact h)]
  simp [dues]
def mst (r d : Int) (l : List Int) : Nat → Int
  | 0 => 0
  | t + 1 => max (mst r d l t) (st r d l (t + 1)).1
/-- Whether the last of what came at tick k goes at tick t. -/
def goes (r d : Int) (l : List Int) (t k : Nat) : Prop := rd l (k : Int) > 0 ∧ ps l (k + 1) ≤ gn r d l (t + 1) ∧ ps l (k + 1) > gn r d l (t + 1) - amt r d l t
instance (r d : Int) (l : List Int) (t k : Nat) : Decidable (goes r d l t k) := by unfold goes; infer_instance
def dIn (r d : Int) (l : List Int) (t : Nat) : Nat → Int → Int
  | 0, x => x
  | k + 1, x => if goes r d l t k then max (dIn r d l t k x) ((t : Int) - (k : Int)) else dIn r d l t k x
def dly (r d : Int) (l : List Int) : Nat → Int
  | 0 => 0
  | t + 1 => dIn r d l t (nd l (t + 1)) (dly r d l t)
theorem ps_bound {l : List Int} (h : isTr l = true) : ∀ k, k ≤ l.length → 0 ≤ ps l k ∧ ps l k ≤ 1000 * k
  | 0, _ => by simp [ps]
  | k + 1, hk => by
    have := ps_bound h k (by omega)
    have hx := all_rd (isTr_all h) k (by omega)
    simp only [ps]
    omega
theorem nd_on {l : List Int} {t : Nat} (h : t < l.length) : nd l (t + 1) = nd l t + 1 ∧ nd l t = t := by unfold nd; omega
theorem nd_off {l : List Int} {t : Nat} (h : ¬ t < l.length) : nd l (t + 1) = nd l t := by unfold nd; omega
theorem nd_le (l : List Int) (t : Nat) : nd l t ≤ l.length := by unfold nd; omega
theorem ps_cm (l : List Int) (t : Nat) : ps l (nd l (t + 1)) = ps l (nd l t) + cm l t := by
  unfold cm
  by_cases h : t < l.length
  · rw [if_pos h, (nd_on h).1, (nd_on h).2]
    rfl
  · rw [if_neg h, nd_off h]
    omega
theorem gn_left (r d : Int) (l : List Int) : ∀ t, gn r d l t + (st r d l t).1 = ps l (nd l t)
  | 0 => by simp [gn, st, nd, ps]
  | t + 1 => by
    have := gn_left r d l t
    rw [ps_cm, st_succ]
    simp only [gn]
    omega
theorem gn_nonneg {r d : Int} {l : List Int} (hr : 1 ≤ r ∧ r ≤ 100) (hd : 1 ≤ d ∧ d ≤ 1000) (h : isTr l = true) : ∀ t, 0 ≤ gn r d l t
  | 0 => Int.le_refl _
  | t + 1 => by
    have := gn_nonneg hr hd h t
    have ha := amt_bound hr hd h t
    simp only [gn]
    omega
theorem gn_bound {r d : Int} {l : List Int} (hr : 1 ≤ r ∧ r ≤ 100) (hd : 1 ≤ d ∧ d ≤ 1000) (h : isTr l = true) (t : Nat) : 0 ≤ gn r d l t ∧ gn r d l t ≤ 40000 ∧ ps l (nd l t) ≤ 40000 ∧ (st r d l t).1 ≤ 40000 := by
  have h1 := gn_left r d l t
  have h2 := st_bound hr hd h t
  have h3 := ps_bound h (nd l t) (nd_le l t)
  have h4 := isTr_len h
  have h5 := nd_le l t
  have h6 := gn_nonneg hr hd h t
  omega
theorem dIn_bound (r d : Int) (l : List Int) (t : Nat) (ht : t ≤ 100) : ∀ k x, 0 ≤ x → x ≤ 100 → 0 ≤ dIn r d l t k x ∧ dIn r d l t k x ≤ 100
  | 0, x, h0, h1 => ⟨h0, h1⟩
  | k + 1, x, h0, h1 => by
    have := dIn_bound r d l t ht k x h0 h1
    simp only [dIn]
    split <;> omega
theorem dly_bound (r d : Int) (l : List Int) : ∀ t, t ≤ 100 → 0 ≤ dly r d l t ∧ dly r d l t ≤ 100
  | 0, _ => by simp [dly]
  | t + 1, h => by
    have := dly_bound r d l t (by omega)
    exact dIn_bound r d l t (by omega) _ _ this.1 this.2
theorem st_leak {r : Int} {l : List Int} (hr : 1 ≤ r) : ∀ t, (st r r l t).2 = r
  | 0 => rfl
  | t + 1 => by
    have := st_leak (l := l) hr t
    simp only [st]
    rw [this]
    omega
end Go.Proofs.Ytcamhmafkbbooaa.X
