/- Plain lemmas: traffic that is sent, tick by tick. -/
import Derived.Test.YtcamhmafkbbooaaPlBucket
import Derived.Test.YtcamhmafkbbooaaX12
namespace Go.Proofs.Ytcamhmafkbbooaa.X
set_option linter.unusedSimpArgs false
set_option linter.unusedVariables false
open Go.RowKit Go.Proofs.YtcamhmafkbbooaaW.PrintWords
/-- What comes at a tick. -/
def cm (l : List Int) (t : Nat) : Int := if t < l.length then rd l (t : Int) else 0
/-- What is left, and the level, at a tick's beginning. -/
def st (r d : Int) (l : List Int) : Nat → Int × Int
  | 0 => (0, d)
  | t + 1 => ((st r d l t).1 + cm l t - min ((st r d l t).1 + cm l t) (st r d l t).2, min d ((st r d l t).2 - min ((st r d l t).1 + cm l t) (st r d l t).2 + r))
def amt (r d : Int) (l : List Int) (t : Nat) : Int := min ((st r d l t).1 + cm l t) (st r d l t).2
theorem st_succ (r d : Int) (l : List Int) (t : Nat) : st r d l (t + 1) = ((st r d l t).1 + cm l t - amt r d l t, min d ((st r d l t).2 - amt r d l t + r)) := rfl
def outs (r d : Int) (l : List Int) (t : Nat) : List Int := (List.range t).map (amt r d l)
def lefts (r d : Int) (l : List Int) (t : Nat) : List Int := (List.range t).map (fun i => (st r d l (i + 1)).1)
theorem outs_succ (r d : Int) (l : List Int) (t : Nat) : outs r d l (t + 1) = outs r d l t ++ [amt r d l t] := by simp [outs, List.range_succ]
theorem lefts_succ (r d : Int) (l : List Int) (t : Nat) : lefts r d l (t + 1) = lefts r d l t ++ [(st r d l (t + 1)).1] := by simp [lefts, List.range_succ]
theorem outs_len (r d : Int) (l : List Int) (t : Nat) : (outs r d l t).length = t := by simp [outs]
theorem lefts_len (r d : Int) (l : List Int) (t : Nat) : (lefts r d l t).length = t := by simp [lefts]
/-- Whether there is a tick more. -/
def on (r d : Int) (l : List Int) (t : Nat) : Prop := t < l.length ∨ 0 < (st r d l t).1
instance (r d : Int) (l : List Int) (t : Nat) : Decidable (on r d l t) := by unfold on; infer_instance
theorem cm_bound {l : List Int} (h : isTr l = true) (t : Nat) : 0 ≤ cm l t ∧ cm l t ≤ 1000 := by
  unfold cm
  split
  · rename_i ht
    exact all_rd (isTr_all h) t ht
  · omega
theorem st_bound {r d : Int} {l : List Int} (hr : 1 ≤ r ∧ r ≤ 100) (hd : 1 ≤ d ∧ d ≤ 1000) (h : isTr l = true) : ∀ t, 0 ≤ (st r d l t).1 ∧ (st r d l t).1 ≤ 1000 * t ∧ 1 ≤ (st r d l t).2 ∧ (st r d l t).2 ≤ 1000
  | 0 => by simp [st]; omega
  | t + 1 => by
    have := st_bound hr hd h t
    have hc := cm_bound h t
    simp only [st]
    omega
theorem amt_bound {r d : Int} {l : List Int} (hr : 1 ≤ r ∧ r ≤ 100) (hd : 1 ≤ d ∧ d ≤ 1000) (h : isTr l = true) (t : Nat) : 0 ≤ amt r d l t ∧ amt r d l t ≤ 1000 ∧ amt r d l t ≤ (st r d l t).1 + cm l t := by
  have := st_bound hr hd h t
  have hc := cm_bound h t
  unfold amt
  omega
/-- What the run comes to: the tick at which it ends, none if it has too many. -/
def fin (r d : Int) (l : List Int) : Nat → Nat → Option Nat
  | 0, t => if on r d l t then none else some t
  | n + 1, t => if on r d l t then fin r d l n (t + 1) else some t
def endOf (r d : Int) (l : List Int) : Option Nat := fin r d l 100 0
theorem fin_some (r d : Int) (l : List Int) : ∀ n t te, fin r d l n t = some te → ¬ on r d l te ∧ te ≤ n + t ∧ t ≤ te
  | 0, t, te, h => by
    simp only [fin] at h
    split at h
    · cases h
    · cases h
      exact ⟨by assumption, by omega, by omega⟩
  | n + 1, t, te, h => by
    simp only [fin] at h
    split at h
    · have := fin_some r d l n (t + 1) te h
      exact ⟨this.1, by omega, by omega⟩
    · cases h
      exact ⟨by assumption, by omega, by omega⟩
/-- Both programs' loops over ticks come to what the run comes to. -/
theorem runs {ρ : Type} (r d : Int) (l : List Int) (L : Nat → Nat → Option ρ) (good : Nat → ρ) (bad : ρ)
    (hs : ∀ t, t < 100 → on r d l t → ∀ v, Ev (fun k => L k (t + 1)) v → Ev (fun k => L k t) v)
    (he : ∀ t, t ≤ 100 → ¬ on r d l t → Ev (fun k => L k t) (good t))
    (hb : on r d l 100 → Ev (fun k => L k 100) bad) : Ev (fun k => L k 0) (match endOf r d l with | some t => good t | none => bad) := by
  have key : ∀ n t, n + t = 100 → Ev (fun k => L k t) (match fin r d l n t with | some t => good t | none => bad) := by
    intro n
    induction n with
    | zero =>
      intro t ht
      have ht' : t = 100 := by omega
      subst ht'
      simp only [fin]
      by_cases h : on r d l 100
      · rw [if_pos h]
        exact hb h
      · rw [if_neg h]
        exact he 100 (Nat.le_refl _) h
    | succ n ih =>
      intro t ht
      simp only [fin]
      by_cases h : on r d l t
      · rw [if_pos h]
        exact hs t (by omega) h _ (ih (t + 1) (by omega))
      · rw [if_neg h]
        exact he t (by omega) h
  exact key 100 0 rfl
theorem specSend_ev {r d : Int} {l : List Int} (hr : 1 ≤ r ∧ r ≤ 100) (hd : 1 ≤ d ∧ d ≤ 1000) (h : isTr l = true) :
    Ev (fun k => spec_shSend.f k r d l) (match endOf r d l with | some t => (outs r d l t, lefts r d l t, true) | none => ([], [], false)) := by
  have hl := isTr_len h
  have key := runs r d l (fun k t => spec_shSend.l0 k r d l (outs r d l t) (lefts r d l t) (st r d l t).2 (st r d l t).1 (t : Int)) (fun t => (outs r d l t, lefts r d l t, true)) ([], [], false)
    (by
      intro t ht ho v hv
      have hb := st_bound hr hd h t
      have hc := cm_bound h t
      have hab := amt_bound hr hd h t
      have ho1 := outs_len r d l t
      have ho2 := lefts_len r d l t
      have hss := st_succ r d l t
      have e1 : spec_l1Least.f ((st r d l t).1 + cm l t) (st r d l t).2 = some (amt r d l t) := by rw [l1Least_eq]; rfl
      have e2 : spec_l1Least.f d ((st r d l t).2 - amt r d l t + r) = some (st r d l (t + 1)).2 := by rw [l1Least_eq, hss]
      have e3 : (st r d l (t + 1)).1 = (st r d l t).1 + cm l t - amt r d l t := by rw [hss]
      have hlt : (outs r d l t).length < 17592186044416 := by omega
      have hlt2 : (lefts r d l t).length < 17592186044416 := by omega
      refine Ev.step (f := fun k => spec_shSend.j1 k r d l (outs r d l t) (lefts r d l t) (st r d l t).2 (st r d l t).1 (t : Int) true) (fun k => ?_) (evNext (fun k => ?_) hv)
      · rw [spec_shSend.l0.eq_2]
        rcases ho with ho | ho
        · rw [if_pos (by omega)]
        · rw [decide_eq_true (by omega)]
          split <;> rfl
      · rw [spec_shSend.j1.eq_2, if_pos rfl, if_neg (by omega)]
        rw [outs_succ, lefts_succ, e3]
        clear hss
        generalize (st r d l (t + 1)).2 = V at *
        generalize amt r d l t = n at *
        unfold cm at *
        by_cases hlt3 : t < l.length
        · rw [if_pos hlt3] at *
          rw [if_pos (by omega), if_pos (by omega), w64 (x := (st r d l t).1 + rd l (t : Int)) (by omega) (by omega), e1]
          simp only [Option.bind_some]
          rw [if_pos hlt, if_pos hlt2, w64 (x := (st r d l t).2 - n) (by omega) (by omega), w64 (x := (st r d l t).2 - n + r) (by omega) (by omega), e2]
          simp only [Option.bind_some]
          rw [w64 (x := (st r d l t).1 + rd l (t : Int) - n) (by omega) (by omega), w64 (x := (t : Int) + 1) (by omega) (by omega)]
          rfl
        · rw [if_neg hlt3] at *
          rw [Int.add_zero] at *
          rw [if_neg (by omega), e1]
          simp only [Option.bind_some]
          rw [if_pos hlt, if_pos hlt2, w64 (x := (st r d l t).2 - n) (by omega) (by omega), w64 (x := (st r d l t).2 - n + r) (by omega) (by omega), e2]
          simp only [Option.bind_some]
          rw [w64 (x := (st r d l t).1 - n) (by omega) (by omega), w64 (x := (t : Int) + 1) (by omega) (by omega)]
          rfl)
    (by
      intro t ht ho
      unfold on at ho
      refine Ev.step (f := fun k => spec_shSend.j1 k r d l (outs r d l t) (lefts r d l t) (st r d l t).2 (st r d l t).1 (t : Int) false) (fun k => ?_) (evEnd fun k => ?_)
      · rw [spec_shSend.l0.eq_2, if_neg (by omega), decide_eq_false (by omega)]
      · rw [spec_shSend.j1.eq_2, if_neg (by simp)])
    (by
      intro ho
      refine Ev.step (f := fun k => spec_shSend.j1 k r d l (outs r d l 100) (lefts r d l 100) (st r d l 100).2 (st r d l 100).1 (100 : Nat) true) (fun k => ?_) (evEnd fun k => ?_)
      · rw [spec_shSend.l0.eq_2]
        rcases ho with ho | ho
        · rw [if_pos (by omega)]
        · rw [decide_eq_true (by omega)]
          split <;> rfl
      · rw [spec_shSend.j1.eq_2, if_pos rfl, if_pos (by omega)])
  exact key
end Go.Proofs.Ytcamhmafkbbooaa.X
