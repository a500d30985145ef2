/- Plain lemmas: the laws' own equality of slices of whole numbers. -/
import Derived.Test.YtbiiklkkfkipeaaPlEv
import Derived.Test.YtbiiklkkfkipeaaX9
namespace Go.Proofs.Ytbiiklkkfkipeaa.X
set_option linter.unusedSimpArgs false
set_option linter.unusedVariables false
open Go.RowKit Go.Proofs.YtbiiklkkfkipeaaW.PrintWords
theorem eqIntS_loop (a b : List Int) (hl : a.length = b.length) (ha : a.length ≤ 9223372036854775806) : Ev (fun k => laws_eqIntS.l0 k a b ((0 : Nat) : Int)) (decide (a = b)) := by
  refine evUp0 a.length (fun k (_ : Unit) (i : Nat) => laws_eqIntS.l0 k a b (i : Int)) (fun i _ => a.take i = b.take i) _ () (by simp) ?_ ?_
  · intro i s hi hI
    by_cases e : a[i] = b[i]'(by omega)
    · refine .inl ⟨(), ?_, fun h => evNext (fun k => ?_) h⟩
      · rw [List.take_succ_eq_append_getElem hi, List.take_succ_eq_append_getElem (by omega), hI, e]
      · show laws_eqIntS.l0 (k + 1) a b (i : Int) = laws_eqIntS.l0 k a b (i + 1 : Nat)
        simp only [laws_eqIntS.l0]
        rw [if_pos (by omega), if_pos (by omega), if_pos (by omega), rd_at a i hi, rd_at b i (by omega), if_pos e, w64 (by omega) (by omega)]
        rfl
    · refine .inr (evEnd fun k => ?_)
      show laws_eqIntS.l0 (k + 1) a b (i : Int) = _
      simp only [laws_eqIntS.l0]
      rw [if_pos (by omega), if_pos (by omega), if_pos (by omega), rd_at a i hi, rd_at b i (by omega), if_neg e, decide_eq_false]
      intro h
      subst h
      exact e rfl
  · intro s hI
    refine evEnd fun k => ?_
    show laws_eqIntS.l0 (k + 1) a b (a.length : Int) = _
    simp only [laws_eqIntS.l0]
    rw [if_neg (by omega), decide_eq_true]
    rw [List.take_length, hl, List.take_length] at hI
    exact hI
theorem eqIntS_ev (a b : List Int) (ha : a.length ≤ 9223372036854775806) : Ev (fun k => laws_eqIntS.f k a b) (decide (a = b)) := by
  by_cases hl : a.length = b.length
  · refine Ev.congr (f := fun k => laws_eqIntS.l0 k a b ((0 : Nat) : Int)) (fun k => ?_) (eqIntS_loop a b hl ha)
    unfold laws_eqIntS.f
    rw [if_pos (by omega)]
    rfl
  · refine Ev.congr (f := fun _ => some (decide (a = b))) (fun k => ?_) (Ev.now _)
    unfold laws_eqIntS.f
    rw [if_neg (by omega), decide_eq_false]
    intro h
    exact hl (by rw [h])
end Go.Proofs.Ytbiiklkkfkipeaa.X
