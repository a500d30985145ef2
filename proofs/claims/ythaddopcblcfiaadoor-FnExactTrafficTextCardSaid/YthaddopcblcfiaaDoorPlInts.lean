/- Plain lemmas: the laws' own helpers over slices of whole numbers. -/
import Derived.Test.YthaddopcblcfiaaDoorPlEv
import Derived.Test.YthaddopcblcfiaaDoorX4
import Derived.Test.YthaddopcblcfiaaDoorX6
namespace Go.Proofs.YthaddopcblcfiaaDoor.X
set_option linter.unusedSimpArgs false
set_option linter.unusedVariables false
open Go.RowKit Go.Proofs.YthaddopcblcfiaaDoorW.PrintWords
theorem toIntS_loop (l : List Int) (hn : l.length ≤ 35184372088832) : ∀ i s, i ≤ l.length → s = l.take i ++ List.replicate (l.length - i) 0 → Ev (fun k => laws_toIntS.l0 k l s (i : Int)) l := by
  refine evUp l.length (fun k s (i : Nat) => laws_toIntS.l0 k l s (i : Int)) (fun i s => s = l.take i ++ List.replicate (l.length - i) 0) l ?_ ?_
  · intro i s hi hI
    have hsl : s.length = l.length := by rw [hI]; simp; omega
    refine .inl ⟨l.take (i + 1) ++ List.replicate (l.length - (i + 1)) 0, rfl, fun h => evNext (fun k => ?_) h⟩
    show laws_toIntS.l0 (k + 1) l s (i : Int) = laws_toIntS.l0 k l _ (i + 1 : Nat)
    simp only [laws_toIntS.l0]
    rw [if_pos (by omega), if_pos (by omega), if_pos (by omega), w64 (by omega) (by omega), rd_at l i hi]
    congr 1
    subst hI
    rw [Int.toNat_natCast]
    apply List.ext_getElem
    · simp; omega
    · intro j h1 h2
      rw [List.getElem_set]
      by_cases e : i = j
      · subst e
        rw [if_pos rfl, List.getElem_append_left (by simp; omega)]
        simp
      · rw [if_neg e]
        by_cases hj : j < i
        · rw [List.getElem_append_left (by simp; omega), List.getElem_append_left (by simp; omega)]
          simp
        · rw [List.getElem_append_right (by simp; omega), List.getElem_append_right (by simp; omega)]
          simp
  · intro s hI
    refine evEnd fun k => ?_
    show laws_toIntS.l0 (k + 1) l s (l.length : Int) = some l
    simp only [laws_toIntS.l0]
    rw [if_neg (by omega), hI]
    simp
theorem toIntS_ev (l : List Int) (hn : l.length ≤ 35184372088832) : Ev (fun k => laws_toIntS.f k l) l := by
  refine Ev.congr (f := fun k => laws_toIntS.l0 k l (List.replicate l.length 0) ((0 : Nat) : Int)) (fun k => ?_) (toIntS_loop l hn 0 _ (by omega) (by simp))
  unfold laws_toIntS.f
  rw [if_pos (by omega), if_pos (by simpa using hn), Int.toNat_natCast]
  rfl
theorem eqIntS_loop (a b : List Int) (hl : a.length = b.length) (ha : a.length ≤ 9223372036854775806) : Ev (fun k => laws_eqIntS.l0 k a b ((0 : Nat) : Int)) (decide (a = b)) := by
  refine evUp0 a.length (fun k (_ : Unit) (i : Nat) => laws_eqIntS.l0 k a b (i : Int)) (fun i _ => a.take i = b.take i) _ () (by simp) ?_ ?_
  · intro i s hi hI
    by_cases e : a[i] = b[i]'(by omega)
    · refine .inl ⟨(), ?_, fun h => evNext (fun k => ?_) h⟩
      · rw [List.take_succ_eq_append_getElem hi, List.take_succ_eq_append_getElem (by omega), hI, e]
      · show laws_eqIntS.l0 (k + 1) a b (i : Int) = laws_eqIntS.l0 k a b (i + 1 : Nat)
        simp only [laws_eqIntS.l0]
        rw [if_pos (by omega), if_pos (by omega), if_pos (by omega), rd_at a i hi, rd_at b i (by omega), if_pos e, w64 (by omega) (by omega)]
        rfl
    · refine .inr (evEnd fun k => ?_)
      show laws_eqIntS.l0 (k + 1) a b (i : Int) = _
      simp only [laws_eqIntS.l0]
      rw [if_pos (by omega), if_pos (by omega), if_pos (by omega), rd_at a i hi, rd_at b i (by omega), if_neg e, decide_eq_false]
      intro h
      subst h
      exact e rfl
  · intro s hI
    refine evEnd fun k => ?_
    show laws_eqIntS.l0 (k + 1) a b (a.length : Int) = _
    simp only [laws_eqIntS.l0]
    rw [if_neg (by omega), decide_eq_true]
    rw [List.take_length, hl, List.take_length] at hI
    exact hI
theorem eqIntS_ev (a b : List Int) (ha : a.length ≤ 9223372036854775806) : Ev (fun k => laws_eqIntS.f k a b) (decide (a = b)) := by
  by_cases hl : a.length = b.length
  · refine Ev.congr (f := fun k => laws_eqIntS.l0 k a b ((0 : Nat) : Int)) (fun k => ?_) (eqIntS_loop a b hl ha)
    unfold laws_eqIntS.f
    rw [if_pos (by omega)]
    rfl
  · refine Ev.congr (f := fun _ => some (decide (a = b))) (fun k => ?_) (Ev.now _)
    unfold laws_eqIntS.f
    rw [if_neg (by omega), decide_eq_false]
    intro h
    exact hl (by rw [h])
end Go.Proofs.YthaddopcblcfiaaDoor.X
