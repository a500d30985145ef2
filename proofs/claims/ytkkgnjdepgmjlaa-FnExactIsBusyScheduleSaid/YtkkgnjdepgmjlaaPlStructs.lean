/- Plain lemmas: the laws' own helpers over slices of Jobs. -/
import Derived.Test.YtkkgnjdepgmjlaaPlEv
import Derived.Test.YtkkgnjdepgmjlaaX7
import Derived.Test.YtkkgnjdepgmjlaaX13
import Derived.Test.YtkkgnjdepgmjlaaX1
namespace Go.Proofs.Ytkkgnjdepgmjlaa.X
set_option linter.unusedSimpArgs false
set_option linter.unusedVariables false
open Go.RowKit Go.Proofs.YtkkgnjdepgmjlaaW.PrintWords
theorem rdS_at (l : List S43) (i : Nat) (h : i < l.length) : rd_T43 l (i : Int) = l[i] := by
  simp [rd_T43, List.getD_eq_getElem?_getD, List.getElem?_eq_getElem h]
theorem rdL_at (l : List S45) (i : Nat) (h : i < l.length) : rd_T45 l (i : Int) = l[i] := by
  simp [rd_T45, List.getD_eq_getElem?_getD, List.getElem?_eq_getElem h]
def toL (l : List S45) : List S43 := l.map (fun x => ⟨x.f0, x.f1, x.f2⟩)
theorem toL_length (l : List S45) : (toL l).length = l.length := by simp [toL]
theorem sz_big (l : List S45) (h : 1048576 < l.length) (h2 : l.length ≤ 9223372036854775807) : laws_szJobS.f l 1048576 = some (-1) := by
  unfold laws_szJobS.f
  rw [w64 (by omega) (by omega), if_pos (by omega)]
theorem sz_small (l : List S45) (h : l.length ≤ 1048576) : laws_szJobS.f l 1048576 = some (1048576 - (l.length : Int)) := by
  unfold laws_szJobS.f
  rw [w64 (by omega) (by omega), if_neg (by omega)]
theorem toS_ev (l : List S45) (hn : l.length ≤ 1048576) : Ev (fun k => laws_toJobS.f k l) (toL l) := by
  have key := evUp l.length (fun k (s : List S43) (i : Nat) => laws_toJobS.l0 k l s (i : Int)) (fun i s => s = (toL l).take i ++ List.replicate (l.length - i) z43) (toL l)
    (by
      intro i s hi hI
      have hsl : s.length = l.length := by rw [hI]; simp [toL_length]; omega
      refine .inl ⟨(toL l).take (i + 1) ++ List.replicate (l.length - (i + 1)) z43, rfl, fun h => evNext (fun k => ?_) h⟩
      show laws_toJobS.l0 (k + 1) l s (i : Int) = laws_toJobS.l0 k l _ (i + 1 : Nat)
      simp only [laws_toJobS.l0, laws_toJob.f, Option.bind_some]
      rw [if_pos (by omega), if_pos (by omega), if_pos (by omega), w64 (by omega) (by omega), rdL_at l i hi]
      congr 1
      subst hI
      rw [Int.toNat_natCast]
      have htl := toL_length l
      apply List.ext_getElem
      · simp [toL_length]; omega
      · intro j h1 h2
        rw [List.getElem_set]
        by_cases e : i = j
        · subst e
          rw [if_pos rfl, List.getElem_append_left (by simp [toL_length]; omega)]
          simp [toL]
        · rw [if_neg e]
          by_cases hj : j < i
          · rw [List.getElem_append_left (by simp [toL_length]; omega), List.getElem_append_left (by simp [toL_length]; omega)]
            simp
          · rw [List.getElem_append_right (by simp [toL_length]; omega), List.getElem_append_right (by simp [toL_length]; omega)]
            simp)
    (by
      intro s hI
      refine evEnd fun k => ?_
      show laws_toJobS.l0 (k + 1) l s (l.length : Int) = some (toL l)
      simp only [laws_toJobS.l0]
      rw [if_neg (by omega), hI, List.take_of_length_le (by rw [toL_length]; exact Nat.le_refl _)]
      simp) 0 (List.replicate l.length z43) (by omega) (by simp)
  refine Ev.congr (fun k => ?_) key
  unfold laws_toJobS.f
  rw [if_pos (by omega), if_pos (by omega), Int.toNat_natCast]
  rfl
theorem eqOne (x : S43) : laws_eqJob.f x.f0 x.f1 x.f2 x.f0 x.f1 x.f2 = some true := by simp [laws_eqJob.f]
theorem eqS_ev (l : List S43) (hn : l.length ≤ 1048576) : Ev (fun k => laws_eqJobS.f k l l) true := by
  have key := evUp0 l.length (fun k (_ : Unit) (i : Nat) => laws_eqJobS.l0 k l l (i : Int)) (fun _ _ => True) true () trivial
    (by
      intro i s hi _
      refine .inl ⟨(), trivial, fun h => evNext (fun k => ?_) h⟩
      show laws_eqJobS.l0 (k + 1) l l (i : Int) = laws_eqJobS.l0 k l l (i + 1 : Nat)
      simp only [laws_eqJobS.l0]
      rw [if_pos (by omega), if_pos (by omega), if_pos (by omega), eqOne, w64 (by omega) (by omega)]
      simp only [Option.bind_some, if_true]
      rfl)
    (by
      intro s _
      refine evEnd fun k => ?_
      show laws_eqJobS.l0 (k + 1) l l (l.length : Int) = _
      simp only [laws_eqJobS.l0]
      rw [if_neg (by omega)])
  refine Ev.congr (fun k => ?_) key
  unfold laws_eqJobS.f
  rw [if_pos rfl]
  rfl
end Go.Proofs.Ytkkgnjdepgmjlaa.X
