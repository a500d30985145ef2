/- Plain lemmas: the laws' own helpers over slices of Messages. -/
import Derived.Test.YtgkbeejkbhhjkaaPlEv
import Derived.Test.YtgkbeejkbhhjkaaX8
import Derived.Test.YtgkbeejkbhhjkaaX10
import Derived.Test.YtgkbeejkbhhjkaaX6
namespace Go.Proofs.Ytgkbeejkbhhjkaa.X
set_option linter.unusedSimpArgs false
set_option linter.unusedVariables false
open Go.RowKit Go.Proofs.YtgkbeejkbhhjkaaW.PrintWords
theorem rdS_at (l : List S30) (i : Nat) (h : i < l.length) : rd_T30 l (i : Int) = l[i] := by
  simp [rd_T30, List.getD_eq_getElem?_getD, List.getElem?_eq_getElem h]
theorem rdL_at (l : List S25) (i : Nat) (h : i < l.length) : rd_T25 l (i : Int) = l[i] := by
  simp [rd_T25, List.getD_eq_getElem?_getD, List.getElem?_eq_getElem h]
def toL (l : List S25) : List S30 := l.map (fun x => ⟨x.f0, x.f1, x.f2⟩)
theorem toL_length (l : List S25) : (toL l).length = l.length := by simp [toL]
theorem sz_big (l : List S25) (h : 1048576 < l.length) (h2 : l.length ≤ 9223372036854775807) : laws_szMessageS.f l 1048576 = some (-1) := by
  unfold laws_szMessageS.f
  rw [w64 (by omega) (by omega), if_pos (by omega)]
theorem sz_small (l : List S25) (h : l.length ≤ 1048576) : laws_szMessageS.f l 1048576 = some (1048576 - (l.length : Int)) := by
  unfold laws_szMessageS.f
  rw [w64 (by omega) (by omega), if_neg (by omega)]
theorem toS_ev (l : List S25) (hn : l.length ≤ 1048576) : Ev (fun k => laws_toMessageS.f k l) (toL l) := by
  have key := evUp l.length (fun k (s : List S30) (i : Nat) => laws_toMessageS.l0 k l s (i : Int)) (fun i s => s = (toL l).take i ++ List.replicate (l.length - i) z30) (toL l)
    (by
      intro i s hi hI
      have hsl : s.length = l.length := by rw [hI]; simp [toL_length]; omega
      refine .inl ⟨(toL l).take (i + 1) ++ List.replicate (l.length - (i + 1)) z30, rfl, fun h => evNext (fun k => ?_) h⟩
      show laws_toMessageS.l0 (k + 1) l s (i : Int) = laws_toMessageS.l0 k l _ (i + 1 : Nat)
      simp only [laws_toMessageS.l0, laws_toMessage.f, Option.bind_some]
      rw [if_pos (by omega), if_pos (by omega), if_pos (by omega), w64 (by omega) (by omega), rdL_at l i hi]
      congr 1
      subst hI
      rw [Int.toNat_natCast]
      have htl := toL_length l
      apply List.ext_getElem
      · simp [toL_length]; omega
      · intro j h1 h2
        rw [List.getElem_set]
        by_cases e : i = j
        · subst e
          rw [if_pos rfl, List.getElem_append_left (by simp [toL_length]; omega)]
          simp [toL]
        · rw [if_neg e]
          by_cases hj : j < i
          · rw [List.getElem_append_left (by simp [toL_length]; omega), List.getElem_append_left (by simp [toL_length]; omega)]
            simp
          · rw [List.getElem_append_right (by simp [toL_length]; omega), List.getElem_append_right (by simp [toL_length]; omega)]
            simp)
    (by
      intro s hI
      refine evEnd fun k => ?_
      show laws_toMessageS.l0 (k + 1) l s (l.length : Int) = some (toL l)
      simp only [laws_toMessageS.l0]
      rw [if_neg (by omega), hI, List.take_of_length_le (by rw [toL_length]; exact Nat.le_refl _)]
      simp) 0 (List.replicate l.length z30) (by omega) (by simp)
  refine Ev.congr (fun k => ?_) key
  unfold laws_toMessageS.f
  rw [if_pos (by omega), if_pos (by omega), Int.toNat_natCast]
  rfl
theorem eqOne (x : S30) : laws_eqMessage.f x.f0 x.f1 x.f2 x.f0 x.f1 x.f2 = some true := by simp [laws_eqMessage.f]
theorem eqS_ev (l : List S30) (hn : l.length ≤ 1048576) : Ev (fun k => laws_eqMessageS.f k l l) true := by
  have key := evUp0 l.length (fun k (_ : Unit) (i : Nat) => laws_eqMessageS.l0 k l l (i : Int)) (fun _ _ => True) true () trivial
    (by
      intro i s hi _
      refine .inl ⟨(), trivial, fun h => evNext (fun k => ?_) h⟩
      show laws_eqMessageS.l0 (k + 1) l l (i : Int) = laws_eqMessageS.l0 k l l (i + 1 : Nat)
      simp only [laws_eqMessageS.l0]
      rw [if_pos (by omega), if_pos (by omega), if_pos (by omega), eqOne, w64 (by omega) (by omega)]
      simp only [Option.bind_some, if_true]
      rfl)
    (by
      intro s _
      refine evEnd fun k => ?_
      show laws_eqMessageS.l0 (k + 1) l l (l.length : Int) = _
      simp only [laws_eqMessageS.l0]
      rw [if_neg (by omega)])
  refine Ev.congr (fun k => ?_) key
  unfold laws_eqMessageS.f
  rw [if_pos rfl]
  rfl
end Go.Proofs.Ytgkbeejkbhhjkaa.X
