/- Plain lemmas: the laws' marks on slices of Messages. -/
import Derived.Test.YtgkbeejkbhhjkaaPlStructs
import Derived.Test.YtgkbeejkbhhjkaaX16
namespace Go.Proofs.Ytgkbeejkbhhjkaa.X
set_option linter.unusedSimpArgs false
set_option linter.unusedVariables false
open Go.RowKit Go.Proofs.YtgkbeejkbhhjkaaW.PrintWords
def marksS (n : Nat) (a : Int) : List S30 := (List.range n).map (fun (j : Nat) => ⟨a + 3 * (j : Int), a + 3 * (j : Int) + 1, a + 3 * (j : Int) + 2⟩)
theorem marksS_length (n : Nat) (a : Int) : (marksS n a).length = n := by simp [marksS]
theorem markS_ev (l : List S30) (a : Int) (h0 : 0 ≤ a ∧ a ≤ 1000000) (h1 : l.length ≤ 1048576) : Ev (fun k => laws_markMessageS.f k l a) (a + 3 * (l.length : Int), marksS l.length a) := by
  have key := evUp0 l.length (fun k (s : List S30) (i : Nat) => laws_markMessageS.l0 k s (a + 3 * (i : Int)) (i : Int)) (fun i s => s = (marksS l.length a).take i ++ l.drop i) (a + 3 * (l.length : Int), marksS l.length a) l (by simp)
    (by
      intro i s hi hI
      have hsl : s.length = l.length := by rw [hI]; simp [marksS_length]; omega
      refine .inl ⟨(marksS l.length a).take (i + 1) ++ l.drop (i + 1), rfl, fun h => evNext (fun k => ?_) h⟩
      show laws_markMessageS.l0 (k + 1) s (a + 3 * (i : Int)) (i : Int) = laws_markMessageS.l0 k _ (a + 3 * ((i + 1 : Nat) : Int)) (i + 1 : Nat)
      simp only [laws_markMessageS.l0, Option.bind_some]
      rw [if_pos (by omega), if_pos (by omega)]
      simp (disch := omega) only [w64, Int.toNat_natCast]
      rw [rdS_at s i (by omega), rdS_at _ i (by simp; omega), rdS_at _ i (by simp; omega)]
      simp only [List.getElem_set_self, List.set_set]
      congr 1
      · subst hI
        have hm : i < (marksS l.length a).length := by rw [marksS_length]; exact hi
        rw [List.take_succ_eq_append_getElem hm, List.append_assoc, List.set_append_right _ _ (by simp; omega)]
        congr 1
        have e1 : (List.take i (marksS l.length a)).length = i := by simp [marksS_length]; omega
        rw [e1, Nat.sub_self, List.drop_eq_getElem_cons hi, List.set_cons_zero]
        simp only [marksS, List.getElem_map, List.getElem_range]
        show _ = [_] ++ _
        rw [List.singleton_append]
        congr 2
        omega
      · omega)
    (by
      intro s hI
      refine evEnd fun k => ?_
      show laws_markMessageS.l0 (k + 1) s (a + 3 * ((l.length : Nat) : Int)) ((l.length : Nat) : Int) = _
      have hsl : s.length = l.length := by rw [hI]; simp [marksS_length]
      simp only [laws_markMessageS.l0]
      rw [if_neg (by omega), hI, List.take_of_length_le (by rw [marksS_length]; exact Nat.le_refl _)]
      simp)
  refine Ev.congr (fun k => ?_) key
  unfold laws_markMessageS.f
  simp
end Go.Proofs.Ytgkbeejkbhhjkaa.X
