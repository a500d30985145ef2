/- Plain lemmas: the laws' marks on slices of whole numbers. -/
import Derived.Test.YtbiiklkkfkipeaaPlEv
import Derived.Test.YtbiiklkkfkipeaaX17
namespace Go.Proofs.Ytbiiklkkfkipeaa.X
set_option linter.unusedSimpArgs false
set_option linter.unusedVariables false
open Go.RowKit Go.Proofs.YtbiiklkkfkipeaaW.PrintWords
/-- The row that the marks leave. -/
def marks (n : Nat) (a : Int) : List Int := (List.range n).map (fun (j : Nat) => a + (j : Int))
theorem marks_length (n : Nat) (a : Int) : (marks n a).length = n := by simp [marks]
theorem marks_at (n : Nat) (a : Int) (i : Nat) (h : i < n) : rd (marks n a) (i : Int) = a + i := by
  rw [rd_at _ _ (by rw [marks_length]; exact h)]
  simp [marks]
theorem markIntS_ev (l : List Int) (a : Int) (h0 : 0 ≤ a) (h1 : a + l.length ≤ 9223372036854775806) : Ev (fun k => laws_markIntS.f k l a) (a + l.length, marks l.length a) := by
  have key := evUp0 l.length (fun k (s : List Int) (i : Nat) => laws_markIntS.l0 k s (a + i) (i : Int)) (fun i s => s = (marks l.length a).take i ++ l.drop i) (a + l.length, marks l.length a) l (by simp)
    (by
      intro i s hi hI
      have hsl : s.length = l.length := by rw [hI]; simp [marks_length]; omega
      refine .inl ⟨(marks l.length a).take (i + 1) ++ l.drop (i + 1), rfl, fun h => evNext (fun k => ?_) h⟩
      show laws_markIntS.l0 (k + 1) s (a + i) (i : Int) = laws_markIntS.l0 k _ (a + (i + 1 : Nat)) (i + 1 : Nat)
      simp only [laws_markIntS.l0]
      rw [if_pos (by omega), if_pos (by omega), w64 (by omega) (by omega), w64 (by omega) (by omega), Int.toNat_natCast]
      congr 1
      · subst hI
        have hm : i < (marks l.length a).length := by rw [marks_length]; exact hi
        rw [List.take_succ_eq_append_getElem hm, List.append_assoc, List.set_append_right _ _ (by simp; omega)]
        congr 1
        have e1 : (List.take i (marks l.length a)).length = i := by simp [marks_length]; omega
        rw [e1, Nat.sub_self, List.drop_eq_getElem_cons hi, List.set_cons_zero]
        simp only [marks, List.getElem_map, List.getElem_range]
        rfl
      · omega)
    (by
      intro s hI
      refine evEnd fun k => ?_
      show laws_markIntS.l0 (k + 1) s (a + (l.length : Nat)) ((l.length : Nat) : Int) = _
      have hsl : s.length = l.length := by rw [hI]; simp [marks_length]
      simp only [laws_markIntS.l0]
      rw [if_neg (by omega), hI]
      congr 2
      rw [List.take_of_length_le (by rw [marks_length]; exact Nat.le_refl _)]
      simp)
  refine Ev.congr (fun k => ?_) key
  unfold laws_markIntS.f
  simp
theorem heldIntS_ev (n : Nat) (a : Int) (h0 : 0 ≤ a) (h1 : a + n ≤ 9223372036854775806) : Ev (fun k => laws_heldIntS.f k (marks n a) a) (a + n) := by
  have key := evUp0 n (fun k (_ : Unit) (i : Nat) => laws_heldIntS.l0 k (marks n a) (a + i) (i : Int)) (fun _ _ => True) (a + n) () trivial
    (by
      intro i s hi _
      refine .inl ⟨(), trivial, fun h => evNext (fun k => ?_) h⟩
      show laws_heldIntS.l0 (k + 1) (marks n a) (a + i) (i : Int) = laws_heldIntS.l0 k (marks n a) (a + (i + 1 : Nat)) (i + 1 : Nat)
      simp only [laws_heldIntS.l0]
      rw [if_pos (by rw [marks_length]; omega), if_pos (by omega), if_pos (marks_at n a i hi), w64 (by omega) (by omega), w64 (by omega) (by omega)]
      congr 1
      omega)
    (by
      intro s _
      refine evEnd fun k => ?_
      show laws_heldIntS.l0 (k + 1) (marks n a) (a + (n : Nat)) ((n : Nat) : Int) = _
      simp only [laws_heldIntS.l0]
      rw [if_neg (by rw [marks_length]; omega)])
  refine Ev.congr (fun k => ?_) key
  unfold laws_heldIntS.f
  simp
end Go.Proofs.Ytbiiklkkfkipeaa.X
