/- Plain lemmas: marks that are held, in slices of Messages. -/
import Derived.Test.YtgkbeejkbhhjkaaPlStructMarks
import Derived.Test.YtgkbeejkbhhjkaaX17
namespace Go.Proofs.Ytgkbeejkbhhjkaa.X
set_option linter.unusedSimpArgs false
set_option linter.unusedVariables false
open Go.RowKit Go.Proofs.YtgkbeejkbhhjkaaW.PrintWords
theorem heldS_ev (n : Nat) (a : Int) (h0 : 0 ≤ a ∧ a ≤ 1000000) (h1 : n ≤ 1048576) : Ev (fun k => laws_heldMessageS.f k (marksS n a) a) (a + 3 * (n : Int)) := by
  have key := evUp0 n (fun k (_ : Unit) (i : Nat) => laws_heldMessageS.l0 k (marksS n a) (a + 3 * (i : Int)) (i : Int)) (fun _ _ => True) (a + 3 * (n : Int)) () trivial
    (by
      intro i s hi _
      refine .inl ⟨(), trivial, fun h => evNext (fun k => ?_) h⟩
      show laws_heldMessageS.l0 (k + 1) (marksS n a) (a + 3 * (i : Int)) (i : Int) = laws_heldMessageS.l0 k (marksS n a) (a + 3 * ((i + 1 : Nat) : Int)) (i + 1 : Nat)
      have hl := marksS_length n a
      have e : rd_T30 (marksS n a) (i : Int) = ⟨a + 3 * (i : Int), a + 3 * (i : Int) + 1, a + 3 * (i : Int) + 2⟩ := by
        rw [rdS_at _ i (by omega)]
        simp [marksS]
      simp only [laws_heldMessageS.l0]
      simp (disch := omega) only [w64]
      rw [if_pos (by omega), if_pos (by omega), e]
      simp only
      rw [if_pos trivial, if_pos trivial, if_pos (by omega)]
      congr 1
      omega)
    (by
      intro s _
      refine evEnd fun k => ?_
      have hl := marksS_length n a
      show laws_heldMessageS.l0 (k + 1) (marksS n a) (a + 3 * ((n : Nat) : Int)) ((n : Nat) : Int) = _
      simp only [laws_heldMessageS.l0]
      rw [if_neg (by omega)])
  refine Ev.congr (fun k => ?_) key
  unfold laws_heldMessageS.f
  simp
end Go.Proofs.Ytgkbeejkbhhjkaa.X
