/- Plain lemmas: a number between two others. -/
import Derived.Test.YtgkbeejkbhhjkaaPlEv
import Derived.Test.YtgkbeejkbhhjkaaX1
import Derived.Test.YtgkbeejkbhhjkaaX2
namespace Go.Proofs.Ytgkbeejkbhhjkaa.X
set_option linter.unusedSimpArgs false
set_option linter.unusedVariables false
open Go.RowKit Go.Proofs.YtgkbeejkbhhjkaaW.PrintWords
theorem l1In_eq (n lo hi : Int) : spec_l1In.f n lo hi = some (inB lo hi n) := by
  unfold spec_l1In.f inB
  by_cases h : lo ≤ n
  · rw [if_pos (by omega), decide_eq_true h]; simp
  · rw [if_neg (by omega), decide_eq_false h]; simp
theorem within_eq (n lo hi : Int) : impl_within.f n lo hi = some (inB lo hi n) := by
  unfold impl_within.f inB
  by_cases h : lo ≤ n
  · rw [if_pos (by omega), decide_eq_true h]; simp
  · rw [if_neg (by omega), decide_eq_false h]; simp
theorem allWithin_eq (l : List Int) (lo hi : Int) : impl_allWithin.f l lo hi = some (l.all (inB lo hi)) := rfl
theorem inB_iff {lo hi n : Int} : inB lo hi n = true ↔ lo ≤ n ∧ n ≤ hi := by simp [inB]
theorem all_bound {l : List Int} {lo hi : Int} (h : l.all (inB lo hi) = true) : ∀ x ∈ l, lo ≤ x ∧ x ≤ hi := fun x hx => inB_iff.1 (List.all_eq_true.1 h x hx)
theorem all_rd {l : List Int} {lo hi : Int} (h : l.all (inB lo hi) = true) (i : Nat) (hi' : i < l.length) : lo ≤ rd l (i : Int) ∧ rd l (i : Int) ≤ hi := by
  rw [rd_at l i hi']
  exact all_bound h _ (List.getElem_mem hi')
end Go.Proofs.Ytgkbeejkbhhjkaa.X
