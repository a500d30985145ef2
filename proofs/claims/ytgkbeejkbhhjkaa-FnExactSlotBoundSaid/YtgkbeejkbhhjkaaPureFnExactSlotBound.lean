/- SlotBound answers as the reference does, for every input: the pure statement. -/
import Derived.Test.YtgkbeejkbhhjkaaPlSlotBound
import Derived.Test.YtgkbeejkbhhjkaaX13
import Derived.Test.YtgkbeejkbhhjkaaPlStructs
namespace Go.Proofs.Ytgkbeejkbhhjkaa.Pure
set_option linter.unusedSimpArgs false
set_option linter.unusedVariables false
set_option linter.unusedSimpArgs false
open Go.RowKit Go.Proofs.Ytgkbeejkbhhjkaa.X Go.Proofs.YtgkbeejkbhhjkaaW.PrintWords Go.Proofs.YtgkbeejkbhhjkaaW.PrintLast
set_option maxHeartbeats 1000000 in
theorem FnExactSlotBound : ∀ (a0_0 : Int) (a0_1 : Bool) (l1 : List S25), (Lit.int .i64 a0_0).wf = true → l1.length ≤ maxLen → (∀ x ∈ l1, (Lit.int .i64 x.f0).wf = true ∧ (Lit.int .i64 x.f1).wf = true ∧ (Lit.int .i64 x.f2).wf = true) → ∃ k, laws_FnExactSlotBound.f k a0_0 a0_1 l1 = some true := by
  intro a0_0 a0_1 l1 h0_ h1_ h2_
  by_cases hs : 1048576 < l1.length
  · exact ⟨9, by simp [laws_FnExactSlotBound.f, sz_big l1 (by omega) (by unfold maxLen at *; omega)]⟩
  have hm : l1.length ≤ 1048576 := by omega
  obtain ⟨v, hS, hI⟩ := SlotBound_same a0_0 a0_1 l1 (by first | exact ⟨h0_, h1_, h2_, hm⟩ | trivial)
  obtain ⟨K1, e1⟩ := hS
  obtain ⟨K2, e2⟩ := hI
  have htl_l1 := toL_length l1
  have es_l1 := sz_small l1 (by omega)
  have ns_l1 : ¬ (1048576 - (l1.length : Int) < 0) := by omega
  obtain ⟨K3, e3⟩ := toS_ev l1 (by omega)
  -- structs
  obtain ⟨K4, e4⟩ := eqS_ev (toL l1) (by rw [toL_length]; omega)
  dsimp only at e1 e2 e3 e4
  refine ⟨K1 + K2 + K3 + K4 + 9, ?_⟩
  simp (disch := omega) only [laws_FnExactSlotBound.f, laws_toSlotRing.f, e1, e2, e3, e4, es_l1, ns_l1, Option.bind_some, eq_self, decide_true, bne_self_eq_false, Bool.false_eq_true, Bool.not_true, Bool.not_false, ↓reduceIte]
  all_goals (try rw [laws_FnExactSlotBound.j0.eq_2])
  all_goals (try simp (disch := omega) only [laws_FnExactSlotBound.f, laws_toSlotRing.f, e1, e2, e3, e4, es_l1, ns_l1, Option.bind_some, eq_self, decide_true, bne_self_eq_false, Bool.false_eq_true, Bool.not_true, Bool.not_false, ↓reduceIte])
end Go.Proofs.Ytgkbeejkbhhjkaa.Pure
