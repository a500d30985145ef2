/- IsBusySchedule answers as the reference does, for every input: the pure statement. -/
import Derived.Test.YtkkgnjdepgmjlaaPlInts
import Derived.Test.YtkkgnjdepgmjlaaPlBusy
import Derived.Test.YtkkgnjdepgmjlaaX19
import Derived.Test.YtkkgnjdepgmjlaaPlStructs
namespace Go.Proofs.Ytkkgnjdepgmjlaa.Pure
set_option linter.unusedSimpArgs false
set_option linter.unusedVariables false
set_option linter.unusedSimpArgs false
open Go.RowKit Go.Proofs.Ytkkgnjdepgmjlaa.X Go.Proofs.YtkkgnjdepgmjlaaW.PrintWords Go.Proofs.YtkkgnjdepgmjlaaW.PrintLast
set_option maxHeartbeats 1000000 in
theorem FnExactIsBusySchedule : ∀ (l0 : List S45) (l1 : List Int), l0.length ≤ maxLen → (∀ x ∈ l0, (Lit.int .i64 x.f0).wf = true ∧ (Lit.int .i64 x.f1).wf = true ∧ (Lit.int .i64 x.f2).wf = true) → l1.length ≤ maxLen → l1.length * 8 ≤ 140737488351232 → (∀ x ∈ l1, (Lit.int .i64 x).wf = true) → ∃ k, laws_FnExactIsBusySchedule.f k l0 l1 = some true := by
  intro l0 l1 h0_ h1_ h2_ h3_ h4_
  by_cases hb0 : (l1.length : Int) > 1048576
  · exact ⟨9, by simp [laws_FnExactIsBusySchedule.f, hb0]⟩
  by_cases hs : 1048576 < l0.length
  · exact ⟨9, by simp [laws_FnExactIsBusySchedule.f, hb0, sz_big l0 (by omega) (by unfold maxLen at *; omega)]⟩
  have hm : l1.length ≤ 1048576 ∧ l0.length ≤ 1048576 := ⟨by omega, by omega⟩
  obtain ⟨v, hS, hI⟩ := IsBusySchedule_same l0 l1 (by first | exact ⟨h0_, h1_, h2_, h3_, h4_, hm⟩ | trivial)
  obtain ⟨K1, e1⟩ := hS
  obtain ⟨K2, e2⟩ := hI
  obtain ⟨K3, e3⟩ := toIntS_ev l1 (by omega)
  obtain ⟨K4, e4⟩ := eqIntS_ev l1 l1 (by omega)
  have htl_l0 := toL_length l0
  have es_l0 := sz_small l0 (by omega)
  have ns_l0 : ¬ (1048576 - (l0.length : Int) < 0) := by omega
  obtain ⟨K5, e5⟩ := toS_ev l0 (by omega)
  -- structs
  obtain ⟨K6, e6⟩ := eqS_ev (toL l0) (by rw [toL_length]; omega)
  dsimp only at e1 e2 e3 e4 e5 e6
  refine ⟨K1 + K2 + K3 + K4 + K5 + K6 + 9, ?_⟩
  simp (disch := omega) only [laws_FnExactIsBusySchedule.f, e1, e2, e3, e4, e5, e6, es_l0, hb0, ns_l0, Option.bind_some, eq_self, decide_true, bne_self_eq_false, Bool.false_eq_true, Bool.not_true, Bool.not_false, ↓reduceIte]
  all_goals (try rw [laws_FnExactIsBusySchedule.j0.eq_2])
  all_goals (try simp (disch := omega) only [laws_FnExactIsBusySchedule.f, e1, e2, e3, e4, e5, e6, es_l0, hb0, ns_l0, Option.bind_some, eq_self, decide_true, bne_self_eq_false, Bool.false_eq_true, Bool.not_true, Bool.not_false, ↓reduceIte])
end Go.Proofs.Ytkkgnjdepgmjlaa.Pure
