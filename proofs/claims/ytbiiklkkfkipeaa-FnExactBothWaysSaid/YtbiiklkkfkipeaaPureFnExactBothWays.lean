/- BothWays answers as the reference does, for every input: the pure statement. -/
import Derived.Test.YtbiiklkkfkipeaaPlInts
import Derived.Test.YtbiiklkkfkipeaaPlBothSame
import Derived.Test.YtbiiklkkfkipeaaX28
namespace Go.Proofs.Ytbiiklkkfkipeaa.Pure
set_option linter.unusedSimpArgs false
set_option linter.unusedVariables false
set_option linter.unusedSimpArgs false
open Go.RowKit Go.Proofs.Ytbiiklkkfkipeaa.X Go.Proofs.YtbiiklkkfkipeaaW.PrintWords Go.Proofs.YtbiiklkkfkipeaaW.PrintLast
set_option maxHeartbeats 1000000 in
theorem FnExactBothWays : ∀ (l0 : List Int), l0.length ≤ maxLen → l0.length * 8 ≤ 140737488351232 → (∀ x ∈ l0, (Lit.int .i64 x).wf = true) → ∃ k, laws_FnExactBothWays.f k l0 = some true := by
  intro l0 h0_ h1_ h2_
  by_cases hb0 : (l0.length : Int) > 1048576
  · exact ⟨9, by simp [laws_FnExactBothWays.f, hb0]⟩
  have hm : l0.length ≤ 1048576 := by omega
  obtain ⟨v, hS, hI⟩ := BothWays_same l0 (by first | exact ⟨h0_, h1_, h2_, hm⟩ | trivial)
  obtain ⟨K1, e1⟩ := hS
  obtain ⟨K2, e2⟩ := hI
  obtain ⟨K3, e3⟩ := toIntS_ev l0 (by omega)
  obtain ⟨K4, e4⟩ := eqIntS_ev l0 l0 (by omega)
  dsimp only at e1 e2 e3 e4
  refine ⟨K1 + K2 + K3 + K4 + 9, ?_⟩
  simp (disch := omega) only [laws_FnExactBothWays.f, e1, e2, e3, e4, hb0, Option.bind_some, eq_self, decide_true, bne_self_eq_false, Bool.false_eq_true, Bool.not_true, Bool.not_false, ↓reduceIte]
  all_goals (try rw [laws_FnExactBothWays.j0.eq_2])
  all_goals (try simp (disch := omega) only [laws_FnExactBothWays.f, e1, e2, e3, e4, hb0, Option.bind_some, eq_self, decide_true, bne_self_eq_false, Bool.false_eq_true, Bool.not_true, Bool.not_false, ↓reduceIte])
end Go.Proofs.Ytbiiklkkfkipeaa.Pure
