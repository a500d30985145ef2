/- DelayOfShape answers as the reference does, for every input: the pure statement. -/
import Derived.Test.YtcamhmafkbbooaaPlInts
import Derived.Test.YtcamhmafkbbooaaPlDelay
import Derived.Test.YtcamhmafkbbooaaX24
namespace Go.Proofs.Ytcamhmafkbbooaa.Pure
set_option linter.unusedSimpArgs false
set_option linter.unusedVariables false
set_option linter.unusedSimpArgs false
open Go.RowKit Go.Proofs.Ytcamhmafkbbooaa.X Go.Proofs.YtcamhmafkbbooaaW.PrintWords Go.Proofs.YtcamhmafkbbooaaW.PrintLast
set_option maxHeartbeats 1000000 in
theorem FnExactDelayOfShape : ∀ (a0_0 : Int) (a0_1 : Int) (l1 : List Int), (Lit.int .i64 a0_0).wf = true → (Lit.int .i64 a0_1).wf = true → l1.length ≤ maxLen → l1.length * 8 ≤ 140737488351232 → (∀ x ∈ l1, (Lit.int .i64 x).wf = true) → ∃ k, laws_FnExactDelayOfShape.f k a0_0 a0_1 l1 = some true := by
  intro a0_0 a0_1 l1 h0_ h1_ h2_ h3_ h4_
  by_cases hb0 : (l1.length : Int) > 1048576
  · exact ⟨9, by simp [laws_FnExactDelayOfShape.f, hb0]⟩
  have hm : l1.length ≤ 1048576 := by omega
  obtain ⟨v, hS, hI⟩ := DelayOfShape_same a0_0 a0_1 l1 (by first | exact ⟨h0_, h1_, h2_, h3_, h4_, hm⟩ | trivial)
  obtain ⟨K1, e1⟩ := hS
  obtain ⟨K2, e2⟩ := hI
  obtain ⟨K3, e3⟩ := toIntS_ev l1 (by omega)
  obtain ⟨K4, e4⟩ := eqIntS_ev l1 l1 (by omega)
  dsimp only at e1 e2 e3 e4
  refine ⟨K1 + K2 + K3 + K4 + 9, ?_⟩
  simp (disch := omega) only [laws_FnExactDelayOfShape.f, laws_toBucket.f, e1, e2, e3, e4, hb0, Option.bind_some, eq_self, decide_true, bne_self_eq_false, Bool.false_eq_true, Bool.not_true, Bool.not_false, ↓reduceIte]
  all_goals (try rw [laws_FnExactDelayOfShape.j0.eq_2])
  all_goals (try simp (disch := omega) only [laws_FnExactDelayOfShape.f, laws_toBucket.f, e1, e2, e3, e4, hb0, Option.bind_some, eq_self, decide_true, bne_self_eq_false, Bool.false_eq_true, Bool.not_true, Bool.not_false, ↓reduceIte])
end Go.Proofs.Ytcamhmafkbbooaa.Pure
