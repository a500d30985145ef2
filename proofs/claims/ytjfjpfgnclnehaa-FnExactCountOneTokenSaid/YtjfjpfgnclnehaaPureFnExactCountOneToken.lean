/- CountOneToken answers as the reference does, for every two numbers: the pure statement. -/
import Derived.Test.YtjfjpfgnclnehaaPlCount
import Derived.Test.YtjfjpfgnclnehaaX14
namespace Go.Proofs.Ytjfjpfgnclnehaa.Pure
set_option linter.unusedSimpArgs false
set_option linter.unusedVariables false
open Go.RowKit Go.Proofs.Ytjfjpfgnclnehaa.X Go.Proofs.YtjfjpfgnclnehaaW.PrintWords Go.Proofs.YtjfjpfgnclnehaaW.PrintLast
theorem FnExactCountOneToken : ∀ (a0 : Int) (a1 : Int), (Lit.int .i64 a0).wf = true → (Lit.int .i64 a1).wf = true → ∃ k, laws_FnExactCountOneToken.f k a0 a1 = some true := by
  intro n k _ _
  obtain ⟨v, ⟨K1, e1⟩, ⟨K2, e2⟩⟩ := CountOneToken_same n k
  dsimp only at e1 e2
  refine ⟨K1 + K2, ?_⟩
  simp only [laws_FnExactCountOneToken.f]
  rw [e1 _ (by omega), e2 _ (by omega)]
  simp
end Go.Proofs.Ytjfjpfgnclnehaa.Pure
