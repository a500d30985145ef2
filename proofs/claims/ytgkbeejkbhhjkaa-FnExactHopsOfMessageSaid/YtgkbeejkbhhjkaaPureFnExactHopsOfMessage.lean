/- HopsOfMessage answers as the reference does, for every input: the pure statement. -/
import Derived.Test.YtgkbeejkbhhjkaaPlHops
import Derived.Test.YtgkbeejkbhhjkaaX5
namespace Go.Proofs.Ytgkbeejkbhhjkaa.Pure
set_option linter.unusedSimpArgs false
set_option linter.unusedVariables false
set_option linter.unusedSimpArgs false
open Go.RowKit Go.Proofs.Ytgkbeejkbhhjkaa.X Go.Proofs.YtgkbeejkbhhjkaaW.PrintWords Go.Proofs.YtgkbeejkbhhjkaaW.PrintLast
set_option maxHeartbeats 1000000 in
theorem FnExactHopsOfMessage : ∀ (a0_0 : Int) (a0_1 : Bool) (a1_0 : Int) (a1_1 : Int) (a1_2 : Int), (Lit.int .i64 a0_0).wf = true → (Lit.int .i64 a1_0).wf = true → (Lit.int .i64 a1_1).wf = true → (Lit.int .i64 a1_2).wf = true → ∃ k, laws_FnExactHopsOfMessage.f k a0_0 a0_1 a1_0 a1_1 a1_2 = some true := by
  intro a0_0 a0_1 a1_0 a1_1 a1_2 h0_ h1_ h2_ h3_
  have hm : True := trivial
  obtain ⟨v, hS, hI⟩ := HopsOfMessage_same a0_0 a0_1 a1_0 a1_1 a1_2 (by first | exact ⟨h0_, h1_, h2_, h3_, hm⟩ | trivial)
  obtain ⟨K1, e1⟩ := hI
  dsimp only at e1
  refine ⟨K1 + 9, ?_⟩
  simp (disch := omega) only [laws_FnExactHopsOfMessage.f, laws_toMessage.f, laws_toSlotRing.f, e1, hS, Option.bind_some, eq_self, decide_true, bne_self_eq_false, Bool.false_eq_true, Bool.not_true, Bool.not_false, ↓reduceIte]
end Go.Proofs.Ytgkbeejkbhhjkaa.Pure
