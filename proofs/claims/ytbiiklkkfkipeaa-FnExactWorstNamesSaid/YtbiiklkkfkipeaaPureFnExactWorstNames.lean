/- WorstNames answers as the reference does, for every input: the pure statement. -/
import Derived.Test.YtbiiklkkfkipeaaPlEqInt
import Derived.Test.YtbiiklkkfkipeaaPlMarks
import Derived.Test.YtbiiklkkfkipeaaPlWorstNamesSame
import Derived.Test.YtbiiklkkfkipeaaX29
namespace Go.Proofs.Ytbiiklkkfkipeaa.Pure
set_option linter.unusedSimpArgs false
set_option linter.unusedVariables false
set_option linter.unusedSimpArgs false
open Go.RowKit Go.Proofs.Ytbiiklkkfkipeaa.X Go.Proofs.YtbiiklkkfkipeaaW.PrintWords Go.Proofs.YtbiiklkkfkipeaaW.PrintLast
set_option maxHeartbeats 1000000 in
theorem FnExactWorstNames : ∀ (a0 : Int), (Lit.int .i64 a0).wf = true → ∃ k, laws_FnExactWorstNames.f k a0 = some true := by
  intro a0 h0_
  have hm : True := trivial
  obtain ⟨⟨r, b⟩, hS, hI, hr⟩ := WorstNames_same a0 (by first | exact ⟨h0_, hm⟩ | trivial)
  obtain ⟨K1, e1⟩ := hS
  obtain ⟨K2, e2⟩ := hI
  dsimp only at hr
  obtain ⟨K3, e3⟩ := eqIntS_ev r r (by omega)
  obtain ⟨K4, e4⟩ := markIntS_ev r 1 (by omega) (by omega)
  obtain ⟨K5, e5⟩ := heldIntS_ev r.length 1 (by omega) (by omega)
  have n_k : ¬ (1 < 0) := by omega
  have n_r : ¬ (1 + (r.length : Int) < 0) := by omega
  dsimp only at e1 e2 e3 e4 e5
  refine ⟨K1 + K2 + K3 + K4 + K5 + 9, ?_⟩
  simp (disch := omega) only [laws_FnExactWorstNames.f, e1, e2, e3, e4, e5, n_k, n_r, Option.bind_some, eq_self, decide_true, bne_self_eq_false, Bool.false_eq_true, Bool.not_true, Bool.not_false, ↓reduceIte]
  all_goals (try rw [laws_FnExactWorstNames.j0.eq_2])
  all_goals (try simp (disch := omega) only [laws_FnExactWorstNames.f, e1, e2, e3, e4, e5, n_k, n_r, Option.bind_some, eq_self, decide_true, bne_self_eq_false, Bool.false_eq_true, Bool.not_true, Bool.not_false, ↓reduceIte])
  all_goals (try rw [laws_FnExactWorstNames.j1.eq_2])
  all_goals (try simp (disch := omega) only [laws_FnExactWorstNames.f, e1, e2, e3, e4, e5, n_k, n_r, Option.bind_some, eq_self, decide_true, bne_self_eq_false, Bool.false_eq_true, Bool.not_true, Bool.not_false, ↓reduceIte])
end Go.Proofs.Ytbiiklkkfkipeaa.Pure
