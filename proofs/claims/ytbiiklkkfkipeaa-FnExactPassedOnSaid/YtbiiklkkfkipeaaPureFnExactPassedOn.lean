/- PassedOn answers as the reference does, for every input: the pure statement. -/
import Derived.Test.YtbiiklkkfkipeaaPlInts
import Derived.Test.YtbiiklkkfkipeaaPlMarks
import Derived.Test.YtbiiklkkfkipeaaPlPassedSame
import Derived.Test.YtbiiklkkfkipeaaX16
namespace Go.Proofs.Ytbiiklkkfkipeaa.Pure
set_option linter.unusedSimpArgs false
set_option linter.unusedVariables false
set_option linter.unusedSimpArgs false
open Go.RowKit Go.Proofs.Ytbiiklkkfkipeaa.X Go.Proofs.YtbiiklkkfkipeaaW.PrintWords Go.Proofs.YtbiiklkkfkipeaaW.PrintLast
set_option maxHeartbeats 1000000 in
theorem FnExactPassedOn : ∀ (l0 : List Int), l0.length ≤ maxLen → l0.length * 8 ≤ 140737488351232 → (∀ x ∈ l0, (Lit.int .i64 x).wf = true) → ∃ k, laws_FnExactPassedOn.f k l0 = some true := by
  intro l0 h0_ h1_ h2_
  by_cases hb0 : (l0.length : Int) > 1048576
  · exact ⟨9, by simp [laws_FnExactPassedOn.f, hb0]⟩
  have hm : l0.length ≤ 1048576 := by omega
  obtain ⟨⟨r, b⟩, hS, hI, hr⟩ := PassedOn_same l0 (by first | exact ⟨h0_, h1_, h2_, hm⟩ | trivial)
  obtain ⟨K1, e1⟩ := hS
  obtain ⟨K2, e2⟩ := hI
  obtain ⟨K3, e3⟩ := toIntS_ev l0 (by omega)
  obtain ⟨K4, e4⟩ := eqIntS_ev l0 l0 (by omega)
  dsimp only at hr
  obtain ⟨K5, e5⟩ := eqIntS_ev r r (by omega)
  obtain ⟨K6, e6⟩ := markIntS_ev l0 1 (by omega) (by omega)
  obtain ⟨K7, e7⟩ := markIntS_ev r 1 (by omega) (by omega)
  obtain ⟨K8, e8⟩ := heldIntS_ev r.length 1 (by omega) (by omega)
  have n_l0 : ¬ (1 + (l0.length : Int) < 0) := by omega
  have n_r : ¬ (1 + (r.length : Int) < 0) := by omega
  dsimp only at e1 e2 e3 e4 e5 e6 e7 e8
  refine ⟨K1 + K2 + K3 + K4 + K5 + K6 + K7 + K8 + 9, ?_⟩
  simp (disch := omega) only [laws_FnExactPassedOn.f, e1, e2, e3, e4, e5, e6, e7, e8, hb0, n_l0, n_r, Option.bind_some, eq_self, decide_true, bne_self_eq_false, Bool.false_eq_true, Bool.not_true, Bool.not_false, ↓reduceIte]
  all_goals (try rw [laws_FnExactPassedOn.j0.eq_2])
  all_goals (try simp (disch := omega) only [laws_FnExactPassedOn.f, e1, e2, e3, e4, e5, e6, e7, e8, hb0, n_l0, n_r, Option.bind_some, eq_self, decide_true, bne_self_eq_false, Bool.false_eq_true, Bool.not_true, Bool.not_false, ↓reduceIte])
  all_goals (try rw [laws_FnExactPassedOn.j1.eq_2])
  all_goals (try simp (disch := omega) only [laws_FnExactPassedOn.f, e1, e2, e3, e4, e5, e6, e7, e8, hb0, n_l0, n_r, Option.bind_some, eq_self, decide_true, bne_self_eq_false, Bool.false_eq_true, Bool.not_true, Bool.not_false, ↓reduceIte])
  all_goals (try rw [laws_FnExactPassedOn.j2.eq_2])
  all_goals (try simp (disch := omega) only [laws_FnExactPassedOn.f, e1, e2, e3, e4, e5, e6, e7, e8, hb0, n_l0, n_r, Option.bind_some, eq_self, decide_true, bne_self_eq_false, Bool.false_eq_true, Bool.not_true, Bool.not_false, ↓reduceIte])
end Go.Proofs.Ytbiiklkkfkipeaa.Pure
