/- FireStation answers as the reference does, for every input: the pure statement. -/
import Derived.Test.YtjfjpfgnclnehaaPlInts
import Derived.Test.YtjfjpfgnclnehaaPlMarks
import Derived.Test.YtjfjpfgnclnehaaPlFire
import Derived.Test.YtjfjpfgnclnehaaX18
namespace Go.Proofs.Ytjfjpfgnclnehaa.Pure
set_option linter.unusedSimpArgs false
set_option linter.unusedVariables false
set_option linter.unusedSimpArgs false
open Go.RowKit Go.Proofs.Ytjfjpfgnclnehaa.X Go.Proofs.YtjfjpfgnclnehaaW.PrintWords Go.Proofs.YtjfjpfgnclnehaaW.PrintLast
set_option maxHeartbeats 1000000 in
theorem FnExactFireStation : ∀ (l0 : List Int) (a1 : Int) (a2 : Int), l0.length ≤ maxLen → l0.length * 8 ≤ 140737488351232 → (∀ x ∈ l0, (Lit.int .i64 x).wf = true) → (Lit.int .i64 a1).wf = true → (Lit.int .i64 a2).wf = true → ∃ k, laws_FnExactFireStation.f k l0 a1 a2 = some true := by
  intro l0 a1 a2 h0_ h1_ h2_ h3_ h4_
  by_cases hb0 : (l0.length : Int) > 1048576
  · exact ⟨9, by simp [laws_FnExactFireStation.f, hb0]⟩
  have hm : l0.length ≤ 1048576 := by omega
  obtain ⟨⟨r, b⟩, hS, hI, hr⟩ := FireStation_same l0 a1 a2 (by first | exact ⟨h0_, h1_, h2_, h3_, h4_, hm⟩ | trivial)
  obtain ⟨K1, e1⟩ := hS
  obtain ⟨K2, e2⟩ := hI
  obtain ⟨K3, e3⟩ := toIntS_ev l0 (by omega)
  obtain ⟨K4, e4⟩ := eqIntS_ev l0 l0 (by omega)
  dsimp only at hr
  obtain ⟨K5, e5⟩ := eqIntS_ev r r (by omega)
  obtain ⟨K6, e6⟩ := markIntS_ev l0 1 (by omega) (by omega)
  obtain ⟨K7, e7⟩ := markIntS_ev r 1 (by omega) (by omega)
  obtain ⟨K8, e8⟩ := heldIntS_ev r.length 1 (by omega) (by omega)
  have n_l0 : ¬ (1 + (l0.length : Int) < 0) := by omega
  have n_r : ¬ (1 + (r.length : Int) < 0) := by omega
  dsimp only at e1 e2 e3 e4 e5 e6 e7 e8
  refine ⟨K1 + K2 + K3 + K4 + K5 + K6 + K7 + K8 + 9, ?_⟩
  simp (disch := omega) only [laws_FnExactFireStation.f, e1, e2, e3, e4, e5, e6, e7, e8, hb0, n_l0, n_r, Option.bind_some, eq_self, decide_true, bne_self_eq_false, Bool.false_eq_true, Bool.not_true, Bool.not_false, ↓reduceIte]
  all_goals (try rw [laws_FnExactFireStation.j0.eq_2])
  all_goals (try simp (disch := omega) only [laws_FnExactFireStation.f, e1, e2, e3, e4, e5, e6, e7, e8, hb0, n_l0, n_r, Option.bind_some, eq_self, decide_true, bne_self_eq_false, Bool.false_eq_true, Bool.not_true, Bool.not_false, ↓reduceIte])
  all_goals (try rw [laws_FnExactFireStation.j1.eq_2])
  all_goals (try simp (disch := omega) only [laws_FnExactFireStation.f, e1, e2, e3, e4, e5, e6, e7, e8, hb0, n_l0, n_r, Option.bind_some, eq_self, decide_true, bne_self_eq_false, Bool.false_eq_true, Bool.not_true, Bool.not_false, ↓reduceIte])
  all_goals (try rw [laws_FnExactFireStation.j2.eq_2])
  all_goals (try simp (disch := omega) only [laws_FnExactFireStation.f, e1, e2, e3, e4, e5, e6, e7, e8, hb0, n_l0, n_r, Option.bind_some, eq_self, decide_true, bne_self_eq_false, Bool.false_eq_true, Bool.not_true, Bool.not_false, ↓reduceIte])
end Go.Proofs.Ytjfjpfgnclnehaa.Pure
