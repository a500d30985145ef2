/- AddTraffic answers as the reference does, for every input: the pure statement. -/
import Derived.Test.YthaddopcblcfiaaPlInts
import Derived.Test.YthaddopcblcfiaaPlMarks
import Derived.Test.YthaddopcblcfiaaPlAdd
import Derived.Test.YthaddopcblcfiaaX18
namespace Go.Proofs.Ythaddopcblcfiaa.Pure
set_option linter.unusedSimpArgs false
set_option linter.unusedVariables false
set_option linter.unusedSimpArgs false
open Go.RowKit Go.Proofs.Ythaddopcblcfiaa.X Go.Proofs.YthaddopcblcfiaaW.PrintWords Go.Proofs.YthaddopcblcfiaaW.PrintLast
set_option maxHeartbeats 1000000 in
theorem FnExactAddTraffic : ∀ (l0 : List Int) (l1 : List Int), l0.length ≤ maxLen → l0.length * 8 ≤ 140737488351232 → (∀ x ∈ l0, (Lit.int .i64 x).wf = true) → l1.length ≤ maxLen → l1.length * 8 ≤ 140737488351232 → (∀ x ∈ l1, (Lit.int .i64 x).wf = true) → ∃ k, laws_FnExactAddTraffic.f k l0 l1 = some true := by
  intro l0 l1 h0_ h1_ h2_ h3_ h4_ h5_
  by_cases hb0 : (l0.length : Int) > 1048576
  · exact ⟨9, by simp [laws_FnExactAddTraffic.f, hb0]⟩
  by_cases hb1 : (l1.length : Int) > 1048576
  · exact ⟨9, by simp [laws_FnExactAddTraffic.f, hb0, hb1]⟩
  have hm : l0.length ≤ 1048576 ∧ l1.length ≤ 1048576 := ⟨by omega, by omega⟩
  obtain ⟨⟨r, b⟩, hS, hI, hr⟩ := AddTraffic_same l0 l1 (by first | exact ⟨h0_, h1_, h2_, h3_, h4_, h5_, hm⟩ | trivial)
  obtain ⟨K1, e1⟩ := hS
  obtain ⟨K2, e2⟩ := hI
  obtain ⟨K3, e3⟩ := toIntS_ev l0 (by omega)
  obtain ⟨K4, e4⟩ := toIntS_ev l1 (by omega)
  obtain ⟨K5, e5⟩ := eqIntS_ev l0 l0 (by omega)
  obtain ⟨K6, e6⟩ := eqIntS_ev l1 l1 (by omega)
  dsimp only at hr
  obtain ⟨K7, e7⟩ := eqIntS_ev r r (by omega)
  obtain ⟨K8, e8⟩ := markIntS_ev r 1 (by omega) (by omega)
  obtain ⟨K9, e9⟩ := heldIntS_ev r.length 1 (by omega) (by omega)
  obtain ⟨K10, e10⟩ := markIntS_ev l0 (1) (by omega) (by omega)
  obtain ⟨K11, e11⟩ := markIntS_ev l1 (1 + (l0.length : Int)) (by omega) (by omega)
  have n_k : ¬ (1 + (l0.length : Int) + (l1.length : Int) < 0) := by omega
  have n_r : ¬ (1 + (r.length : Int) < 0) := by omega
  dsimp only at e1 e2 e3 e4 e5 e6 e7 e8 e9 e10 e11
  refine ⟨K1 + K2 + K3 + K4 + K5 + K6 + K7 + K8 + K9 + K10 + K11 + 9, ?_⟩
  simp (disch := omega) only [laws_FnExactAddTraffic.f, e1, e2, e3, e4, e5, e6, e7, e8, e9, e10, e11, hb0, hb1, n_k, n_r, Option.bind_some, eq_self, decide_true, bne_self_eq_false, Bool.false_eq_true, Bool.not_true, Bool.not_false, ↓reduceIte]
  all_goals (try rw [laws_FnExactAddTraffic.j0.eq_2])
  all_goals (try simp (disch := omega) only [laws_FnExactAddTraffic.f, e1, e2, e3, e4, e5, e6, e7, e8, e9, e10, e11, hb0, hb1, n_k, n_r, Option.bind_some, eq_self, decide_true, bne_self_eq_false, Bool.false_eq_true, Bool.not_true, Bool.not_false, ↓reduceIte])
  all_goals (try rw [laws_FnExactAddTraffic.j1.eq_2])
  all_goals (try simp (disch := omega) only [laws_FnExactAddTraffic.f, e1, e2, e3, e4, e5, e6, e7, e8, e9, e10, e11, hb0, hb1, n_k, n_r, Option.bind_some, eq_self, decide_true, bne_self_eq_false, Bool.false_eq_true, Bool.not_true, Bool.not_false, ↓reduceIte])
  all_goals (try rw [laws_FnExactAddTraffic.j2.eq_2])
  all_goals (try simp (disch := omega) only [laws_FnExactAddTraffic.f, e1, e2, e3, e4, e5, e6, e7, e8, e9, e10, e11, hb0, hb1, n_k, n_r, Option.bind_some, eq_self, decide_true, bne_self_eq_false, Bool.false_eq_true, Bool.not_true, Bool.not_false, ↓reduceIte])
end Go.Proofs.Ythaddopcblcfiaa.Pure
