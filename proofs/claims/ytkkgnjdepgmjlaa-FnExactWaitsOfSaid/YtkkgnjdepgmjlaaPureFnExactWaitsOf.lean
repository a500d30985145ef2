/- WaitsOf answers as the reference does, for every input: the pure statement. -/
import Derived.Test.YtkkgnjdepgmjlaaPlInts
import Derived.Test.YtkkgnjdepgmjlaaPlMarks
import Derived.Test.YtkkgnjdepgmjlaaPlWaits
import Derived.Test.YtkkgnjdepgmjlaaX22
import Derived.Test.YtkkgnjdepgmjlaaPlStructs
import Derived.Test.YtkkgnjdepgmjlaaPlStructMarks
namespace Go.Proofs.Ytkkgnjdepgmjlaa.Pure
set_option linter.unusedSimpArgs false
set_option linter.unusedVariables false
set_option linter.unusedSimpArgs false
open Go.RowKit Go.Proofs.Ytkkgnjdepgmjlaa.X Go.Proofs.YtkkgnjdepgmjlaaW.PrintWords Go.Proofs.YtkkgnjdepgmjlaaW.PrintLast
set_option maxHeartbeats 1000000 in
theorem FnExactWaitsOf : ∀ (l0 : List S45) (l1 : List Int), l0.length ≤ maxLen → (∀ x ∈ l0, (Lit.int .i64 x.f0).wf = true ∧ (Lit.int .i64 x.f1).wf = true ∧ (Lit.int .i64 x.f2).wf = true) → l1.length ≤ maxLen → l1.length * 8 ≤ 140737488351232 → (∀ x ∈ l1, (Lit.int .i64 x).wf = true) → ∃ k, laws_FnExactWaitsOf.f k l0 l1 = some true := by
  intro l0 l1 h0_ h1_ h2_ h3_ h4_
  by_cases hb0 : (l1.length : Int) > 1048576
  · exact ⟨9, by simp [laws_FnExactWaitsOf.f, hb0]⟩
  by_cases hs : 1048576 < l0.length
  · exact ⟨9, by simp [laws_FnExactWaitsOf.f, hb0, sz_big l0 (by omega) (by unfold maxLen at *; omega)]⟩
  have hm : l1.length ≤ 1048576 ∧ l0.length ≤ 1048576 := ⟨by omega, by omega⟩
  obtain ⟨⟨r, b⟩, hS, hI, hr⟩ := WaitsOf_same l0 l1 (by first | exact ⟨h0_, h1_, h2_, h3_, h4_, hm⟩ | trivial)
  obtain ⟨K1, e1⟩ := hS
  obtain ⟨K2, e2⟩ := hI
  obtain ⟨K3, e3⟩ := toIntS_ev l1 (by omega)
  obtain ⟨K4, e4⟩ := eqIntS_ev l1 l1 (by omega)
  dsimp only at hr
  obtain ⟨K5, e5⟩ := eqIntS_ev r r (by omega)
  obtain ⟨K6, e6⟩ := markIntS_ev r 1 (by omega) (by omega)
  obtain ⟨K7, e7⟩ := heldIntS_ev r.length 1 (by omega) (by omega)
  have htl_l0 := toL_length l0
  obtain ⟨K8, e8⟩ := markS_ev (toL l0) (1) (by omega) (by omega)
  obtain ⟨K9, e9⟩ := markIntS_ev l1 (1 + 3 * ((toL l0).length : Int)) (by omega) (by omega)
  have n_k : ¬ (1 + 3 * ((toL l0).length : Int) + (l1.length : Int) < 0) := by omega
  have n_r : ¬ (1 + (r.length : Int) < 0) := by omega
  have es_l0 := sz_small l0 (by omega)
  have ns_l0 : ¬ (1048576 - (l0.length : Int) < 0) := by omega
  obtain ⟨K10, e10⟩ := toS_ev l0 (by omega)
  -- structs
  obtain ⟨K11, e11⟩ := eqS_ev (toL l0) (by rw [toL_length]; omega)
  dsimp only at e1 e2 e3 e4 e5 e6 e7 e8 e9 e10 e11
  refine ⟨K1 + K2 + K3 + K4 + K5 + K6 + K7 + K8 + K9 + K10 + K11 + 9, ?_⟩
  simp (disch := omega) only [laws_FnExactWaitsOf.f, e1, e2, e3, e4, e5, e6, e7, e8, e9, e10, e11, es_l0, hb0, n_k, n_r, ns_l0, Option.bind_some, eq_self, decide_true, bne_self_eq_false, Bool.false_eq_true, Bool.not_true, Bool.not_false, ↓reduceIte]
  all_goals (try rw [laws_FnExactWaitsOf.j0.eq_2])
  all_goals (try simp (disch := omega) only [laws_FnExactWaitsOf.f, e1, e2, e3, e4, e5, e6, e7, e8, e9, e10, e11, es_l0, hb0, n_k, n_r, ns_l0, Option.bind_some, eq_self, decide_true, bne_self_eq_false, Bool.false_eq_true, Bool.not_true, Bool.not_false, ↓reduceIte])
  all_goals (try rw [laws_FnExactWaitsOf.j1.eq_2])
  all_goals (try simp (disch := omega) only [laws_FnExactWaitsOf.f, e1, e2, e3, e4, e5, e6, e7, e8, e9, e10, e11, es_l0, hb0, n_k, n_r, ns_l0, Option.bind_some, eq_self, decide_true, bne_self_eq_false, Bool.false_eq_true, Bool.not_true, Bool.not_false, ↓reduceIte])
  all_goals (try rw [laws_FnExactWaitsOf.j2.eq_2])
  all_goals (try simp (disch := omega) only [laws_FnExactWaitsOf.f, e1, e2, e3, e4, e5, e6, e7, e8, e9, e10, e11, es_l0, hb0, n_k, n_r, ns_l0, Option.bind_some, eq_self, decide_true, bne_self_eq_false, Bool.false_eq_true, Bool.not_true, Bool.not_false, ↓reduceIte])
end Go.Proofs.Ytkkgnjdepgmjlaa.Pure
