/- LoadOfLinks answers as the reference does, for every input: the pure statement. -/
import Derived.Test.YtgkbeejkbhhjkaaPlEqInt
import Derived.Test.YtgkbeejkbhhjkaaPlMarks
import Derived.Test.YtgkbeejkbhhjkaaPlLoad
import Derived.Test.YtgkbeejkbhhjkaaX23
import Derived.Test.YtgkbeejkbhhjkaaPlStructs
import Derived.Test.YtgkbeejkbhhjkaaPlStructMarks
namespace Go.Proofs.Ytgkbeejkbhhjkaa.Pure
set_option linter.unusedSimpArgs false
set_option linter.unusedVariables false
set_option linter.unusedSimpArgs false
open Go.RowKit Go.Proofs.Ytgkbeejkbhhjkaa.X Go.Proofs.YtgkbeejkbhhjkaaW.PrintWords Go.Proofs.YtgkbeejkbhhjkaaW.PrintLast
set_option maxHeartbeats 1000000 in
theorem FnExactLoadOfLinks : ∀ (a0_0 : Int) (a0_1 : Bool) (l1 : List S25), (Lit.int .i64 a0_0).wf = true → l1.length ≤ maxLen → (∀ x ∈ l1, (Lit.int .i64 x.f0).wf = true ∧ (Lit.int .i64 x.f1).wf = true ∧ (Lit.int .i64 x.f2).wf = true) → ∃ k, laws_FnExactLoadOfLinks.f k a0_0 a0_1 l1 = some true := by
  intro a0_0 a0_1 l1 h0_ h1_ h2_
  by_cases hs : 1048576 < l1.length
  · exact ⟨9, by simp [laws_FnExactLoadOfLinks.f, sz_big l1 (by omega) (by unfold maxLen at *; omega)]⟩
  have hm : l1.length ≤ 1048576 := by omega
  obtain ⟨⟨r, b⟩, hS, hI, hr⟩ := LoadOfLinks_same a0_0 a0_1 l1 (by first | exact ⟨h0_, h1_, h2_, hm⟩ | trivial)
  obtain ⟨K1, e1⟩ := hS
  obtain ⟨K2, e2⟩ := hI
  dsimp only at hr
  obtain ⟨K3, e3⟩ := eqIntS_ev r r (by omega)
  obtain ⟨K4, e4⟩ := markIntS_ev r 1 (by omega) (by omega)
  obtain ⟨K5, e5⟩ := heldIntS_ev r.length 1 (by omega) (by omega)
  have htl_l1 := toL_length l1
  obtain ⟨K6, e6⟩ := markS_ev (toL l1) (1) (by omega) (by omega)
  have n_k : ¬ (1 + 3 * ((toL l1).length : Int) < 0) := by omega
  have n_r : ¬ (1 + (r.length : Int) < 0) := by omega
  have es_l1 := sz_small l1 (by omega)
  have ns_l1 : ¬ (1048576 - (l1.length : Int) < 0) := by omega
  obtain ⟨K7, e7⟩ := toS_ev l1 (by omega)
  -- structs
  obtain ⟨K8, e8⟩ := eqS_ev (toL l1) (by rw [toL_length]; omega)
  dsimp only at e1 e2 e3 e4 e5 e6 e7 e8
  refine ⟨K1 + K2 + K3 + K4 + K5 + K6 + K7 + K8 + 9, ?_⟩
  simp (disch := omega) only [laws_FnExactLoadOfLinks.f, laws_toSlotRing.f, e1, e2, e3, e4, e5, e6, e7, e8, es_l1, n_k, n_r, ns_l1, Option.bind_some, eq_self, decide_true, bne_self_eq_false, Bool.false_eq_true, Bool.not_true, Bool.not_false, ↓reduceIte]
  all_goals (try rw [laws_FnExactLoadOfLinks.j0.eq_2])
  all_goals (try simp (disch := omega) only [laws_FnExactLoadOfLinks.f, laws_toSlotRing.f, e1, e2, e3, e4, e5, e6, e7, e8, es_l1, n_k, n_r, ns_l1, Option.bind_some, eq_self, decide_true, bne_self_eq_false, Bool.false_eq_true, Bool.not_true, Bool.not_false, ↓reduceIte])
  all_goals (try rw [laws_FnExactLoadOfLinks.j1.eq_2])
  all_goals (try simp (disch := omega) only [laws_FnExactLoadOfLinks.f, laws_toSlotRing.f, e1, e2, e3, e4, e5, e6, e7, e8, es_l1, n_k, n_r, ns_l1, Option.bind_some, eq_self, decide_true, bne_self_eq_false, Bool.false_eq_true, Bool.not_true, Bool.not_false, ↓reduceIte])
  all_goals (try rw [laws_FnExactLoadOfLinks.j2.eq_2])
  all_goals (try simp (disch := omega) only [laws_FnExactLoadOfLinks.f, laws_toSlotRing.f, e1, e2, e3, e4, e5, e6, e7, e8, es_l1, n_k, n_r, ns_l1, Option.bind_some, eq_self, decide_true, bne_self_eq_false, Bool.false_eq_true, Bool.not_true, Bool.not_false, ↓reduceIte])
end Go.Proofs.Ytgkbeejkbhhjkaa.Pure
