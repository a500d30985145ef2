/- RunFires answers as the reference does, for every input: the pure statement. -/
import Derived.Test.YtjfjpfgnclnehaaPlInts
import Derived.Test.YtjfjpfgnclnehaaPlRows
import Derived.Test.YtjfjpfgnclnehaaPlRunFires
import Derived.Test.YtjfjpfgnclnehaaX25
namespace Go.Proofs.Ytjfjpfgnclnehaa.Pure
set_option linter.unusedSimpArgs false
set_option linter.unusedVariables false
set_option linter.unusedSimpArgs false
open Go.RowKit Go.Proofs.Ytjfjpfgnclnehaa.X Go.Proofs.YtjfjpfgnclnehaaW.PrintWords Go.Proofs.YtjfjpfgnclnehaaW.PrintLast
set_option maxHeartbeats 1000000 in
theorem FnExactRunFires : ∀ (l0 : List Int) (a1 : Int) (l2 : List Int), l0.length ≤ maxLen → l0.length * 8 ≤ 140737488351232 → (∀ x ∈ l0, (Lit.int .i64 x).wf = true) → (Lit.int .i64 a1).wf = true → l2.length ≤ maxLen → l2.length * 8 ≤ 140737488351232 → (∀ x ∈ l2, (Lit.int .i64 x).wf = true) → ∃ k, laws_FnExactRunFires.f k l0 a1 l2 = some true := by
  intro l0 a1 l2 _ _ _ _ _ _ hw
  by_cases hb0 : (l0.length : Int) > 1048576
  · exact ⟨9, by simp [laws_FnExactRunFires.f, hb0]⟩
  by_cases hb1 : (l2.length : Int) > 1048576
  · exact ⟨9, by simp [laws_FnExactRunFires.f, hb0, hb1]⟩
  obtain ⟨⟨r, b⟩, ⟨K1, e1⟩, ⟨K2, e2⟩, hr1, hr2⟩ := RunFires_same l0 a1 l2 (by omega) (by omega) hw
  dsimp only at hr1 hr2
  have ht := tot_le r 12 hr2
  have ht2 : r.length * 12 ≤ 41 * 12 := Nat.mul_le_mul_right 12 hr1
  obtain ⟨K3, e3⟩ := toIntS_ev l0 (by omega)
  obtain ⟨K4, e4⟩ := toIntS_ev l2 (by omega)
  obtain ⟨K5, e5⟩ := eqIntSS_ev r (by omega) (fun l hl => by have := hr2 l hl; omega)
  obtain ⟨K6, e6⟩ := eqIntS_ev l0 l0 (by omega)
  obtain ⟨K7, e7⟩ := eqIntS_ev l2 l2 (by omega)
  obtain ⟨K8, e8⟩ := markIntS_ev l0 1 (by omega) (by omega)
  obtain ⟨K9, e9⟩ := markIntS_ev l2 (1 + (l0.length : Int)) (by omega) (by omega)
  obtain ⟨K10, e10⟩ := markIntSS_ev r 1 (by omega) (by omega) (by omega)
  obtain ⟨K11, e11⟩ := heldIntSS_ev r 1 (by omega) (by omega) (by omega)
  dsimp only at e1 e2 e3 e4 e5 e6 e7 e8 e9 e10 e11
  refine ⟨K1 + K2 + K3 + K4 + K5 + K6 + K7 + K8 + K9 + K10 + K11, ?_⟩
  simp (disch := omega) only [laws_FnExactRunFires.f, if_neg hb0, if_neg hb1, e1, e2, e3, e4, e5, e6, e7, e8, e9, e10, e11, Option.bind_some]
  rw [if_pos (by refine ⟨trivial, by simp, by simp, trivial, by omega, by omega, trivial⟩)]
end Go.Proofs.Ytjfjpfgnclnehaa.Pure
