/- TrafficText answers as the reference does, for every list: the pure statement. -/
import Derived.Test.YthaddopcblcfiaaDoorPlText
import Derived.Test.YthaddopcblcfiaaDoorX7
namespace Go.Proofs.YthaddopcblcfiaaDoor.Pure
set_option linter.unusedSimpArgs false
set_option linter.unusedVariables false
open Go.RowKit Go.Proofs.YthaddopcblcfiaaDoor.X Go.Proofs.YthaddopcblcfiaaDoorW.PrintWords Go.Proofs.YthaddopcblcfiaaDoorW.PrintLast
theorem FnExactTrafficText : ∀ (l0 : List Int), l0.length ≤ maxLen → l0.length * 8 ≤ 140737488351232 → (∀ x ∈ l0, (Lit.int .i64 x).wf = true) → ∃ k, laws_FnExactTrafficText.f k l0 = some true := by
  intro l0 _ h2 _
  by_cases hb : (l0.length : Int) > 1048576
  · exact ⟨0, by unfold laws_FnExactTrafficText.f; rw [if_pos hb]⟩
  obtain ⟨K1, e1⟩ := toIntS_ev l0 (by omega)
  obtain ⟨⟨r, b⟩, ⟨K2, e2⟩, ⟨K3, e3⟩⟩ := TrafficText_same l0 (by omega)
  obtain ⟨K4, e4⟩ := eqIntS_ev l0 l0 (by omega)
  dsimp only at e1 e2 e3 e4
  refine ⟨K1 + K2 + K3 + K4 + 9, ?_⟩
  obtain ⟨m, hm⟩ : ∃ m, K1 + K2 + K3 + K4 + 9 = m + 1 := ⟨K1 + K2 + K3 + K4 + 8, rfl⟩
  rw [hm]
  unfold laws_FnExactTrafficText.f
  rw [if_neg hb, e1 _ (by omega)]
  simp only [Option.bind_some]
  rw [e2 _ (by omega)]
  simp only [Option.bind_some]
  rw [e3 _ (by omega)]
  simp only [Option.bind_some, if_true]
  rw [laws_FnExactTrafficText.j0, if_neg (by simp), e1 _ (by omega)]
  simp only [Option.bind_some]
  rw [e4 _ (by omega)]
  simp
end Go.Proofs.YthaddopcblcfiaaDoor.Pure
