/- PassedOn: the program and the reference come to the same. -/
import Derived.Test.YtbiiklkkfkipeaaPlPassed
import Derived.Test.YtbiiklkkfkipeaaX14
import Derived.Test.YtbiiklkkfkipeaaX13
namespace Go.Proofs.Ytbiiklkkfkipeaa.X
set_option linter.unusedSimpArgs false
set_option linter.unusedVariables false
open Go.RowKit Go.Proofs.YtbiiklkkfkipeaaW.PrintWords
theorem PassedOn_same (l : List Int) (h : (l.length ≤ maxLen ∧ l.length * 8 ≤ 140737488351232 ∧ (∀ x ∈ l, (Lit.int .i64 x).wf = true) ∧ l.length ≤ 1048576)) :
    ∃ v, Ev (fun k => spec_PassedOn.f k l) v ∧ Ev (fun k => impl_PassedOn.f k l) v ∧ v.1.length ≤ 1000000 := by
  obtain ⟨K, e⟩ := specNames_ev l h.2.2.2
  obtain ⟨K', e'⟩ := implNames_ev l h.2.2.2
  dsimp only at e e'
  cases hk : isNm l with
  | true =>
    rw [hk] at e e'
    have hb := isNm_iff hk
    obtain ⟨K1, e1⟩ := specPassed_ev hb.2.2.2 (by omega)
    obtain ⟨K2, e2⟩ := implPassed_ev l (by omega)
    dsimp only at e1 e2
    refine ⟨(passed l l.length, true), ⟨K + K1 + 9, fun n hn => ?_⟩, ⟨K' + K2 + 9, fun n hn => ?_⟩, by simp only [passed_len]; omega⟩
    · simp (disch := omega) only [spec_PassedOn.f, e, e1, Option.bind_some, if_true]
    · simp (disch := omega) only [impl_PassedOn.f, e', e2, Option.bind_some, if_true]
  | false =>
    rw [hk] at e e'
    refine ⟨([], false), ⟨K + 9, fun n hn => ?_⟩, ⟨K' + 9, fun n hn => ?_⟩, by simp⟩
    · simp (disch := omega) [spec_PassedOn.f, e]
    · simp (disch := omega) [impl_PassedOn.f, e']
end Go.Proofs.Ytbiiklkkfkipeaa.X
