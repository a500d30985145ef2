/- AreStates: the program and the reference come to the same. -/
import Derived.Test.YtjfjpfgnclnehaaPlStates
import Derived.Test.YtjfjpfgnclnehaaX2
import Derived.Test.YtjfjpfgnclnehaaX3
namespace Go.Proofs.Ytjfjpfgnclnehaa.X
set_option linter.unusedSimpArgs false
set_option linter.unusedVariables false
open Go.RowKit Go.Proofs.YtjfjpfgnclnehaaW.PrintWords
theorem AreStates_same (l : List Int) (k : Int) (h : (l.length ≤ maxLen ∧ l.length * 8 ≤ 140737488351232 ∧ (∀ x ∈ l, (Lit.int .i64 x).wf = true) ∧ (Lit.int .i64 k).wf = true ∧ l.length ≤ 1048576)) :
    ∃ v, Ev (fun n => spec_AreStates.f n l k) v ∧ impl_AreStates.f l k = some v := by
  obtain ⟨K, e⟩ := specStates_ev l k (by omega)
  dsimp only at e
  cases hk : inB 2 9 k with
  | true =>
    refine ⟨(isSt l k, true), ⟨K + 9, fun n hn => ?_⟩, ?_⟩
    · simp (disch := omega) only [spec_AreStates.f, spec_elK.f, l1In_eq, hk, e, Option.bind_some, if_true]
    · simp only [impl_AreStates.f, impl_isModulus.f, within_eq, hk, implStates_eq, Option.bind_some, if_true]
  | false =>
    refine ⟨(false, false), ⟨9, fun n hn => ?_⟩, ?_⟩
    · simp [spec_AreStates.f, spec_elK.f, l1In_eq, hk]
    · simp [impl_AreStates.f, impl_isModulus.f, within_eq, hk]
end Go.Proofs.Ytjfjpfgnclnehaa.X
