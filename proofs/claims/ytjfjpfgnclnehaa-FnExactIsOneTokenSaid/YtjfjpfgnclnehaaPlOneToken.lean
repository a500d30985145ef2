/- IsOneToken: the program and the reference come to the same. -/
import Derived.Test.YtjfjpfgnclnehaaPlHolders
import Derived.Test.YtjfjpfgnclnehaaX7
import Derived.Test.YtjfjpfgnclnehaaX8
namespace Go.Proofs.Ytjfjpfgnclnehaa.X
set_option linter.unusedSimpArgs false
set_option linter.unusedVariables false
open Go.RowKit Go.Proofs.YtjfjpfgnclnehaaW.PrintWords
theorem IsOneToken_same (l : List Int) (k : Int) (h : (l.length ≤ maxLen ∧ l.length * 8 ≤ 140737488351232 ∧ (∀ x ∈ l, (Lit.int .i64 x).wf = true) ∧ (Lit.int .i64 k).wf = true ∧ l.length ≤ 1048576)) :
    ∃ v, Ev (fun n => spec_IsOneToken.f n l k) v ∧ Ev (fun n => impl_IsOneToken.f n l k) v := by
  obtain ⟨K, e⟩ := specStates_ev l k (by omega)
  dsimp only at e
  cases hk : isSt l k with
  | true =>
    rw [hk] at e
    have hb := isSt_iff hk
    obtain ⟨K1, e1⟩ := specHolders_ev l (by omega)
    obtain ⟨K2, e2⟩ := implHolders_ev l (by omega)
    dsimp only at e1 e2
    refine ⟨(((hs l l.length).length : Int) == 1, true), ⟨K + K1 + 9, fun n hn => ?_⟩, ⟨K2 + 9, fun n hn => ?_⟩⟩
    · simp (disch := omega) only [spec_IsOneToken.f, e, e1, Option.bind_some, if_true]
    · simp (disch := omega) only [impl_IsOneToken.f, implStates_eq, hk, e2, Option.bind_some, if_true]
  | false =>
    rw [hk] at e
    refine ⟨(false, false), ⟨K + 9, fun n hn => ?_⟩, ⟨9, fun n hn => ?_⟩⟩
    · simp (disch := omega) [spec_IsOneToken.f, e]
    · simp [impl_IsOneToken.f, implStates_eq, hk]
end Go.Proofs.Ytjfjpfgnclnehaa.X
