/- HoldersOf, IsOneToken: the program and the reference come to the same. -/
import Derived.Test.YtjfjpfgnclnehaaPlHolders
import Derived.Test.YtjfjpfgnclnehaaX12
namespace Go.Proofs.Ytjfjpfgnclnehaa.X
set_option linter.unusedSimpArgs false
set_option linter.unusedVariables false
open Go.RowKit Go.Proofs.YtjfjpfgnclnehaaW.PrintWords
theorem HoldersOf_same (l : List Int) (k : Int) (h : (l.length ≤ maxLen ∧ l.length * 8 ≤ 140737488351232 ∧ (∀ x ∈ l, (Lit.int .i64 x).wf = true) ∧ (Lit.int .i64 k).wf = true ∧ l.length ≤ 1048576)) :
    ∃ v, Ev (fun n => spec_HoldersOf.f n l k) v ∧ Ev (fun n => impl_HoldersOf.f n l k) v ∧ v.1.length ≤ 1000000 := by
  obtain ⟨K, e⟩ := specStates_ev l k (by omega)
  dsimp only at e
  cases hk : isSt l k with
  | true =>
    rw [hk] at e
    have hb := isSt_iff hk
    obtain ⟨K1, e1⟩ := specHolders_ev l (by omega)
    obtain ⟨K2, e2⟩ := implHolders_ev l (by omega)
    dsimp only at e1 e2
    refine ⟨(hs l l.length, true), ⟨K + K1 + 9, fun n hn => ?_⟩, ⟨K2 + 9, fun n hn => ?_⟩, by have := hs_len l l.length; simp only; omega⟩
    · simp (disch := omega) only [spec_HoldersOf.f, e, e1, Option.bind_some, if_true]
    · simp (disch := omega) only [impl_HoldersOf.f, implStates_eq, hk, e2, Option.bind_some, if_true]
  | false =>
    rw [hk] at e
    refine ⟨([], false), ⟨K + 9, fun n hn => ?_⟩, ⟨9, fun n hn => ?_⟩, by simp⟩
    · simp (disch := omega) [spec_HoldersOf.f, e]
    · simp [impl_HoldersOf.f, implStates_eq, hk]
end Go.Proofs.Ytjfjpfgnclnehaa.X
