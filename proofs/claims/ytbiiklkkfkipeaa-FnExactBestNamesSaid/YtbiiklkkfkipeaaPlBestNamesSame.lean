/- BestNames: the program and the reference come to the same. -/
import Derived.Test.YtbiiklkkfkipeaaPlBestNamesVals
import Derived.Test.YtbiiklkkfkipeaaPlWorstNamesVals
namespace Go.Proofs.Ytbiiklkkfkipeaa.X
set_option linter.unusedSimpArgs false
set_option linter.unusedVariables false
open Go.RowKit Go.Proofs.YtbiiklkkfkipeaaW.PrintWords
theorem BestNames_same (a : Int) (h : (Lit.int .i64 a).wf = true ∧ True) :
    ∃ v, Ev (fun k => spec_BestNames.f k a) v ∧ Ev (fun k => impl_BestNames.f k a) v ∧ v.1.length ≤ 1000000 := by
  by_cases h : inB 2 6 a = true
  · have := inB_iff.1 h
    rcases (by omega : a = 2 ∨ a = 3 ∨ a = 4 ∨ a = 5 ∨ a = 6) with rfl | rfl | rfl | rfl | rfl
    · exact ⟨_, ev_mono 800 sBestNames2 (spec_BestNames.mono _), ev_mono 100 iBestNames2 (impl_BestNames.mono _), by simp⟩
    · exact ⟨_, ev_mono 800 sBestNames3 (spec_BestNames.mono _), ev_mono 100 iBestNames3 (impl_BestNames.mono _), by simp⟩
    · exact ⟨_, ev_mono 800 sBestNames4 (spec_BestNames.mono _), ev_mono 100 iBestNames4 (impl_BestNames.mono _), by simp⟩
    · exact ⟨_, ev_mono 800 sBestNames5 (spec_BestNames.mono _), ev_mono 100 iBestNames5 (impl_BestNames.mono _), by simp⟩
    · exact ⟨_, ev_mono 800 sBestNames6 (spec_BestNames.mono _), ev_mono 100 iBestNames6 (impl_BestNames.mono _), by simp⟩
  · exact ⟨([], false), ⟨9, fun n hn => by simp [spec_BestNames.f, l1In_eq, h]⟩, ⟨9, fun n hn => by simp [impl_BestNames.f, impl_bestNames.f, within_eq, h]⟩, by simp⟩
end Go.Proofs.Ytbiiklkkfkipeaa.X
