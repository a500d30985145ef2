/- WorstNames: the program and the reference come to the same. -/
import Derived.Test.YtbiiklkkfkipeaaPlWorstNamesVals
namespace Go.Proofs.Ytbiiklkkfkipeaa.X
set_option linter.unusedSimpArgs false
set_option linter.unusedVariables false
open Go.RowKit Go.Proofs.YtbiiklkkfkipeaaW.PrintWords
theorem WorstNames_same (a : Int) (h : (Lit.int .i64 a).wf = true ∧ True) :
    ∃ v, Ev (fun k => spec_WorstNames.f k a) v ∧ Ev (fun k => impl_WorstNames.f k a) v ∧ v.1.length ≤ 1000000 := by
  by_cases h : inB 2 6 a = true
  · have := inB_iff.1 h
    rcases (by omega : a = 2 ∨ a = 3 ∨ a = 4 ∨ a = 5 ∨ a = 6) with rfl | rfl | rfl | rfl | rfl
    · exact ⟨_, ev_mono 800 sWorstNames2 (spec_WorstNames.mono _), ev_mono 100 iWorstNames2 (impl_WorstNames.mono _), by simp⟩
    · exact ⟨_, ev_mono 800 sWorstNames3 (spec_WorstNames.mono _), ev_mono 100 iWorstNames3 (impl_WorstNames.mono _), by simp⟩
    · exact ⟨_, ev_mono 800 sWorstNames4 (spec_WorstNames.mono _), ev_mono 100 iWorstNames4 (impl_WorstNames.mono _), by simp⟩
    · exact ⟨_, ev_mono 800 sWorstNames5 (spec_WorstNames.mono _), ev_mono 100 iWorstNames5 (impl_WorstNames.mono _), by simp⟩
    · exact ⟨_, ev_mono 800 sWorstNames6 (spec_WorstNames.mono _), ev_mono 100 iWorstNames6 (impl_WorstNames.mono _), by simp⟩
  · exact ⟨([], false), ⟨9, fun n hn => by simp [spec_WorstNames.f, l1In_eq, h]⟩, ⟨9, fun n hn => by simp [impl_WorstNames.f, impl_bestNames.f, within_eq, h]⟩, by simp⟩
end Go.Proofs.Ytbiiklkkfkipeaa.X
