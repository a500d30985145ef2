/- WorstNames: the answers at 2 to 6 stations, computed by the kernel. -/
import Derived.Test.YtbiiklkkfkipeaaPlAll
import Derived.Test.YtbiiklkkfkipeaaX28
namespace Go.Proofs.Ytbiiklkkfkipeaa.X
set_option linter.unusedSimpArgs false
set_option linter.unusedVariables false
open Go.RowKit Go.Proofs.YtbiiklkkfkipeaaW.PrintWords
set_option maxRecDepth 100000
/-- A function that tells once tells from there on. -/
theorem ev_mono {α : Type} {g : Nat → Option α} {r : α} (K : Nat) (h : g K = some r) (hm : ∀ k, LeO (g k) (g (k + 1))) : Ev g r := by
  refine ⟨K, fun n hn => ?_⟩
  induction n with
  | zero => obtain rfl : K = 0 := by omega
            exact h
  | succ n ih =>
    rcases Nat.lt_or_ge n K with h1 | h1
    · obtain rfl : K = n + 1 := by omega
      exact h
    · exact hm n _ (ih h1)
theorem sWorstNames2 : spec_WorstNames.f 800 2 = some ([0, 1], true) := by decide +kernel
theorem iWorstNames2 : impl_WorstNames.f 100 2 = some ([0, 1], true) := by decide +kernel
theorem sWorstNames3 : spec_WorstNames.f 800 3 = some ([0, 2, 1], true) := by decide +kernel
theorem iWorstNames3 : impl_WorstNames.f 100 3 = some ([0, 2, 1], true) := by decide +kernel
theorem sWorstNames4 : spec_WorstNames.f 800 4 = some ([0, 3, 2, 1], true) := by decide +kernel
theorem iWorstNames4 : impl_WorstNames.f 100 4 = some ([0, 3, 2, 1], true) := by decide +kernel
theorem sWorstNames5 : spec_WorstNames.f 800 5 = some ([0, 4, 3, 2, 1], true) := by decide +kernel
theorem iWorstNames5 : impl_WorstNames.f 100 5 = some ([0, 4, 3, 2, 1], true) := by decide +kernel
theorem sWorstNames6 : spec_WorstNames.f 800 6 = some ([0, 5, 4, 3, 2, 1], true) := by decide +kernel
theorem iWorstNames6 : impl_WorstNames.f 100 6 = some ([0, 5, 4, 3, 2, 1], true) := by decide +kernel
end Go.Proofs.Ytbiiklkkfkipeaa.X
