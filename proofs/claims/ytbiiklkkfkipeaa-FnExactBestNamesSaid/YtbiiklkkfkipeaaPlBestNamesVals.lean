/- BestNames: the answers at 2 to 6 stations, computed by the kernel. -/
import Derived.Test.YtbiiklkkfkipeaaPlAll
import Derived.Test.YtbiiklkkfkipeaaX26
import Derived.Test.YtbiiklkkfkipeaaX24
namespace Go.Proofs.Ytbiiklkkfkipeaa.X
set_option linter.unusedSimpArgs false
set_option linter.unusedVariables false
open Go.RowKit Go.Proofs.YtbiiklkkfkipeaaW.PrintWords
set_option maxRecDepth 100000
theorem sBestNames2 : spec_BestNames.f 800 2 = some ([0, 1], true) := by decide +kernel
theorem iBestNames2 : impl_BestNames.f 100 2 = some ([0, 1], true) := by decide +kernel
theorem sBestNames3 : spec_BestNames.f 800 3 = some ([0, 1, 2], true) := by decide +kernel
theorem iBestNames3 : impl_BestNames.f 100 3 = some ([0, 1, 2], true) := by decide +kernel
theorem sBestNames4 : spec_BestNames.f 800 4 = some ([0, 1, 2, 3], true) := by decide +kernel
theorem iBestNames4 : impl_BestNames.f 100 4 = some ([0, 1, 2, 3], true) := by decide +kernel
theorem sBestNames5 : spec_BestNames.f 800 5 = some ([0, 1, 2, 3, 4], true) := by decide +kernel
theorem iBestNames5 : impl_BestNames.f 100 5 = some ([0, 1, 2, 3, 4], true) := by decide +kernel
theorem sBestNames6 : spec_BestNames.f 800 6 = some ([0, 1, 2, 3, 4, 5], true) := by decide +kernel
theorem iBestNames6 : impl_BestNames.f 100 6 = some ([0, 1, 2, 3, 4, 5], true) := by decide +kernel
end Go.Proofs.Ytbiiklkkfkipeaa.X
