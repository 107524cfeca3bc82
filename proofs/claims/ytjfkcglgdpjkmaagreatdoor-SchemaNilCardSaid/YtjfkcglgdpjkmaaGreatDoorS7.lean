/- Calls of the program's functions, each evaluated by the kernel: no condition. -/
import Derived.Test.YtjfkcglgdpjkmaaGreatDoorS0
set_option linter.unusedVariables false
set_option linter.unusedSimpArgs false
set_option maxRecDepth 100000
namespace Go.L.Ev
open Go Go.RowKit Go.Proofs
theorem s10_fits : s10.fits = true := by decide +kernel
theorem s10_check : s10.check (run ty0 fu0 w10 1000) = true := by decide +kernel
end Go.L.Ev
