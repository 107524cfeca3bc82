/- Calls of the program's functions, each evaluated by the kernel: no condition. -/
import Derived.Test.YtjfkcglgdpjkmaaGreatDoorS0
set_option linter.unusedVariables false
set_option linter.unusedSimpArgs false
set_option maxRecDepth 100000
namespace Go.L.Ev
open Go Go.RowKit Go.Proofs
theorem s3_fits : s3.fits = true := by decide +kernel
theorem s3_check : s3.check (run ty0 fu0 w3 1000) = true := by decide +kernel
end Go.L.Ev
