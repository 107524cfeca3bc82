/- Calls of the program's functions, each evaluated by the kernel: no condition. -/
import Derived.Test.YtjfkcglgdpjkmaaGreatDoorS0
set_option linter.unusedVariables false
set_option linter.unusedSimpArgs false
set_option maxRecDepth 100000
namespace Go.L.Ev
open Go Go.RowKit Go.Proofs
theorem s4_fits : s4.fits = true := by decide +kernel
theorem s4_check : s4.check (run ty0 fu0 w4 1000) = true := by decide +kernel
end Go.L.Ev
set_option maxRecDepth 100000
namespace Go.L.Ev
open Go Go.RowKit Go.Proofs
theorem s5_fits : s5.fits = true := by decide +kernel
theorem s5_check : s5.check (run ty0 fu0 w5 1000) = true := by decide +kernel
end Go.L.Ev
set_option maxRecDepth 100000
namespace Go.L.Ev
open Go Go.RowKit Go.Proofs
theorem s6_fits : s6.fits = true := by decide +kernel
theorem s6_check : s6.check (run ty0 fu0 w6 1000) = true := by decide +kernel
end Go.L.Ev
set_option maxRecDepth 100000
namespace Go.L.Ev
open Go Go.RowKit Go.Proofs
theorem s7_fits : s7.fits = true := by decide +kernel
theorem s7_check : s7.check (run ty0 fu0 w7 1000) = true := by decide +kernel
end Go.L.Ev
set_option maxRecDepth 100000
namespace Go.L.Ev
open Go Go.RowKit Go.Proofs
theorem s8_fits : s8.fits = true := by decide +kernel
theorem s8_check : s8.check (run ty0 fu0 w8 1000) = true := by decide +kernel
end Go.L.Ev
