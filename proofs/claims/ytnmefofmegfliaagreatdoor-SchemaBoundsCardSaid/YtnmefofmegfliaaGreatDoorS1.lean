/- Calls of the program's functions, each evaluated by the kernel: no condition. -/
import Derived.Test.YtnmefofmegfliaaGreatDoorS0
set_option linter.unusedVariables false
set_option linter.unusedSimpArgs false
set_option linter.unusedSectionVars false
set_option maxRecDepth 100000
namespace Go.L.Ev
open Go Go.RowKit Go.Proofs
theorem s0_fits : s0.fits = true := by decide +kernel
theorem s0_check : s0.check (run ty0 fu0 w0 1000) = true := by decide +kernel
end Go.L.Ev
set_option maxRecDepth 100000
namespace Go.L.Ev
open Go Go.RowKit Go.Proofs
theorem s1_fits : s1.fits = true := by decide +kernel
theorem s1_check : s1.check (run ty0 fu0 w1 1000) = true := by decide +kernel
end Go.L.Ev
set_option maxRecDepth 100000
namespace Go.L.Ev
open Go Go.RowKit Go.Proofs
theorem s2_fits : s2.fits = true := by decide +kernel
theorem s2_check : s2.check (run ty0 fu0 w2 1000) = true := by decide +kernel
end Go.L.Ev
set_option maxRecDepth 100000
namespace Go.L.Ev
open Go Go.RowKit Go.Proofs
theorem s3_fits : s3.fits = true := by decide +kernel
theorem s3_check : s3.check (run ty0 fu0 w3 1000) = true := by decide +kernel
end Go.L.Ev
set_option maxRecDepth 100000
namespace Go.L.Ev
open Go Go.RowKit Go.Proofs
theorem s4_fits : s4.fits = true := by decide +kernel
theorem s4_check : s4.check (run ty0 fu0 w4 1000) = true := by decide +kernel
end Go.L.Ev
set_option maxRecDepth 100000
namespace Go.L.Ev
open Go Go.RowKit Go.Proofs
theorem s5_fits : s5.fits = true := by decide +kernel
theorem s5_check : s5.check (run ty0 fu0 w5 1000) = true := by decide +kernel
end Go.L.Ev
set_option maxRecDepth 100000
namespace Go.L.Ev
open Go Go.RowKit Go.Proofs
theorem s6_fits : s6.fits = true := by decide +kernel
theorem s6_check : s6.check (run ty0 fu0 w6 1000) = true := by decide +kernel
end Go.L.Ev
