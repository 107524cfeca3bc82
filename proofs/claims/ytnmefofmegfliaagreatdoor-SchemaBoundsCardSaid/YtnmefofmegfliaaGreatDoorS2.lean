/- Calls of the program's functions, each evaluated by the kernel: no condition. -/
import Derived.Test.YtnmefofmegfliaaGreatDoorS0
set_option linter.unusedVariables false
set_option linter.unusedSimpArgs false
set_option linter.unusedSectionVars false
set_option maxRecDepth 100000
namespace Go.L.Ev
open Go Go.RowKit Go.Proofs
theorem s7_fits : s7.fits = true := by decide +kernel
theorem s7_check : s7.check (run ty0 fu0 w7 1000) = true := by decide +kernel
end Go.L.Ev
set_option maxRecDepth 100000
namespace Go.L.Ev
open Go Go.RowKit Go.Proofs
theorem s8_fits : s8.fits = true := by decide +kernel
theorem s8_check : s8.check (run ty0 fu0 w8 1000) = true := by decide +kernel
end Go.L.Ev
set_option maxRecDepth 100000
namespace Go.L.Ev
open Go Go.RowKit Go.Proofs
theorem s9_fits : s9.fits = true := by decide +kernel
theorem s9_check : s9.check (run ty0 fu0 w9 1000) = true := by decide +kernel
end Go.L.Ev
set_option maxRecDepth 100000
namespace Go.L.Ev
open Go Go.RowKit Go.Proofs
theorem s10_fits : s10.fits = true := by decide +kernel
theorem s10_check : s10.check (run ty0 fu0 w10 1000) = true := by decide +kernel
end Go.L.Ev
set_option maxRecDepth 100000
namespace Go.L.Ev
open Go Go.RowKit Go.Proofs
theorem s11_fits : s11.fits = true := by decide +kernel
theorem s11_check : s11.check (run ty0 fu0 w11 1000) = true := by decide +kernel
end Go.L.Ev
set_option maxRecDepth 100000
namespace Go.L.Ev
open Go Go.RowKit Go.Proofs
theorem s12_fits : s12.fits = true := by decide +kernel
theorem s12_check : s12.check (run ty0 fu0 w12 1000) = true := by decide +kernel
end Go.L.Ev
set_option maxRecDepth 100000
namespace Go.L.Ev
open Go Go.RowKit Go.Proofs
theorem main_eval : run ty0 fu0 wM 1000 false 4 [] ⟨0, .lf⟩ (fun r _ => rvEq r (.bool true)) (fun _ _ => false) = true := by decide +kernel
end Go.L.Ev
