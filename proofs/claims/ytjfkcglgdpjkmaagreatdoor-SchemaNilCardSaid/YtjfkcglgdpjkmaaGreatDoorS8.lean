/- Calls of the program's functions, each evaluated by the kernel: no condition. -/
import Derived.Test.YtjfkcglgdpjkmaaGreatDoorS0
set_option linter.unusedVariables false
set_option linter.unusedSimpArgs false
set_option maxRecDepth 100000
namespace Go.L.Ev
open Go Go.RowKit Go.Proofs
theorem s11_fits : s11.fits = true := by decide +kernel
theorem s11_check : s11.check (run ty0 fu0 w11 1000) = true := by decide +kernel
end Go.L.Ev
set_option maxRecDepth 100000
namespace Go.L.Ev
open Go Go.RowKit Go.Proofs
theorem s12_fits : s12.fits = true := by decide +kernel
theorem s12_check : s12.check (run ty0 fu0 w12 1000) = true := by decide +kernel
end Go.L.Ev
set_option maxRecDepth 100000
namespace Go.L.Ev
open Go Go.RowKit Go.Proofs
theorem main_eval : run ty0 fu0 wM 1000 false 17 [] ⟨0, .lf⟩ (fun r _ => rvEq r (.bool true)) (fun _ _ => false) = true := by decide +kernel
end Go.L.Ev
