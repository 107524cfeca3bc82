/- Calls of the program's functions, each evaluated by the kernel: no condition. -/
import Derived.Test.YtnmefofmegfliaaGreatDoorT0
set_option linter.unusedVariables false
set_option linter.unusedSimpArgs false
set_option linter.unusedSectionVars false
set_option maxRecDepth 100000
namespace Go.L.Ev
open Go Go.RowKit Go.Proofs
theorem nm116_0 : nmsP 116 0 10 = true := by decide +kernel
theorem nm116_10 : nmsP 116 10 10 = true := by decide +kernel
theorem nm116_20 : nmsP 116 20 10 = true := by decide +kernel
theorem nm116_30 : nmsP 116 30 10 = true := by decide +kernel
theorem nm116_40 : nmsP 116 40 10 = true := by decide +kernel
theorem nm116_50 : nmsP 116 50 10 = true := by decide +kernel
theorem nm116_60 : nmsP 116 60 10 = true := by decide +kernel
theorem nm99_0 : nmsP 99 0 10 = true := by decide +kernel
theorem nm99_10 : nmsP 99 10 10 = true := by decide +kernel
theorem nm99_20 : nmsP 99 20 10 = true := by decide +kernel
theorem nm99_30 : nmsP 99 30 2 = true := by decide +kernel
end Go.L.Ev
set_option maxRecDepth 100000
namespace Go.L.Ev
open Go Go.RowKit Go.Proofs
theorem qS0_fits : (qS 0 104).fits = true := by decide +kernel
theorem qS0_check : (qS 0 104).check (run ty0 fu0 ov0 1000) = true := by decide +kernel
theorem qS1_fits : (qS 1 204).fits = true := by decide +kernel
theorem qS1_check : (qS 1 204).check (run ty0 fu0 ov0 1000) = true := by decide +kernel
theorem qS2_fits : (qS 2 304).fits = true := by decide +kernel
theorem qS2_check : (qS 2 304).check (run ty0 fu0 ov0 1000) = true := by decide +kernel
theorem qS3_fits : (qS 3 404).fits = true := by decide +kernel
theorem qS3_check : (qS 3 404).check (run ty0 fu0 ov0 1000) = true := by decide +kernel
theorem qS4_fits : (qS 4 504).fits = true := by decide +kernel
theorem qS4_check : (qS 4 504).check (run ty0 fu0 ov0 1000) = true := by decide +kernel
end Go.L.Ev
