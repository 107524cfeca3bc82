/- Calls of the program's functions, each evaluated by the kernel: no condition. -/
import Derived.Test.YtnmefofmegfliaaGreatDoorT0
set_option linter.unusedVariables false
set_option linter.unusedSimpArgs false
set_option linter.unusedSectionVars false
set_option maxRecDepth 100000
namespace Go.L.Ev
open Go Go.RowKit Go.Proofs
theorem ask4_20 : askP 4 20 = true := by decide +kernel
theorem ask4_21 : askP 4 21 = true := by decide +kernel
theorem ask4_22 : askP 4 22 = true := by decide +kernel
theorem ask4_23 : askP 4 23 = true := by decide +kernel
theorem ask4_24 : askP 4 24 = true := by decide +kernel
theorem ask4_25 : askP 4 25 = true := by decide +kernel
theorem ask4_26 : askP 4 26 = true := by decide +kernel
theorem ask4_27 : askP 4 27 = true := by decide +kernel
theorem ask4_28 : askP 4 28 = true := by decide +kernel
theorem ask4_29 : askP 4 29 = true := by decide +kernel
theorem ask4_30 : askP 4 30 = true := by decide +kernel
theorem ask4_31 : askP 4 31 = true := by decide +kernel
theorem ask4_32 : askP 4 32 = true := by decide +kernel
end Go.L.Ev
