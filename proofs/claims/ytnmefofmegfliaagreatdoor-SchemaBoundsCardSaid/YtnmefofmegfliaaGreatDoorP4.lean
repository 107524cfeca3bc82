/- Calls of the program's functions, each evaluated by the kernel: no condition. -/
import Derived.Test.YtnmefofmegfliaaGreatDoorT0
set_option linter.unusedVariables false
set_option linter.unusedSimpArgs false
set_option linter.unusedSectionVars false
set_option maxRecDepth 100000
namespace Go.L.Ev
open Go Go.RowKit Go.Proofs
theorem ask3_29 : askP 3 29 = true := by decide +kernel
theorem ask3_30 : askP 3 30 = true := by decide +kernel
theorem ask3_31 : askP 3 31 = true := by decide +kernel
theorem ask3_32 : askP 3 32 = true := by decide +kernel
theorem ask4_1 : askP 4 1 = true := by decide +kernel
theorem ask4_2 : askP 4 2 = true := by decide +kernel
theorem ask4_3 : askP 4 3 = true := by decide +kernel
theorem ask4_4 : askP 4 4 = true := by decide +kernel
theorem ask4_5 : askP 4 5 = true := by decide +kernel
theorem ask4_6 : askP 4 6 = true := by decide +kernel
theorem ask4_7 : askP 4 7 = true := by decide +kernel
theorem ask4_8 : askP 4 8 = true := by decide +kernel
theorem ask4_9 : askP 4 9 = true := by decide +kernel
theorem ask4_10 : askP 4 10 = true := by decide +kernel
theorem ask4_11 : askP 4 11 = true := by decide +kernel
theorem ask4_12 : askP 4 12 = true := by decide +kernel
theorem ask4_13 : askP 4 13 = true := by decide +kernel
theorem ask4_14 : askP 4 14 = true := by decide +kernel
theorem ask4_15 : askP 4 15 = true := by decide +kernel
theorem ask4_16 : askP 4 16 = true := by decide +kernel
theorem ask4_17 : askP 4 17 = true := by decide +kernel
theorem ask4_18 : askP 4 18 = true := by decide +kernel
theorem ask4_19 : askP 4 19 = true := by decide +kernel
end Go.L.Ev
