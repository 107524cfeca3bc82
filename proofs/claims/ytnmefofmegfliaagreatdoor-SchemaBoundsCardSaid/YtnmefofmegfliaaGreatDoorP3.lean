/- Calls of the program's functions, each evaluated by the kernel: no condition. -/
import Derived.Test.YtnmefofmegfliaaGreatDoorT0
set_option linter.unusedVariables false
set_option linter.unusedSimpArgs false
set_option linter.unusedSectionVars false
set_option maxRecDepth 100000
namespace Go.L.Ev
open Go Go.RowKit Go.Proofs
theorem ask3_6 : askP 3 6 = true := by decide +kernel
theorem ask3_7 : askP 3 7 = true := by decide +kernel
theorem ask3_8 : askP 3 8 = true := by decide +kernel
theorem ask3_9 : askP 3 9 = true := by decide +kernel
theorem ask3_10 : askP 3 10 = true := by decide +kernel
theorem ask3_11 : askP 3 11 = true := by decide +kernel
theorem ask3_12 : askP 3 12 = true := by decide +kernel
theorem ask3_13 : askP 3 13 = true := by decide +kernel
theorem ask3_14 : askP 3 14 = true := by decide +kernel
theorem ask3_15 : askP 3 15 = true := by decide +kernel
theorem ask3_16 : askP 3 16 = true := by decide +kernel
theorem ask3_17 : askP 3 17 = true := by decide +kernel
theorem ask3_18 : askP 3 18 = true := by decide +kernel
theorem ask3_19 : askP 3 19 = true := by decide +kernel
theorem ask3_20 : askP 3 20 = true := by decide +kernel
theorem ask3_21 : askP 3 21 = true := by decide +kernel
theorem ask3_22 : askP 3 22 = true := by decide +kernel
theorem ask3_23 : askP 3 23 = true := by decide +kernel
theorem ask3_24 : askP 3 24 = true := by decide +kernel
theorem ask3_25 : askP 3 25 = true := by decide +kernel
theorem ask3_26 : askP 3 26 = true := by decide +kernel
theorem ask3_27 : askP 3 27 = true := by decide +kernel
theorem ask3_28 : askP 3 28 = true := by decide +kernel
end Go.L.Ev
