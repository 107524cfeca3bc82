/- Calls of the program's functions, each evaluated by the kernel: no condition. -/
import Derived.Test.YtnmefofmegfliaaGreatDoorT0
set_option linter.unusedVariables false
set_option linter.unusedSimpArgs false
set_option linter.unusedSectionVars false
set_option maxRecDepth 100000
namespace Go.L.Ev
open Go Go.RowKit Go.Proofs
theorem ask2_7 : askP 2 7 = true := by decide +kernel
theorem ask2_8 : askP 2 8 = true := by decide +kernel
theorem ask2_9 : askP 2 9 = true := by decide +kernel
theorem ask2_10 : askP 2 10 = true := by decide +kernel
theorem ask2_11 : askP 2 11 = true := by decide +kernel
theorem ask2_12 : askP 2 12 = true := by decide +kernel
theorem ask2_13 : askP 2 13 = true := by decide +kernel
theorem ask2_14 : askP 2 14 = true := by decide +kernel
theorem ask2_15 : askP 2 15 = true := by decide +kernel
theorem ask2_16 : askP 2 16 = true := by decide +kernel
theorem ask2_17 : askP 2 17 = true := by decide +kernel
theorem ask2_18 : askP 2 18 = true := by decide +kernel
theorem ask2_19 : askP 2 19 = true := by decide +kernel
theorem ask2_20 : askP 2 20 = true := by decide +kernel
theorem ask2_21 : askP 2 21 = true := by decide +kernel
theorem ask2_22 : askP 2 22 = true := by decide +kernel
theorem ask2_23 : askP 2 23 = true := by decide +kernel
theorem ask2_24 : askP 2 24 = true := by decide +kernel
theorem ask2_25 : askP 2 25 = true := by decide +kernel
theorem ask2_26 : askP 2 26 = true := by decide +kernel
theorem ask2_27 : askP 2 27 = true := by decide +kernel
theorem ask2_28 : askP 2 28 = true := by decide +kernel
theorem ask2_29 : askP 2 29 = true := by decide +kernel
theorem ask2_30 : askP 2 30 = true := by decide +kernel
theorem ask2_31 : askP 2 31 = true := by decide +kernel
theorem ask2_32 : askP 2 32 = true := by decide +kernel
theorem ask3_1 : askP 3 1 = true := by decide +kernel
theorem ask3_2 : askP 3 2 = true := by decide +kernel
theorem ask3_3 : askP 3 3 = true := by decide +kernel
theorem ask3_4 : askP 3 4 = true := by decide +kernel
theorem ask3_5 : askP 3 5 = true := by decide +kernel
end Go.L.Ev
