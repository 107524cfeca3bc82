/- Calls of the program's functions, each evaluated by the kernel: no condition. -/
import Derived.Test.YtnmefofmegfliaaGreatDoorT0
set_option linter.unusedVariables false
set_option linter.unusedSimpArgs false
set_option linter.unusedSectionVars false
set_option maxRecDepth 100000
namespace Go.L.Ev
open Go Go.RowKit Go.Proofs
theorem ask0_1 : askP 0 1 = true := by decide +kernel
theorem ask0_2 : askP 0 2 = true := by decide +kernel
theorem ask0_3 : askP 0 3 = true := by decide +kernel
theorem ask0_4 : askP 0 4 = true := by decide +kernel
theorem ask0_5 : askP 0 5 = true := by decide +kernel
theorem ask0_6 : askP 0 6 = true := by decide +kernel
theorem ask0_7 : askP 0 7 = true := by decide +kernel
theorem ask0_8 : askP 0 8 = true := by decide +kernel
theorem ask0_9 : askP 0 9 = true := by decide +kernel
theorem ask0_10 : askP 0 10 = true := by decide +kernel
theorem ask0_11 : askP 0 11 = true := by decide +kernel
theorem ask0_12 : askP 0 12 = true := by decide +kernel
theorem ask0_13 : askP 0 13 = true := by decide +kernel
theorem ask0_14 : askP 0 14 = true := by decide +kernel
theorem ask0_15 : askP 0 15 = true := by decide +kernel
theorem ask0_16 : askP 0 16 = true := by decide +kernel
theorem ask0_17 : askP 0 17 = true := by decide +kernel
theorem ask0_18 : askP 0 18 = true := by decide +kernel
theorem ask0_19 : askP 0 19 = true := by decide +kernel
theorem ask0_20 : askP 0 20 = true := by decide +kernel
theorem ask0_21 : askP 0 21 = true := by decide +kernel
theorem ask0_22 : askP 0 22 = true := by decide +kernel
theorem ask0_23 : askP 0 23 = true := by decide +kernel
theorem ask0_24 : askP 0 24 = true := by decide +kernel
theorem ask0_25 : askP 0 25 = true := by decide +kernel
theorem ask0_26 : askP 0 26 = true := by decide +kernel
theorem ask0_27 : askP 0 27 = true := by decide +kernel
theorem ask0_28 : askP 0 28 = true := by decide +kernel
theorem ask0_29 : askP 0 29 = true := by decide +kernel
theorem ask0_30 : askP 0 30 = true := by decide +kernel
theorem ask0_31 : askP 0 31 = true := by decide +kernel
theorem ask0_32 : askP 0 32 = true := by decide +kernel
theorem ask1_1 : askP 1 1 = true := by decide +kernel
theorem ask1_2 : askP 1 2 = true := by decide +kernel
theorem ask1_3 : askP 1 3 = true := by decide +kernel
theorem ask1_4 : askP 1 4 = true := by decide +kernel
theorem ask1_5 : askP 1 5 = true := by decide +kernel
theorem ask1_6 : askP 1 6 = true := by decide +kernel
theorem ask1_7 : askP 1 7 = true := by decide +kernel
theorem ask1_8 : askP 1 8 = true := by decide +kernel
theorem ask1_9 : askP 1 9 = true := by decide +kernel
theorem ask1_10 : askP 1 10 = true := by decide +kernel
theorem ask1_11 : askP 1 11 = true := by decide +kernel
theorem ask1_12 : askP 1 12 = true := by decide +kernel
theorem ask1_13 : askP 1 13 = true := by decide +kernel
theorem ask1_14 : askP 1 14 = true := by decide +kernel
theorem ask1_15 : askP 1 15 = true := by decide +kernel
theorem ask1_16 : askP 1 16 = true := by decide +kernel
theorem ask1_17 : askP 1 17 = true := by decide +kernel
theorem ask1_18 : askP 1 18 = true := by decide +kernel
theorem ask1_19 : askP 1 19 = true := by decide +kernel
theorem ask1_20 : askP 1 20 = true := by decide +kernel
theorem ask1_21 : askP 1 21 = true := by decide +kernel
theorem ask1_22 : askP 1 22 = true := by decide +kernel
theorem ask1_23 : askP 1 23 = true := by decide +kernel
theorem ask1_24 : askP 1 24 = true := by decide +kernel
theorem ask1_25 : askP 1 25 = true := by decide +kernel
theorem ask1_26 : askP 1 26 = true := by decide +kernel
theorem ask1_27 : askP 1 27 = true := by decide +kernel
theorem ask1_28 : askP 1 28 = true := by decide +kernel
theorem ask1_29 : askP 1 29 = true := by decide +kernel
theorem ask1_30 : askP 1 30 = true := by decide +kernel
theorem ask1_31 : askP 1 31 = true := by decide +kernel
theorem ask1_32 : askP 1 32 = true := by decide +kernel
theorem ask2_1 : askP 2 1 = true := by decide +kernel
theorem ask2_2 : askP 2 2 = true := by decide +kernel
theorem ask2_3 : askP 2 3 = true := by decide +kernel
theorem ask2_4 : askP 2 4 = true := by decide +kernel
theorem ask2_5 : askP 2 5 = true := by decide +kernel
theorem ask2_6 : askP 2 6 = true := by decide +kernel
end Go.L.Ev
