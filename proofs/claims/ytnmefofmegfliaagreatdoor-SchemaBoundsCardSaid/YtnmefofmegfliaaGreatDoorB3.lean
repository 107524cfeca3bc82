/- Calls of the program's functions, each evaluated by the kernel: no condition. -/
import Derived.Test.YtnmefofmegfliaaGreatDoorT0
set_option linter.unusedVariables false
set_option linter.unusedSimpArgs false
set_option linter.unusedSectionVars false
set_option maxRecDepth 100000
namespace Go.L.Ev
open Go Go.RowKit Go.Proofs
theorem chk23 : chkP 23 = true := by decide +kernel
theorem clo23 : cloP 23 = true := by decide +kernel
theorem new23 : newP 23 = true := by decide +kernel
theorem chk24 : chkP 24 = true := by decide +kernel
theorem clo24 : cloP 24 = true := by decide +kernel
theorem new24 : newP 24 = true := by decide +kernel
theorem chk25 : chkP 25 = true := by decide +kernel
theorem clo25 : cloP 25 = true := by decide +kernel
theorem new25 : newP 25 = true := by decide +kernel
theorem chk26 : chkP 26 = true := by decide +kernel
theorem clo26 : cloP 26 = true := by decide +kernel
theorem new26 : newP 26 = true := by decide +kernel
theorem chk27 : chkP 27 = true := by decide +kernel
theorem clo27 : cloP 27 = true := by decide +kernel
theorem new27 : newP 27 = true := by decide +kernel
end Go.L.Ev
set_option maxRecDepth 100000
namespace Go.L.Ev
open Go Go.RowKit Go.Proofs
theorem chk28 : chkP 28 = true := by decide +kernel
theorem clo28 : cloP 28 = true := by decide +kernel
theorem new28 : newP 28 = true := by decide +kernel
theorem chk29 : chkP 29 = true := by decide +kernel
theorem clo29 : cloP 29 = true := by decide +kernel
theorem new29 : newP 29 = true := by decide +kernel
theorem chk30 : chkP 30 = true := by decide +kernel
theorem clo30 : cloP 30 = true := by decide +kernel
theorem new30 : newP 30 = true := by decide +kernel
theorem chk31 : chkP 31 = true := by decide +kernel
theorem clo31 : cloP 31 = true := by decide +kernel
theorem new31 : newP 31 = true := by decide +kernel
theorem chk32 : chkP 32 = true := by decide +kernel
theorem clo32 : cloP 32 = true := by decide +kernel
theorem new32 : newP 32 = true := by decide +kernel
end Go.L.Ev
