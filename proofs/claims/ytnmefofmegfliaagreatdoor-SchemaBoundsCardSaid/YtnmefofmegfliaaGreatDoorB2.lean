/- Calls of the program's functions, each evaluated by the kernel: no condition. -/
import Derived.Test.YtnmefofmegfliaaGreatDoorT0
set_option linter.unusedVariables false
set_option linter.unusedSimpArgs false
set_option linter.unusedSectionVars false
set_option maxRecDepth 100000
namespace Go.L.Ev
open Go Go.RowKit Go.Proofs
theorem chk1 : chkP 1 = true := by decide +kernel
theorem clo1 : cloP 1 = true := by decide +kernel
theorem new1 : newP 1 = true := by decide +kernel
theorem chk2 : chkP 2 = true := by decide +kernel
theorem clo2 : cloP 2 = true := by decide +kernel
theorem new2 : newP 2 = true := by decide +kernel
theorem chk3 : chkP 3 = true := by decide +kernel
theorem clo3 : cloP 3 = true := by decide +kernel
theorem new3 : newP 3 = true := by decide +kernel
theorem chk4 : chkP 4 = true := by decide +kernel
theorem clo4 : cloP 4 = true := by decide +kernel
theorem new4 : newP 4 = true := by decide +kernel
theorem chk5 : chkP 5 = true := by decide +kernel
theorem clo5 : cloP 5 = true := by decide +kernel
theorem new5 : newP 5 = true := by decide +kernel
theorem chk6 : chkP 6 = true := by decide +kernel
theorem clo6 : cloP 6 = true := by decide +kernel
theorem new6 : newP 6 = true := by decide +kernel
theorem chk7 : chkP 7 = true := by decide +kernel
theorem clo7 : cloP 7 = true := by decide +kernel
theorem new7 : newP 7 = true := by decide +kernel
theorem chk8 : chkP 8 = true := by decide +kernel
theorem clo8 : cloP 8 = true := by decide +kernel
theorem new8 : newP 8 = true := by decide +kernel
theorem chk9 : chkP 9 = true := by decide +kernel
theorem clo9 : cloP 9 = true := by decide +kernel
theorem new9 : newP 9 = true := by decide +kernel
theorem chk10 : chkP 10 = true := by decide +kernel
theorem clo10 : cloP 10 = true := by decide +kernel
theorem new10 : newP 10 = true := by decide +kernel
theorem chk11 : chkP 11 = true := by decide +kernel
theorem clo11 : cloP 11 = true := by decide +kernel
theorem new11 : newP 11 = true := by decide +kernel
theorem chk12 : chkP 12 = true := by decide +kernel
theorem clo12 : cloP 12 = true := by decide +kernel
theorem new12 : newP 12 = true := by decide +kernel
theorem chk13 : chkP 13 = true := by decide +kernel
theorem clo13 : cloP 13 = true := by decide +kernel
theorem new13 : newP 13 = true := by decide +kernel
theorem chk14 : chkP 14 = true := by decide +kernel
theorem clo14 : cloP 14 = true := by decide +kernel
theorem new14 : newP 14 = true := by decide +kernel
theorem chk15 : chkP 15 = true := by decide +kernel
theorem clo15 : cloP 15 = true := by decide +kernel
theorem new15 : newP 15 = true := by decide +kernel
theorem chk16 : chkP 16 = true := by decide +kernel
theorem clo16 : cloP 16 = true := by decide +kernel
theorem new16 : newP 16 = true := by decide +kernel
end Go.L.Ev
set_option maxRecDepth 100000
namespace Go.L.Ev
open Go Go.RowKit Go.Proofs
theorem chk17 : chkP 17 = true := by decide +kernel
theorem clo17 : cloP 17 = true := by decide +kernel
theorem new17 : newP 17 = true := by decide +kernel
theorem chk18 : chkP 18 = true := by decide +kernel
theorem clo18 : cloP 18 = true := by decide +kernel
theorem new18 : newP 18 = true := by decide +kernel
theorem chk19 : chkP 19 = true := by decide +kernel
theorem clo19 : cloP 19 = true := by decide +kernel
theorem new19 : newP 19 = true := by decide +kernel
theorem chk20 : chkP 20 = true := by decide +kernel
theorem clo20 : cloP 20 = true := by decide +kernel
theorem new20 : newP 20 = true := by decide +kernel
theorem chk21 : chkP 21 = true := by decide +kernel
theorem clo21 : cloP 21 = true := by decide +kernel
theorem new21 : newP 21 = true := by decide +kernel
theorem chk22 : chkP 22 = true := by decide +kernel
theorem clo22 : cloP 22 = true := by decide +kernel
theorem new22 : newP 22 = true := by decide +kernel
end Go.L.Ev
