/- What the law's function reaches, by a table that the kernel compares with the translation: no condition. -/
import Derived.Test.YtnmefofmegfliaaGreatDoorC0
set_option linter.unusedVariables false
set_option linter.unusedSimpArgs false
set_option linter.unusedSectionVars false
namespace Go.Proofs.YtnmefofmegfliaaGreatDoor.SchemaBounds
open Go Go.L Go.RowKit Go.Proofs
set_option maxRecDepth 100000
theorem cl3 : leadsB Tryz.prog leadsL 570 165 = true := by kernel_rfl
end Go.Proofs.YtnmefofmegfliaaGreatDoor.SchemaBounds
