/- Closed facts of the row, by the kernel: no condition. -/
import Derived.Test.YtnmefofmegfliaaGreatDoorRows
import Derived.Test.YtnmefofmegfliaaGreatDoorA2
set_option linter.unusedVariables false
set_option linter.unusedSimpArgs false
set_option linter.unusedSectionVars false
namespace Go.Proofs.YtnmefofmegfliaaGreatDoor.SchemaBounds
open Go Go.L Go.RowKit Go.Proofs Go.ChangeShapes Go.WideShapes Go.ChangeAt
set_option maxRecDepth 100000
theorem lr0 : (List.range' 0 175).all (rowFine Tryz.prog) = true := by kernel_rfl
end Go.Proofs.YtnmefofmegfliaaGreatDoor.SchemaBounds
namespace Go.Proofs.YtnmefofmegfliaaGreatDoor.SchemaBounds
open Go Go.L Go.RowKit Go.Proofs Go.ChangeShapes Go.WideShapes Go.ChangeAt
set_option maxRecDepth 100000
theorem lr1 : (List.range' 175 175).all (rowFine Tryz.prog) = true := by kernel_rfl
end Go.Proofs.YtnmefofmegfliaaGreatDoor.SchemaBounds
