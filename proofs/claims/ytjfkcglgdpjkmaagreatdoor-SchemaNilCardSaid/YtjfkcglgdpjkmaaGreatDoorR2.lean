/- Closed facts of the row, by the kernel: no condition. -/
import Derived.Test.YtjfkcglgdpjkmaaGreatDoorRows
import Derived.Test.YtjfkcglgdpjkmaaGreatDoorA2
set_option linter.unusedVariables false
set_option linter.unusedSimpArgs false
namespace Go.Proofs.YtjfkcglgdpjkmaaGreatDoor.SchemaNil
open Go Go.L Go.RowKit Go.Proofs Go.ChangeShapes Go.WideShapes Go.ChangeAt
set_option maxRecDepth 100000
theorem lr2 : (List.range' 350 175).all (rowFine Tryz.prog) = true := by kernel_rfl
end Go.Proofs.YtjfkcglgdpjkmaaGreatDoor.SchemaNil
namespace Go.Proofs.YtjfkcglgdpjkmaaGreatDoor.SchemaNil
open Go Go.L Go.RowKit Go.Proofs Go.ChangeShapes Go.WideShapes Go.ChangeAt
set_option maxRecDepth 100000
theorem lr3 : (List.range' 525 171).all (rowFine Tryz.prog) = true := by kernel_rfl
end Go.Proofs.YtjfkcglgdpjkmaaGreatDoor.SchemaNil
