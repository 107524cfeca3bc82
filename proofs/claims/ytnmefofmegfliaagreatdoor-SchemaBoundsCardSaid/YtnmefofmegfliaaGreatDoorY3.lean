/- The card's tie, in parts, by the kernel: no condition. -/
import Derived.Test.YtnmefofmegfliaaGreatDoorY1
import Derived.Test.YtnmefofmegfliaaGreatDoorRows
import Derived.LaidOnce
import Derived.SevenTiedAt
set_option linter.unusedVariables false
set_option linter.unusedSimpArgs false
set_option linter.unusedSectionVars false
namespace Go.Proofs.YtnmefofmegfliaaGreatDoor.SchemaBounds
open Go
set_option maxRecDepth 100000
theorem t_hn : varsNamedLaterB Tryz.prog (varsId Tryz.prog) tieL = true := by kernel_rfl
end Go.Proofs.YtnmefofmegfliaaGreatDoor.SchemaBounds
