/- Closed facts of the row, by the kernel: no condition. -/
import Derived.Test.YtnmefofmegfliaaGreatDoorRows
import Derived.Test.YtnmefofmegfliaaGreatDoorA2
set_option linter.unusedVariables false
set_option linter.unusedSimpArgs false
set_option linter.unusedSectionVars false
namespace Go.Proofs.YtnmefofmegfliaaGreatDoor.SchemaBounds
open Go Go.L Go.RowKit Go.Proofs Go.ChangeShapes Go.WideShapes Go.ChangeAt
set_option maxRecDepth 100000
theorem lr_nt : Tryz.prog.types.size = 681 := by kernel_rfl
theorem lr_g : Tryz.prog.globals.all (fun g => decide (g.type < Tryz.prog.types.size)) = true := by kernel_rfl
theorem lr_f : Tryz.prog.funcs.all (fun f => f.params.all fun t => decide (t < Tryz.prog.types.size)) = true := by kernel_rfl
end Go.Proofs.YtnmefofmegfliaaGreatDoor.SchemaBounds
