/- Closed facts of the row, by the kernel: no condition. -/
import Derived.Test.YtjfkcglgdpjkmaaGreatDoorRows
import Derived.Test.YtjfkcglgdpjkmaaGreatDoorA2
set_option linter.unusedVariables false
set_option linter.unusedSimpArgs false
namespace Go.Proofs.YtjfkcglgdpjkmaaGreatDoor.SchemaNil
open Go Go.L Go.RowKit Go.Proofs Go.ChangeShapes Go.WideShapes Go.ChangeAt
set_option maxRecDepth 100000
theorem lr_nt : Tryz.prog.types.size = 696 := by kernel_rfl
theorem lr_g : Tryz.prog.globals.all (fun g => decide (g.type < Tryz.prog.types.size)) = true := by kernel_rfl
theorem lr_f : Tryz.prog.funcs.all (fun f => f.params.all fun t => decide (t < Tryz.prog.types.size)) = true := by kernel_rfl
end Go.Proofs.YtjfkcglgdpjkmaaGreatDoor.SchemaNil
