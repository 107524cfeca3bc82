/- What the law's function reaches, by a table that the kernel compares with the translation: no condition. -/
import Derived.Test.YtjfkcglgdpjkmaaGreatDoorC0
set_option linter.unusedVariables false
set_option linter.unusedSimpArgs false
namespace Go.Proofs.YtjfkcglgdpjkmaaGreatDoor.SchemaNil
open Go Go.L Go.RowKit Go.Proofs
set_option maxRecDepth 100000
theorem cl3 : leadsB Tryz.prog leadsL 570 183 = true := by kernel_rfl
end Go.Proofs.YtjfkcglgdpjkmaaGreatDoor.SchemaNil
