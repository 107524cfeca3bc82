/- Closed facts of the row, by the kernel: no condition. -/
import Derived.Test.YtnmefofmegfliaaGreatDoorRows
import Derived.Test.YtnmefofmegfliaaGreatDoorA2
import Derived.Lib.LaidTab
set_option linter.unusedVariables false
set_option linter.unusedSimpArgs false
set_option linter.unusedSectionVars false
namespace Go.Proofs.YtnmefofmegfliaaGreatDoor.SchemaBounds
open Go Go.L Go.RowKit Go.Proofs Go.ChangeShapes Go.WideShapes Go.ChangeAt
set_option maxRecDepth 100000
theorem own : ownKnob Tryz.prog.godebug = none := by kernel_rfl
theorem q_init : Tryz.checked.prog.inits.idxOf? 3 = none := by kernel_rfl
theorem q_named : Tryz.pinned.checked.prog.funcNamed Rows.schemaBoundsRow.func = some 3 := by kernel_rfl
theorem q_inst : Func.isInstance Tryz.pinned.checked.prog Tryz.f3 Rows.schemaBoundsRow.origin Rows.schemaBoundsRow.targs := of_decide_eq_true (by kernel_rfl)
theorem q_wrap : Func.isWrapper Tryz.pinned.checked.prog Tryz.f3 Rows.schemaBoundsRow.wrapper Rows.schemaBoundsRow.mainSum := by unfold Func.isWrapper; first | (rw [if_pos (by decide +kernel)]; kernel_rfl) | (rw [if_neg (by decide +kernel)]; exact ⟨rfl, rfl⟩)
end Go.Proofs.YtnmefofmegfliaaGreatDoor.SchemaBounds
