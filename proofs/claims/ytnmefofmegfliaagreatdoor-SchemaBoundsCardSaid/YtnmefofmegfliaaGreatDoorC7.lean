/- What the law's function reaches, by a table that the kernel compares with the translation: no condition. -/
import Derived.Test.YtnmefofmegfliaaGreatDoorC4
import Derived.Test.YtnmefofmegfliaaGreatDoorT3
import Derived.Test.YtnmefofmegfliaaGreatDoorC5
import Derived.Test.YtnmefofmegfliaaGreatDoorC6
set_option linter.unusedVariables false
set_option linter.unusedSimpArgs false
set_option linter.unusedSectionVars false
namespace Go.Proofs.YtnmefofmegfliaaGreatDoor.SchemaBounds
open Go Go.L Go.RowKit Go.Proofs
set_option maxRecDepth 100000
theorem in_eq : Tryz.prog.inPlace 3 = reachL.filterMap (fun g => (Tryz.prog.funcs[g]?).bind fun fn => if fn.ours || fn.body.isNone then some fn.name else none) := by
  unfold Program.inPlace
  rw [reach_eq]
  congr 1
  funext g
  cases hg : Tryz.prog.funcs[g]? with
  | none => rfl
  | some fn =>
    have hn : (fn.name == "runtime.NumGoroutine") = false := (@Go.L.Ev.pg Go.L.Ev.ext0).nmOk g fn hg
    simp only [Option.bind_some, hn, Bool.or_false]
theorem jf9 : (Rows.schemaBoundsRow.inPlace == Tryz.pinned.checked.prog.inPlace 3) = true := by
  rw [show Tryz.pinned.checked.prog.inPlace 3 = _ from in_eq]
  kernel_rfl
theorem unf_eq : Tryz.prog.unfollowed 3 = true := by
  unfold Program.unfollowed
  rw [reach_eq]
  kernel_rfl
theorem jf10 : (Rows.schemaBoundsRow.unfollowed == Tryz.pinned.checked.prog.unfollowed 3) = true := by
  rw [show Tryz.pinned.checked.prog.unfollowed 3 = true from unf_eq]
  kernel_rfl
theorem rec_eq : Tryz.prog.recurses 3 = true := by
  unfold Program.recurses
  rw [unf_eq]
  rfl
theorem jf11 : (Rows.schemaBoundsRow.recurses == Tryz.pinned.checked.prog.recurses 3) = true := by
  rw [show Tryz.pinned.checked.prog.recurses 3 = true from rec_eq]
  kernel_rfl
theorem reach_chunks : reachL = chunk0 ++ chunk1 ++ chunk2 ++ chunk3 := by kernel_rfl
theorem vars_eq : Tryz.prog.varsNamed 3 = ((([1, 1, 1, 0, 2, 3, 6, 7, 4, 5] : List Nat).eraseDups).filterMap (fun g => (Tryz.prog.globals[g]?).map (·.name)) ++
    reachL.filterMap fun g => (Tryz.prog.funcs[g]?).bind fun fn => if fn.body.isNone then entryReads.lookup fn.name else none).eraseDups := by
  have h : (reachL.flatMap fun g => ((Tryz.prog.funcs[g]?).bind (·.body)).elim [] Code.globalsNamed) = [1, 1, 1, 0, 2, 3, 6, 7, 4, 5] := by
    rw [reach_chunks]
    simp only [List.flatMap_append, cg0, cg1, cg2, cg3]
    rfl
  unfold Program.varsNamed
  rw [reach_eq, h]
theorem jf12 : (Rows.schemaBoundsRow.named == Tryz.pinned.checked.prog.varsNamed 3) = true := by
  rw [show Tryz.pinned.checked.prog.varsNamed 3 = _ from vars_eq]
  kernel_rfl
end Go.Proofs.YtnmefofmegfliaaGreatDoor.SchemaBounds
