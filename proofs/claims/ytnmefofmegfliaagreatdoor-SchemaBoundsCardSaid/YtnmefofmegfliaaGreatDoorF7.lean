/- Closed facts of the row, by the kernel: no condition. -/
import Derived.Test.YtnmefofmegfliaaGreatDoorR1
import Derived.Test.YtnmefofmegfliaaGreatDoorR2
import Derived.Test.YtnmefofmegfliaaGreatDoorR3
import Derived.Test.YtnmefofmegfliaaGreatDoorRows
import Derived.Test.YtnmefofmegfliaaGreatDoorA2
import Derived.Test.YtnmefofmegfliaaGreatDoorF0
import Derived.Test.YtnmefofmegfliaaGreatDoorF1
import Derived.Test.YtnmefofmegfliaaGreatDoorF2
import Derived.Test.YtnmefofmegfliaaGreatDoorF3
import Derived.Test.YtnmefofmegfliaaGreatDoorF4
import Derived.Test.YtnmefofmegfliaaGreatDoorF5
import Derived.Test.YtnmefofmegfliaaGreatDoorF6
import Derived.Test.YtnmefofmegfliaaGreatDoorC7
set_option linter.unusedVariables false
set_option linter.unusedSimpArgs false
set_option linter.unusedSectionVars false
namespace Go.Proofs.YtnmefofmegfliaaGreatDoor.SchemaBounds
open Go Go.L Go.RowKit Go.Proofs Go.ChangeShapes Go.WideShapes Go.ChangeAt
set_option maxRecDepth 100000
theorem laidOut : laidOutB Tryz.prog = true := by
  unfold laidOutB
  rw [lr_g, lr_f, Bool.and_true, Bool.and_true, lr_nt, List.all_eq_true]
  intro i hi
  have hi : i < 681 := List.mem_range.1 hi
  have hc : (0 ≤ i ∧ i < 175) ∨ (175 ≤ i ∧ i < 350) ∨ (350 ≤ i ∧ i < 525) ∨ (525 ≤ i ∧ i < 681) := by omega
  rcases hc with ⟨h1, h2⟩ | ⟨h1, h2⟩ | ⟨h1, h2⟩ | ⟨h1, h2⟩
  · exact List.all_eq_true.1 lr0 i (List.mem_range'_1.2 ⟨by omega, by omega⟩)
  · exact List.all_eq_true.1 lr1 i (List.mem_range'_1.2 ⟨by omega, by omega⟩)
  · exact List.all_eq_true.1 lr2 i (List.mem_range'_1.2 ⟨by omega, by omega⟩)
  · exact List.all_eq_true.1 lr3 i (List.mem_range'_1.2 ⟨by omega, by omega⟩)
end Go.Proofs.YtnmefofmegfliaaGreatDoor.SchemaBounds
namespace Go.Proofs.YtnmefofmegfliaaGreatDoor.SchemaBounds
open Go Go.L Go.RowKit Go.Proofs Go.ChangeShapes Go.WideShapes Go.ChangeAt
set_option maxRecDepth 100000
theorem and_t {a b : Bool} (h : a = true) (k : b = true) : (a && b) = true := by rw [h, k]; rfl
theorem q_facts : joinedFacts Tryz.pinned.checked.prog 3 Tryz.f3 Rows.schemaBoundsSpec Rows.schemaBoundsRow = true := by
  unfold joinedFacts
  exact (and_t (and_t (and_t (and_t (and_t (and_t (and_t (and_t (and_t (and_t (and_t (and_t (and_t (and_t (and_t (and_t (and_t (and_t (and_t (and_t (and_t (and_t (and_t (and_t (and_t (and_t (and_t (and_t (and_t (and_t (and_t jf0 laidOut) jf2) jf3) jf4) jf5) jf6) jf7) jf8) jf9) jf10) jf11) jf12) jf13) jf14) jf15) jf16) jf17) jf18) jf19) jf20) jf21) jf22) jf23) jf24) jf25) jf26) jf27) jf28) jf29) jf30) jf31)
end Go.Proofs.YtnmefofmegfliaaGreatDoor.SchemaBounds
