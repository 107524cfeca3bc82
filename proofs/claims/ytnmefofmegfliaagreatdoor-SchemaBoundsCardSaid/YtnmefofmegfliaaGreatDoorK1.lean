/- The card's closed facts, by the kernel: no condition. -/
import Derived.Test.YtnmefofmegfliaaGreatDoorRows
import Derived.Test.YtnmefofmegfliaaGreatDoorA2
import Derived.SevenTiedAt
set_option linter.unusedVariables false
set_option linter.unusedSimpArgs false
set_option linter.unusedSectionVars false
namespace Go.Proofs.YtnmefofmegfliaaGreatDoor.SchemaBounds
open Go Go.L Go.RowKit Go.Proofs Go.ChangeShapes Go.WideShapes Go.ChangeAt
set_option maxRecDepth 100000
theorem c_main : Tryz.pinned.checked.prog.mainIs = some (true, "2a58cfb2586997796f5db60998e3fa6a9e4d001ab7947b9a58c18c2f05e357a0".toList) := by kernel_rfl
end Go.Proofs.YtnmefofmegfliaaGreatDoor.SchemaBounds
namespace Go.Proofs.YtnmefofmegfliaaGreatDoor.SchemaBounds
open Go Go.L Go.RowKit Go.Proofs Go.ChangeShapes Go.WideShapes Go.ChangeAt
set_option maxRecDepth 100000
theorem c_looks : true = Tryz.pinned.checked.prog.looks [] := by kernel_rfl
end Go.Proofs.YtnmefofmegfliaaGreatDoor.SchemaBounds
namespace Go.Proofs.YtnmefofmegfliaaGreatDoor.SchemaBounds
open Go Go.L Go.RowKit Go.Proofs Go.ChangeShapes Go.WideShapes Go.ChangeAt
set_option maxRecDepth 100000
theorem c_stand : ([3, 3, 3].all fun u => !Tryz.pinned.checked.prog.wantsStandIn u) = true := by kernel_rfl
end Go.Proofs.YtnmefofmegfliaaGreatDoor.SchemaBounds
namespace Go.Proofs.YtnmefofmegfliaaGreatDoor.SchemaBounds
open Go Go.L Go.RowKit Go.Proofs Go.ChangeShapes Go.WideShapes Go.ChangeAt
set_option maxRecDepth 100000
theorem c_wf : Rows.schemaBoundsRow.wfByText (OpenSpec.ofChange Rows.schemaBoundsSpec) = true := by kernel_rfl
end Go.Proofs.YtnmefofmegfliaaGreatDoor.SchemaBounds
namespace Go.Proofs.YtnmefofmegfliaaGreatDoor.SchemaBounds
open Go Go.L Go.RowKit Go.Proofs Go.ChangeShapes Go.WideShapes Go.ChangeAt
set_option maxRecDepth 100000
def goB (P : Program) (k n : Nat) : Bool := (List.range' k n).all fun i => !((P.funcs[i]?).any Func.goes)
theorem goB_at {P : Program} {k n : Nat} (h : goB P k n = true) {i : Nat} (h1 : k ≤ i) (h2 : i < k + n) : (P.funcs[i]?).any Func.goes = false := by
  have := List.all_eq_true.1 h i (List.mem_range'_1.2 ⟨h1, h2⟩)
  simpa using this
theorem goes_no {P : Program} (h : ∀ i, i < P.funcs.size → (P.funcs[i]?).any Func.goes = false) (f : FuncId) : P.goes f = false := by
  have h0 : ∀ i, (P.funcs[i]?).any Func.goes = false := fun i => by
    by_cases hi : i < P.funcs.size
    · exact h i hi
    · rw [Array.getElem?_eq_none (by omega)]; rfl
  have h1 : P.funcs.any Func.goes = false := by
    rw [Array.any_eq_false]
    intro i hi
    have := h i hi
    rw [Array.getElem?_eq_getElem hi] at this
    simpa using this
  unfold Program.goes
  rw [h1, Bool.and_false, Bool.or_false, List.any_eq_false]
  intro g _
  simp [h0 g]
theorem goesBy_no {P : Program} (h : ∀ i, i < P.funcs.size → (P.funcs[i]?).any Func.goes = false) {c : OpenClaim} (hs : c.start = .entering) : false = c.goesBy P := by
  unfold OpenClaim.goesBy Program.goesAt Program.goesFrom
  rw [hs]
  cases P.funcNamed c.func with
  | none => rfl
  | some f => simp [goes_no h]
theorem go0 : goB Tryz.prog 0 190 = true := by kernel_rfl
theorem go1 : goB Tryz.prog 190 190 = true := by kernel_rfl
theorem go2 : goB Tryz.prog 380 190 = true := by kernel_rfl
theorem go3 : goB Tryz.prog 570 165 = true := by kernel_rfl
theorem c_size : Tryz.prog.funcs.size = 735 := by kernel_rfl
theorem go_at (i : Nat) (hi : i < Tryz.prog.funcs.size) : (Tryz.prog.funcs[i]?).any Func.goes = false := by
  rw [c_size] at hi
  have hc : (0 ≤ i ∧ i < 190) ∨ (190 ≤ i ∧ i < 380) ∨ (380 ≤ i ∧ i < 570) ∨ (570 ≤ i ∧ i < 735) := by omega
  rcases hc with ⟨h1, h2⟩ | ⟨h1, h2⟩ | ⟨h1, h2⟩ | ⟨h1, h2⟩
  · exact goB_at go0 h1 (by omega)
  · exact goB_at go1 h1 (by omega)
  · exact goB_at go2 h1 (by omega)
  · exact goB_at go3 h1 (by omega)
theorem c_goes : false = Rows.schemaBoundsRow.goesBy Tryz.pinned.checked.prog := goesBy_no go_at rfl
end Go.Proofs.YtnmefofmegfliaaGreatDoor.SchemaBounds
