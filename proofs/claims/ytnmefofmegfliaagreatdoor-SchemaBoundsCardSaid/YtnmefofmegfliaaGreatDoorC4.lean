/- What the law's function reaches, by a table that the kernel compares with the translation: no condition. -/
import Derived.Test.YtnmefofmegfliaaGreatDoorC1
import Derived.Test.YtnmefofmegfliaaGreatDoorC2
import Derived.Test.YtnmefofmegfliaaGreatDoorC3
set_option linter.unusedVariables false
set_option linter.unusedSimpArgs false
set_option linter.unusedSectionVars false
namespace Go.Proofs.YtnmefofmegfliaaGreatDoor.SchemaBounds
open Go Go.L Go.RowKit Go.Proofs
set_option maxRecDepth 100000
theorem cl_n : Tryz.prog.funcs.size = 735 := by kernel_rfl
theorem leads_at (i : Nat) (hi : i < 735) : leadsAt Tryz.prog i = (leadsL[i]?).getD [] := by
  have hc : (0 ≤ i ∧ i < 190) ∨ (190 ≤ i ∧ i < 380) ∨ (380 ≤ i ∧ i < 570) ∨ (570 ≤ i ∧ i < 735) := by omega
  rcases hc with ⟨h1, h2⟩ | ⟨h1, h2⟩ | ⟨h1, h2⟩ | ⟨h1, h2⟩
  · exact leadsB_at cl0 h1 (by omega)
  · exact leadsB_at cl1 h1 (by omega)
  · exact leadsB_at cl2 h1 (by omega)
  · exact leadsB_at cl3 h1 (by omega)
theorem leadsT_get (i : Nat) : leadsT.get [] i = (leadsL[i]?).getD [] := tr_ofL leadsL 740 i (by decide +kernel)
theorem leads_T (i : Nat) : leadsAt Tryz.prog i = leadsT.get [] i := by
  rw [leadsT_get]
  exact table_of cl_n (by decide +kernel) leads_at i
theorem reach_eq : Tryz.prog.closure 3 = reachL := by
  have h := closure_of leads_T (n := 2240) (f := 3) (out := reachL.reverse) cl_n (by kernel_rfl) (by
    have : ((List.range 735).map fun i => (leadsT.get [] i).length + 1).sum = 2244 := by kernel_rfl
    omega)
  rw [h, List.reverse_reverse]
end Go.Proofs.YtnmefofmegfliaaGreatDoor.SchemaBounds
