/- What the evaluation asks of the translation's tables, by the kernel: no condition. -/
import Derived.Test.YtjfkcglgdpjkmaaGreatDoorT0
set_option linter.unusedVariables false
set_option linter.unusedSimpArgs false
namespace Go.L.Ev
open Go Go.RowKit Go.Proofs
theorem g_nt : Tryz.prog.types.size = 696 := by decide +kernel
theorem g_q : qChk Tryz.prog [25, 30, 138, 156] = true := by decide +kernel
theorem g_nm : nmChk Tryz.prog = true := by decide +kernel
theorem g_fs : fsChk Tryz.prog 696 = true := by decide +kernel
theorem g_z : zChk Tryz.prog 696 = true := by decide +kernel
theorem g_m : Tryz.prog.follows .mixedOrders = true := by decide +kernel
theorem pg : Pg Tryz.prog ty0 fu0 := pg_of g_nt g_q g_nm g_fs g_z g_m
end Go.L.Ev
