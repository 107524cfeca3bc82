/- What is to be shown of single functions, printed by a program and compared with the translation by the kernel: no condition. -/
import Derived.Test.YtjifkcfmolnepaaA1
import Derived.Test.YtjifkcfmolnepaaProg
set_option linter.unusedVariables false
set_option linter.unusedSimpArgs false
namespace Go.L
open Go Go.RowKit Go.Proofs
set_option maxRecDepth 100000
set_option linter.unusedVariables false

/-- cmp.isNaN[int64] -/
def vc136 (x : Int) (R : Ending → World → Prop) (w : World) : Prop :=
 kEq (cR Try.prog R) w .neq 2 (.tmp 3) (.tmp 4) (.int .i64 x) (.int .i64 x) fun v5 w_1 =>
 R (.returned v5) w_1
theorem c136 (x : Int) (R : Ending → World → Prop) (w : World) (h : vc136 x R w) : Calls Try.prog 136 #[(.int .i64 x)] w R :=
  calls_of_vc (A := { loops := [], pars := [] }) (Eq.mpr (show FnVc Try.prog { loops := [], pars := [] } 6 136 [(.int .i64 x)] R w = vc136 x R w by kernel_rfl) h)

/-- cmp.isNaN[string] -/
def vc137 (x : ByteArray) (R : Ending → World → Prop) (w : World) : Prop :=
 kEq (cR Try.prog R) w .neq 9 (.tmp 3) (.tmp 4) (.string x) (.string x) fun v5 w_1 =>
 R (.returned v5) w_1
theorem c137 (x : ByteArray) (R : Ending → World → Prop) (w : World) (h : vc137 x R w) : Calls Try.prog 137 #[(.string x)] w R :=
  calls_of_vc (A := { loops := [], pars := [] }) (Eq.mpr (show FnVc Try.prog { loops := [], pars := [] } 6 137 [(.string x)] R w = vc137 x R w by kernel_rfl) h)

/-- (*strings.Builder).WriteString -/
def vc139 (b : Value) (s : ByteArray) (R : Ending → World → Prop) (w : World) : Prop :=
 kCall (cR Try.prog R) w 142 #[b] fun v7 w_1 =>
 kNil (cR Try.prog R) w_1 b fun v10 w_2 =>
 kFa (cR Try.prog R) w_2 179 v10 1 fun v11 w_3 =>
 kLoad (cR Try.prog R) w_3 38 v11 fun v12 w_4 =>
 kBlt (cR Try.prog R) w_4 .append #[38, 9] 38 #[false, false] #[v12, (.string s)] fun v14 w_5 =>
 kNil (cR Try.prog R) w_5 b fun v15 w_6 =>
 kFa (cR Try.prog R) w_6 179 v15 1 fun v16 w_7 =>
 kStore (cR Try.prog R) w_7 38 v16 v14 fun w_8 =>
 kBlt (cR Try.prog R) w_8 .len #[9] 3 #[false] #[(.string s)] fun v18 w_9 =>
 R (.returned (.tuple #[v18, .nilIface])) w_9
theorem c139 (b : Value) (s : ByteArray) (R : Ending → World → Prop) (w : World) (h : vc139 b s R w) : Calls Try.prog 139 #[b, (.string s)] w R :=
  calls_of_vc (A := { loops := [], pars := [] }) (Eq.mpr (show FnVc Try.prog { loops := [], pars := [] } 19 139 [b, (.string s)] R w = vc139 b s R w by kernel_rfl) h)

/-- slices.Values[[]loupe/api.Truth,loupe/api.Truth]$1 -/
def vc141 (yield : Value) (f0 : Value) (R : Ending → World → Prop) (w : World) : Prop :=
 kLoad (cR Try.prog R) w 160 f0 fun v5 w_1 =>
 kBlt (cR Try.prog R) w_1 .len #[160] 3 #[false] #[v5] fun v6 w_2 =>
 kLoopF [(.int .i64 0)] w_2 fun cs ds w_3 N =>
 (fun x7 =>
 kBin (cR Try.prog R) w_3 .lss 3 x7 v6 fun v8 w_4 =>
 kIf v8 (
 kIa (cR Try.prog R) w_4 160 v5 x7 fun v9 w_5 =>
 kLoad (cR Try.prog R) w_5 142 v9 fun v10 w_6 =>
 kCallV (cR Try.prog R) w_6 yield #[v10] fun v13 w_7 =>
 kUn (cR Try.prog R) w_7 .not v13 fun v14 w_8 =>
 kIf v14 (
 R (.returned (.tuple #[])) w_8) (
 kBin (cR Try.prog R) w_8 .add 3 x7 (.int .i64 1) fun v15 w_9 =>
 kD [] [] (N [v15] w_9))) (
 R (.returned (.tuple #[])) w_4)) (cs.getD 0 undef)
theorem c141 (yield : Value) (f0 : Value) (R : Ending → World → Prop) (w : World) (h : vc141 yield f0 R w) : Calls Try.prog 141 #[yield, f0] w R :=
  calls_of_vc (A := { loops := [(0, [7])], pars := [] }) (Eq.mpr (show FnVc Try.prog { loops := [(0, [7])], pars := [] } 16 141 [yield, f0] R w = vc141 yield f0 R w by kernel_rfl) h)

/-- (*strings.Builder).copyCheck -/
def vc142 (b : Value) (R : Ending → World → Prop) (w : World) : Prop :=
 kNil (cR Try.prog R) w b fun v3 w_1 =>
 kFa (cR Try.prog R) w_1 179 v3 0 fun v4 w_2 =>
 kLoad (cR Try.prog R) w_2 177 v4 fun v5 w_3 =>
 kEq (cR Try.prog R) w_3 .eql 177 (.tmp 5) (.const (.pointer none)) v5 (.pointer none) fun v6 w_4 =>
 kIf v6 (
 kConv (cR Try.prog R) w_4 177 188 b fun v9 w_5 =>
 kCall (cR Try.prog R) w_5 144 #[v9] fun v10 w_6 =>
 kConv (cR Try.prog R) w_6 188 177 v10 fun v11 w_7 =>
 kNil (cR Try.prog R) w_7 b fun v12 w_8 =>
 kFa (cR Try.prog R) w_8 179 v12 0 fun v13 w_9 =>
 kStore (cR Try.prog R) w_9 177 v13 v11 fun w_10 =>
 R (.returned (.tuple #[])) w_10) (
 kNil (cR Try.prog R) w_4 b fun v15 w_11 =>
 kFa (cR Try.prog R) w_11 179 v15 0 fun v16 w_12 =>
 kLoad (cR Try.prog R) w_12 177 v16 fun v17 w_13 =>
 kEq (cR Try.prog R) w_13 .neq 177 (.tmp 17) (.tmp 18) v17 b fun v19 w_14 =>
 kIf v19 (
 False) (
 R (.returned (.tuple #[])) w_14))
theorem c142 (b : Value) (R : Ending → World → Prop) (w : World) (h : vc142 b R w) : Calls Try.prog 142 #[b] w R :=
  calls_of_vc (A := { loops := [], pars := [] }) (Eq.mpr (show FnVc Try.prog { loops := [], pars := [] } 20 142 [b] R w = vc142 b R w by kernel_rfl) h)

end Go.L
