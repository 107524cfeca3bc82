/- What is to be shown of single functions, printed by a program and compared with the translation by the kernel: no condition. -/
import Derived.Test.YtfajbldbhkkfoaaDoorA1
import Derived.Test.YtfajbldbhkkfoaaDoorProg
set_option linter.unusedVariables false
set_option linter.unusedSimpArgs false
namespace Go.L
open Go Go.RowKit Go.Proofs
set_option maxRecDepth 100000
set_option linter.unusedVariables false

/-- slices.Contains[[]string,string] -/
def vc102 (s : Option Addr) (sn : Nat) (sc : Nat) (v : ByteArray) (R : Ending → World → Prop) (w : World) : Prop :=
 kCall (cR Tryd.prog R) w 118 #[(.slice s sn sc), (.string v)] fun v7 w_1 =>
 kBin (cR Tryd.prog R) w_1 .geq 3 v7 (.int .i64 0) fun v8 w_2 =>
 R (.returned v8) w_2
theorem c102 (s : Option Addr) (sn : Nat) (sc : Nat) (v : ByteArray) (R : Ending → World → Prop) (w : World) (h : vc102 s sn sc v R w) : Calls Tryd.prog 102 #[(.slice s sn sc), (.string v)] w R :=
  calls_of_vc (A := { loops := [], pars := [] }) (Eq.mpr (show FnVc Tryd.prog { loops := [], pars := [] } 9 102 [(.slice s sn sc), (.string v)] R w = vc102 s sn sc v R w by kernel_rfl) h)

/-- slices.IndexFunc[[]int,int] -/
def vc103 (s : Option Addr) (sn : Nat) (sc : Nat) (f : Value) (R : Ending → World → Prop) (w : World) : Prop :=
 kBlt (cR Tryd.prog R) w .len #[48] 3 #[false] #[(.slice s sn sc)] fun v7 w_1 =>
 kLoopF [(.int .i64 0)] w_1 fun cs ds w_2 N =>
 (fun x8 =>
 kBin (cR Tryd.prog R) w_2 .lss 3 x8 v7 fun v9 w_3 =>
 kIf v9 (
 kIa (cR Tryd.prog R) w_3 48 (.slice s sn sc) x8 fun v14 w_4 =>
 kLoad (cR Tryd.prog R) w_4 3 v14 fun v15 w_5 =>
 kCallV (cR Tryd.prog R) w_5 f #[v15] fun v16 w_6 =>
 kIf v16 (
 R (.returned x8) w_6) (
 kBin (cR Tryd.prog R) w_6 .add 3 x8 (.int .i64 1) fun v18 w_7 =>
 kD [] [] (N [v18] w_7))) (
 R (.returned (.int .i64 (-1))) w_3)) (cs.getD 0 undef)
theorem c103 (s : Option Addr) (sn : Nat) (sc : Nat) (f : Value) (R : Ending → World → Prop) (w : World) (h : vc103 s sn sc f R w) : Calls Tryd.prog 103 #[(.slice s sn sc), f] w R :=
  calls_of_vc (A := { loops := [(0, [8])], pars := [] }) (Eq.mpr (show FnVc Tryd.prog { loops := [(0, [8])], pars := [] } 19 103 [(.slice s sn sc), f] R w = vc103 s sn sc f R w by kernel_rfl) h)

/-- loupe/value.must -/
def vc104 (fine : Bool) (eA : Int) (R : Ending → World → Prop) (w : World) : Prop :=
 kUn (cR Tryd.prog R) w .not (.bool fine) fun v5 w_1 =>
 kIf v5 (
 kMkI (cR Tryd.prog R) w_1 26 (.int .i64 eA) fun v7 w_2 =>
 kPanic (cR Tryd.prog R) w_2 v7) (
 R (.returned (.tuple #[])) w_1)
theorem c104 (fine : Bool) (eA : Int) (R : Ending → World → Prop) (w : World) (h : vc104 fine eA R w) : Calls Tryd.prog 104 #[(.bool fine), (.int .i64 eA)] w R :=
  calls_of_vc (A := { loops := [], pars := [] }) (Eq.mpr (show FnVc Tryd.prog { loops := [], pars := [] } 8 104 [(.bool fine), (.int .i64 eA)] R w = vc104 fine eA R w by kernel_rfl) h)

/-- loupe/value.laid$1 -/
def vc107 (a0 : Int) (a1 : Int) (a2 : ByteArray) (R : Ending → World → Prop) (w : World) : Prop :=
 kBox (cR Tryd.prog R) w 41 (.agg #[(.int .i64 a0), (.int .i64 a1), (.string a2)]) fun v1 w_1 =>
 R (.returned (.string ⟨#[110, 117, 108, 108]⟩)) w_1
theorem c107 (a0 : Int) (a1 : Int) (a2 : ByteArray) (R : Ending → World → Prop) (w : World) (h : vc107 a0 a1 a2 R w) : Calls Tryd.prog 107 #[(.agg #[(.int .i64 a0), (.int .i64 a1), (.string a2)])] w R :=
  calls_of_vc (A := { loops := [], pars := [] }) (Eq.mpr (show FnVc Tryd.prog { loops := [], pars := [] } 3 107 [(.agg #[(.int .i64 a0), (.int .i64 a1), (.string a2)])] R w = vc107 a0 a1 a2 R w by kernel_rfl) h)

/-- loupe/value.laid$2 -/
def vc108 (v0 : Int) (v1 : Int) (v2 : ByteArray) (R : Ending → World → Prop) (w : World) : Prop :=
 kBox (cR Tryd.prog R) w 41 (.agg #[(.int .i64 v0), (.int .i64 v1), (.string v2)]) fun v1_1 w_1 =>
 kFa (cR Tryd.prog R) w_1 41 v1_1 1 fun v3 w_2 =>
 kLoad (cR Tryd.prog R) w_2 2 v3 fun v4 w_3 =>
 kEq (cR Tryd.prog R) w_3 .eql 2 (.tmp 4) (.const (.int .i64 1)) v4 (.int .i64 1) fun v5 w_4 =>
 kCall (cR Tryd.prog R) w_4 109 #[v5] fun v6 w_5 =>
 R (.returned v6) w_5
theorem c108 (v0 : Int) (v1 : Int) (v2 : ByteArray) (R : Ending → World → Prop) (w : World) (h : vc108 v0 v1 v2 R w) : Calls Tryd.prog 108 #[(.agg #[(.int .i64 v0), (.int .i64 v1), (.string v2)])] w R :=
  calls_of_vc (A := { loops := [], pars := [] }) (Eq.mpr (show FnVc Tryd.prog { loops := [], pars := [] } 7 108 [(.agg #[(.int .i64 v0), (.int .i64 v1), (.string v2)])] R w = vc108 v0 v1 v2 R w by kernel_rfl) h)

/-- strconv.FormatBool -/
def vc109 (b : Bool) (R : Ending → World → Prop) (w : World) : Prop :=
 kCall (cR Tryd.prog R) w 126 #[(.bool b)] fun v4 w_1 =>
 R (.returned v4) w_1
theorem c109 (b : Bool) (R : Ending → World → Prop) (w : World) (h : vc109 b R w) : Calls Tryd.prog 109 #[(.bool b)] w R :=
  calls_of_vc (A := { loops := [], pars := [] }) (Eq.mpr (show FnVc Tryd.prog { loops := [], pars := [] } 5 109 [(.bool b)] R w = vc109 b R w by kernel_rfl) h)

/-- loupe/value.laid$3 -/
def vc110 (v0 : Int) (v1 : Int) (v2 : ByteArray) (R : Ending → World → Prop) (w : World) : Prop :=
 kBox (cR Tryd.prog R) w 41 (.agg #[(.int .i64 v0), (.int .i64 v1), (.string v2)]) fun v1_1 w_1 =>
 kFa (cR Tryd.prog R) w_1 41 v1_1 1 fun v3 w_2 =>
 kLoad (cR Tryd.prog R) w_2 2 v3 fun v4 w_3 =>
 kCall (cR Tryd.prog R) w_3 111 #[v4, (.int .i64 10)] fun v5 w_4 =>
 R (.returned v5) w_4
theorem c110 (v0 : Int) (v1 : Int) (v2 : ByteArray) (R : Ending → World → Prop) (w : World) (h : vc110 v0 v1 v2 R w) : Calls Tryd.prog 110 #[(.agg #[(.int .i64 v0), (.int .i64 v1), (.string v2)])] w R :=
  calls_of_vc (A := { loops := [], pars := [] }) (Eq.mpr (show FnVc Tryd.prog { loops := [], pars := [] } 6 110 [(.agg #[(.int .i64 v0), (.int .i64 v1), (.string v2)])] R w = vc110 v0 v1 v2 R w by kernel_rfl) h)

/-- strconv.FormatInt -/
def vc111 (i : Int) (base : Int) (R : Ending → World → Prop) (w : World) : Prop :=
 kCall (cR Tryd.prog R) w 106 #[(.int .i64 i), (.int .i64 base)] fun v7 w_1 =>
 R (.returned v7) w_1
theorem c111 (i : Int) (base : Int) (R : Ending → World → Prop) (w : World) (h : vc111 i base R w) : Calls Tryd.prog 111 #[(.int .i64 i), (.int .i64 base)] w R :=
  calls_of_vc (A := { loops := [], pars := [] }) (Eq.mpr (show FnVc Tryd.prog { loops := [], pars := [] } 8 111 [(.int .i64 i), (.int .i64 base)] R w = vc111 i base R w by kernel_rfl) h)

/-- slices.Index[[]string,string] -/
def vc118 (s : Option Addr) (sn : Nat) (sc : Nat) (v : ByteArray) (R : Ending → World → Prop) (w : World) : Prop :=
 kBlt (cR Tryd.prog R) w .len #[111] 3 #[false] #[(.slice s sn sc)] fun v7 w_1 =>
 kLoopF [(.int .i64 0)] w_1 fun cs ds w_2 N =>
 (fun x8 =>
 kBin (cR Tryd.prog R) w_2 .lss 3 x8 v7 fun v9 w_3 =>
 kIf v9 (
 kIa (cR Tryd.prog R) w_3 111 (.slice s sn sc) x8 fun v14 w_4 =>
 kLoad (cR Tryd.prog R) w_4 9 v14 fun v15 w_5 =>
 kEq (cR Tryd.prog R) w_5 .eql 9 (.tmp 11) (.tmp 15) (.string v) v15 fun v16 w_6 =>
 kIf v16 (
 R (.returned x8) w_6) (
 kBin (cR Tryd.prog R) w_6 .add 3 x8 (.int .i64 1) fun v18 w_7 =>
 kD [] [] (N [v18] w_7))) (
 R (.returned (.int .i64 (-1))) w_3)) (cs.getD 0 undef)
theorem c118 (s : Option Addr) (sn : Nat) (sc : Nat) (v : ByteArray) (R : Ending → World → Prop) (w : World) (h : vc118 s sn sc v R w) : Calls Tryd.prog 118 #[(.slice s sn sc), (.string v)] w R :=
  calls_of_vc (A := { loops := [(0, [8])], pars := [] }) (Eq.mpr (show FnVc Tryd.prog { loops := [(0, [8])], pars := [] } 19 118 [(.slice s sn sc), (.string v)] R w = vc118 s sn sc v R w by kernel_rfl) h)

/-- internal/strconv.FormatBool -/
def vc126 (b : Bool) (R : Ending → World → Prop) (w : World) : Prop :=
 kIf (.bool b) (
 R (.returned (.string ⟨#[116, 114, 117, 101]⟩)) w) (
 R (.returned (.string ⟨#[102, 97, 108, 115, 101]⟩)) w)
theorem c126 (b : Bool) (R : Ending → World → Prop) (w : World) (h : vc126 b R w) : Calls Tryd.prog 126 #[(.bool b)] w R :=
  calls_of_vc (A := { loops := [], pars := [] }) (Eq.mpr (show FnVc Tryd.prog { loops := [], pars := [] } 4 126 [(.bool b)] R w = vc126 b R w by kernel_rfl) h)

end Go.L
