/- What is to be shown of single functions, printed by a program and compared with the translation by the kernel: no condition. -/
import Derived.Test.YtfajbldbhkkfoaaGreatDoorA1
import Derived.Test.YtfajbldbhkkfoaaGreatDoorProg
set_option linter.unusedVariables false
set_option linter.unusedSimpArgs false
namespace Go.L
open Go Go.RowKit Go.Proofs
set_option maxRecDepth 100000
set_option linter.unusedVariables false

/-- loupe/value.must -/
def vc108 (fine : Bool) (eA : Int) (R : Ending → World → Prop) (w : World) : Prop :=
 kUn (cR Tryz.prog R) w .not (.bool fine) fun v5 w_1 =>
 kIf v5 (
 kMkI (cR Tryz.prog R) w_1 26 (.int .i64 eA) fun v7 w_2 =>
 kPanic (cR Tryz.prog R) w_2 v7) (
 R (.returned (.tuple #[])) w_1)
theorem c108 (fine : Bool) (eA : Int) (R : Ending → World → Prop) (w : World) (h : vc108 fine eA R w) : Calls Tryz.prog 108 #[(.bool fine), (.int .i64 eA)] w R :=
  calls_of_vc (A := { loops := [], pars := [] }) (Eq.mpr (show FnVc Tryz.prog { loops := [], pars := [] } 8 108 [(.bool fine), (.int .i64 eA)] R w = vc108 fine eA R w by kernel_rfl) h)

/-- loupe/value.laid$1 -/
def vc109 (a0 : Int) (a1 : Int) (a2 : ByteArray) (R : Ending → World → Prop) (w : World) : Prop :=
 kBox (cR Tryz.prog R) w 59 (.agg #[(.int .i64 a0), (.int .i64 a1), (.string a2)]) fun v1 w_1 =>
 R (.returned (.string ⟨#[110, 117, 108, 108]⟩)) w_1
theorem c109 (a0 : Int) (a1 : Int) (a2 : ByteArray) (R : Ending → World → Prop) (w : World) (h : vc109 a0 a1 a2 R w) : Calls Tryz.prog 109 #[(.agg #[(.int .i64 a0), (.int .i64 a1), (.string a2)])] w R :=
  calls_of_vc (A := { loops := [], pars := [] }) (Eq.mpr (show FnVc Tryz.prog { loops := [], pars := [] } 3 109 [(.agg #[(.int .i64 a0), (.int .i64 a1), (.string a2)])] R w = vc109 a0 a1 a2 R w by kernel_rfl) h)

/-- loupe/value.laid$2 -/
def vc110 (v0 : Int) (v1 : Int) (v2 : ByteArray) (R : Ending → World → Prop) (w : World) : Prop :=
 kBox (cR Tryz.prog R) w 59 (.agg #[(.int .i64 v0), (.int .i64 v1), (.string v2)]) fun v1_1 w_1 =>
 kFa (cR Tryz.prog R) w_1 59 v1_1 1 fun v3 w_2 =>
 kLoad (cR Tryz.prog R) w_2 2 v3 fun v4 w_3 =>
 kEq (cR Tryz.prog R) w_3 .eql 2 (.tmp 4) (.const (.int .i64 1)) v4 (.int .i64 1) fun v5 w_4 =>
 kCall (cR Tryz.prog R) w_4 111 #[v5] fun v6 w_5 =>
 R (.returned v6) w_5
theorem c110 (v0 : Int) (v1 : Int) (v2 : ByteArray) (R : Ending → World → Prop) (w : World) (h : vc110 v0 v1 v2 R w) : Calls Tryz.prog 110 #[(.agg #[(.int .i64 v0), (.int .i64 v1), (.string v2)])] w R :=
  calls_of_vc (A := { loops := [], pars := [] }) (Eq.mpr (show FnVc Tryz.prog { loops := [], pars := [] } 7 110 [(.agg #[(.int .i64 v0), (.int .i64 v1), (.string v2)])] R w = vc110 v0 v1 v2 R w by kernel_rfl) h)

/-- strconv.FormatBool -/
def vc111 (b : Bool) (R : Ending → World → Prop) (w : World) : Prop :=
 kCall (cR Tryz.prog R) w 136 #[(.bool b)] fun v4 w_1 =>
 R (.returned v4) w_1
theorem c111 (b : Bool) (R : Ending → World → Prop) (w : World) (h : vc111 b R w) : Calls Tryz.prog 111 #[(.bool b)] w R :=
  calls_of_vc (A := { loops := [], pars := [] }) (Eq.mpr (show FnVc Tryz.prog { loops := [], pars := [] } 5 111 [(.bool b)] R w = vc111 b R w by kernel_rfl) h)

/-- loupe/value.laid$3 -/
def vc112 (v0 : Int) (v1 : Int) (v2 : ByteArray) (R : Ending → World → Prop) (w : World) : Prop :=
 kBox (cR Tryz.prog R) w 59 (.agg #[(.int .i64 v0), (.int .i64 v1), (.string v2)]) fun v1_1 w_1 =>
 kFa (cR Tryz.prog R) w_1 59 v1_1 1 fun v3 w_2 =>
 kLoad (cR Tryz.prog R) w_2 2 v3 fun v4 w_3 =>
 kCall (cR Tryz.prog R) w_3 113 #[v4, (.int .i64 10)] fun v5 w_4 =>
 R (.returned v5) w_4
theorem c112 (v0 : Int) (v1 : Int) (v2 : ByteArray) (R : Ending → World → Prop) (w : World) (h : vc112 v0 v1 v2 R w) : Calls Tryz.prog 112 #[(.agg #[(.int .i64 v0), (.int .i64 v1), (.string v2)])] w R :=
  calls_of_vc (A := { loops := [], pars := [] }) (Eq.mpr (show FnVc Tryz.prog { loops := [], pars := [] } 6 112 [(.agg #[(.int .i64 v0), (.int .i64 v1), (.string v2)])] R w = vc112 v0 v1 v2 R w by kernel_rfl) h)

/-- strconv.FormatInt -/
def vc113 (i : Int) (base : Int) (R : Ending → World → Prop) (w : World) : Prop :=
 kCall (cR Tryz.prog R) w 107 #[(.int .i64 i), (.int .i64 base)] fun v7 w_1 =>
 R (.returned v7) w_1
theorem c113 (i : Int) (base : Int) (R : Ending → World → Prop) (w : World) (h : vc113 i base R w) : Calls Tryz.prog 113 #[(.int .i64 i), (.int .i64 base)] w R :=
  calls_of_vc (A := { loops := [], pars := [] }) (Eq.mpr (show FnVc Tryz.prog { loops := [], pars := [] } 8 113 [(.int .i64 i), (.int .i64 base)] R w = vc113 i base R w by kernel_rfl) h)

/-- loupe/value.laid$4 -/
def vc114 (v0 : Int) (v1 : Int) (v2 : ByteArray) (R : Ending → World → Prop) (w : World) : Prop :=
 kBox (cR Tryz.prog R) w 59 (.agg #[(.int .i64 v0), (.int .i64 v1), (.string v2)]) fun v1_1 w_1 =>
 kFa (cR Tryz.prog R) w_1 59 v1_1 2 fun v3 w_2 =>
 kLoad (cR Tryz.prog R) w_2 9 v3 fun v4 w_3 =>
 kCall (cR Tryz.prog R) w_3 116 #[v4, (.string ⟨#[39]⟩), (.string ⟨#[39, 39]⟩)] fun v5 w_4 =>
 kCall (cR Tryz.prog R) w_4 115 #[v5] fun v6 w_5 =>
 R (.returned v6) w_5
theorem c114 (v0 : Int) (v1 : Int) (v2 : ByteArray) (R : Ending → World → Prop) (w : World) (h : vc114 v0 v1 v2 R w) : Calls Tryz.prog 114 #[(.agg #[(.int .i64 v0), (.int .i64 v1), (.string v2)])] w R :=
  calls_of_vc (A := { loops := [], pars := [] }) (Eq.mpr (show FnVc Tryz.prog { loops := [], pars := [] } 7 114 [(.agg #[(.int .i64 v0), (.int .i64 v1), (.string v2)])] R w = vc114 v0 v1 v2 R w by kernel_rfl) h)

/-- loupe/value.quoted -/
def vc115 (s : ByteArray) (R : Ending → World → Prop) (w : World) : Prop :=
 kBin (cR Tryz.prog R) w .add 9 (.string ⟨#[39]⟩) (.string s) fun v4 w_1 =>
 kBin (cR Tryz.prog R) w_1 .add 9 v4 (.string ⟨#[39]⟩) fun v5 w_2 =>
 R (.returned v5) w_2
theorem c115 (s : ByteArray) (R : Ending → World → Prop) (w : World) (h : vc115 s R w) : Calls Tryz.prog 115 #[(.string s)] w R :=
  calls_of_vc (A := { loops := [], pars := [] }) (Eq.mpr (show FnVc Tryz.prog { loops := [], pars := [] } 6 115 [(.string s)] R w = vc115 s R w by kernel_rfl) h)

/-- loupe/value.laid$5 -/
def vc117 (v0 : Int) (v1 : Int) (v2 : ByteArray) (R : Ending → World → Prop) (w : World) : Prop :=
 kBox (cR Tryz.prog R) w 59 (.agg #[(.int .i64 v0), (.int .i64 v1), (.string v2)]) fun v1_1 w_1 =>
 kAlloc (cR Tryz.prog R) w_1 67 fun v3 w_2 =>
 kFa (cR Tryz.prog R) w_2 59 v1_1 2 fun v6 w_3 =>
 kLoad (cR Tryz.prog R) w_3 9 v6 fun v7 w_4 =>
 kConv (cR Tryz.prog R) w_4 9 44 v7 fun v8 w_5 =>
 kBlt (cR Tryz.prog R) w_5 .len #[44] 3 #[false] #[v8] fun v9 w_6 =>
 kLoopF [(.int .i64 0)] w_6 fun cs ds w_7 N =>
 (fun x10 =>
 kBin (cR Tryz.prog R) w_7 .lss 3 x10 v9 fun v11 w_8 =>
 kIf v11 (
 kIa (cR Tryz.prog R) w_8 44 v8 x10 fun v12 w_9 =>
 kLoad (cR Tryz.prog R) w_9 5 v12 fun v13 w_10 =>
 kBin (cR Tryz.prog R) w_10 .shr 5 v13 (.int .u64 4) fun v15 w_11 =>
 kIx (cR Tryz.prog R) w_11 9 (.string ⟨#[48, 49, 50, 51, 52, 53, 54, 55, 56, 57, 97, 98, 99, 100, 101, 102]⟩) v15 fun v16 w_12 =>
 kCall (cR Tryz.prog R) w_12 118 #[v3, v16] fun v17 w_13 =>
 kBin (cR Tryz.prog R) w_13 .and 5 v13 (.int .u8 15) fun v19 w_14 =>
 kIx (cR Tryz.prog R) w_14 9 (.string ⟨#[48, 49, 50, 51, 52, 53, 54, 55, 56, 57, 97, 98, 99, 100, 101, 102]⟩) v19 fun v20 w_15 =>
 kCall (cR Tryz.prog R) w_15 118 #[v3, v20] fun v21 w_16 =>
 kBin (cR Tryz.prog R) w_16 .add 3 x10 (.int .i64 1) fun v22 w_17 =>
 kD [] [] (N [v22] w_17)) (
 kCall (cR Tryz.prog R) w_8 34 #[v3] fun v23 w_18 =>
 kCall (cR Tryz.prog R) w_18 115 #[v23] fun v24 w_19 =>
 kBin (cR Tryz.prog R) w_19 .add 9 (.string ⟨#[120]⟩) v24 fun v25 w_20 =>
 R (.returned v25) w_20)) (cs.getD 0 undef)
theorem c117 (v0 : Int) (v1 : Int) (v2 : ByteArray) (R : Ending → World → Prop) (w : World) (h : vc117 v0 v1 v2 R w) : Calls Tryz.prog 117 #[(.agg #[(.int .i64 v0), (.int .i64 v1), (.string v2)])] w R :=
  calls_of_vc (A := { loops := [(0, [10])], pars := [] }) (Eq.mpr (show FnVc Tryz.prog { loops := [(0, [10])], pars := [] } 26 117 [(.agg #[(.int .i64 v0), (.int .i64 v1), (.string v2)])] R w = vc117 v0 v1 v2 R w by kernel_rfl) h)

/-- (*strings.Builder).WriteByte -/
def vc118 (b : Value) (cA : Int) (R : Ending → World → Prop) (w : World) : Prop :=
 kCall (cR Tryz.prog R) w 80 #[b] fun v6 w_1 =>
 kNil (cR Tryz.prog R) w_1 b fun v9 w_2 =>
 kFa (cR Tryz.prog R) w_2 67 v9 1 fun v10 w_3 =>
 kLoad (cR Tryz.prog R) w_3 44 v10 fun v11 w_4 =>
 kBuildS (cR Tryz.prog R) w_4 44 1 #[(0, (.int .u8 cA))] fun v13 w_5 =>
 kBlt (cR Tryz.prog R) w_5 .append #[44, 44] 44 #[false, false] #[v11, v13] fun v14 w_6 =>
 kNil (cR Tryz.prog R) w_6 b fun v15 w_7 =>
 kFa (cR Tryz.prog R) w_7 67 v15 1 fun v16 w_8 =>
 kStore (cR Tryz.prog R) w_8 44 v16 v14 fun w_9 =>
 R (.returned .nilIface) w_9
theorem c118 (b : Value) (cA : Int) (R : Ending → World → Prop) (w : World) (h : vc118 b cA R w) : Calls Tryz.prog 118 #[b, (.int .u8 cA)] w R :=
  calls_of_vc (A := { loops := [], pars := [] }) (Eq.mpr (show FnVc Tryz.prog { loops := [], pars := [] } 17 118 [b, (.int .u8 cA)] R w = vc118 b cA R w by kernel_rfl) h)

/-- loupe/louperef01.Number -/
def vc121 (n : Int) (R : Ending → World → Prop) (w : World) : Prop :=
 kLoopF [(.string ⟨#[]⟩), (.int .i64 n)] w fun cs ds w_1 N =>
 (fun x3 x4 =>
 kBin (cR Tryz.prog R) w_1 .rem 2 x4 (.int .i64 10) fun v8 w_2 =>
 kJn (fun J =>
 kBin (cR Tryz.prog R) w_2 .lss 2 v8 (.int .i64 0) fun v10 w_11 =>
 kIf v10 (
 kUn (cR Tryz.prog R) w_11 .neg v8 fun v12 w_12 =>
 kD [] [] (J [v12] w_12)) (
 kD [] [] (J [v8] w_11))) (fun cs_1 w_3 => ∀ ds_1 : List Value,
 (fun j5 =>
 kBin (cR Tryz.prog R) w_3 .add 2 j5 (.int .i64 1) fun v15 w_4 =>
 kSl (cR Tryz.prog R) w_4 9 (.string ⟨#[48, 49, 50, 51, 52, 53, 54, 55, 56, 57, 97, 98, 99, 100, 101, 102]⟩) (some j5) (some v15) none fun v16 w_5 =>
 kBin (cR Tryz.prog R) w_5 .add 9 v16 x3 fun v18 w_6 =>
 kBin (cR Tryz.prog R) w_6 .quo 2 x4 (.int .i64 10) fun v20 w_7 =>
 kEq (cR Tryz.prog R) w_7 .eql 2 (.tmp 21) (.const (.int .i64 0)) v20 (.int .i64 0) fun v22 w_8 =>
 kIf v22 (
 kBin (cR Tryz.prog R) w_8 .lss 2 (.int .i64 n) (.int .i64 0) fun v24 w_9 =>
 kIf v24 (
 kBin (cR Tryz.prog R) w_9 .add 9 (.string ⟨#[45]⟩) v18 fun v26 w_10 =>
 R (.returned v26) w_10) (
 R (.returned v18) w_9)) (
 kD [] [] (N [v18, v20] w_8))) (cs_1.getD 0 undef))) (cs.getD 0 undef) (cs.getD 1 undef)
theorem c121 (n : Int) (R : Ending → World → Prop) (w : World) (h : vc121 n R w) : Calls Tryz.prog 121 #[(.int .i64 n)] w R :=
  calls_of_vc (A := { loops := [(1000006, [5]), (0, [3, 4])], pars := [] }) (Eq.mpr (show FnVc Tryz.prog { loops := [(1000006, [5]), (0, [3, 4])], pars := [] } 28 121 [(.int .i64 n)] R w = vc121 n R w by kernel_rfl) h)

/-- slices.IndexFunc[[]int,int] -/
def vc122 (s : Option Addr) (sn : Nat) (sc : Nat) (f : Value) (R : Ending → World → Prop) (w : World) : Prop :=
 kBlt (cR Tryz.prog R) w .len #[60] 3 #[false] #[(.slice s sn sc)] fun v7 w_1 =>
 kLoopF [(.int .i64 0)] w_1 fun cs ds w_2 N =>
 (fun x8 =>
 kBin (cR Tryz.prog R) w_2 .lss 3 x8 v7 fun v9 w_3 =>
 kIf v9 (
 kIa (cR Tryz.prog R) w_3 60 (.slice s sn sc) x8 fun v14 w_4 =>
 kLoad (cR Tryz.prog R) w_4 3 v14 fun v15 w_5 =>
 kCallV (cR Tryz.prog R) w_5 f #[v15] fun v16 w_6 =>
 kIf v16 (
 R (.returned x8) w_6) (
 kBin (cR Tryz.prog R) w_6 .add 3 x8 (.int .i64 1) fun v18 w_7 =>
 kD [] [] (N [v18] w_7))) (
 R (.returned (.int .i64 (-1))) w_3)) (cs.getD 0 undef)
theorem c122 (s : Option Addr) (sn : Nat) (sc : Nat) (f : Value) (R : Ending → World → Prop) (w : World) (h : vc122 s sn sc f R w) : Calls Tryz.prog 122 #[(.slice s sn sc), f] w R :=
  calls_of_vc (A := { loops := [(0, [8])], pars := [] }) (Eq.mpr (show FnVc Tryz.prog { loops := [(0, [8])], pars := [] } 19 122 [(.slice s sn sc), f] R w = vc122 s sn sc f R w by kernel_rfl) h)

/-- loupe/value.Check$1 -/
def vc130  (R : Ending → World → Prop) (w : World) : Prop :=
 R (.returned (.tuple #[])) w
theorem c130  (R : Ending → World → Prop) (w : World) (h : vc130  R w) : Calls Tryz.prog 130 #[] w R :=
  calls_of_vc (A := { loops := [], pars := [] }) (Eq.mpr (show FnVc Tryz.prog { loops := [], pars := [] } 0 130 [] R w = vc130  R w by kernel_rfl) h)

/-- slices.Index[[]string,string] -/
def vc131 (s : Option Addr) (sn : Nat) (sc : Nat) (v : ByteArray) (R : Ending → World → Prop) (w : World) : Prop :=
 kBlt (cR Tryz.prog R) w .len #[74] 3 #[false] #[(.slice s sn sc)] fun v7 w_1 =>
 kLoopF [(.int .i64 0)] w_1 fun cs ds w_2 N =>
 (fun x8 =>
 kBin (cR Tryz.prog R) w_2 .lss 3 x8 v7 fun v9 w_3 =>
 kIf v9 (
 kIa (cR Tryz.prog R) w_3 74 (.slice s sn sc) x8 fun v14 w_4 =>
 kLoad (cR Tryz.prog R) w_4 9 v14 fun v15 w_5 =>
 kEq (cR Tryz.prog R) w_5 .eql 9 (.tmp 11) (.tmp 15) (.string v) v15 fun v16 w_6 =>
 kIf v16 (
 R (.returned x8) w_6) (
 kBin (cR Tryz.prog R) w_6 .add 3 x8 (.int .i64 1) fun v18 w_7 =>
 kD [] [] (N [v18] w_7))) (
 R (.returned (.int .i64 (-1))) w_3)) (cs.getD 0 undef)
theorem c131 (s : Option Addr) (sn : Nat) (sc : Nat) (v : ByteArray) (R : Ending → World → Prop) (w : World) (h : vc131 s sn sc v R w) : Calls Tryz.prog 131 #[(.slice s sn sc), (.string v)] w R :=
  calls_of_vc (A := { loops := [(0, [8])], pars := [] }) (Eq.mpr (show FnVc Tryz.prog { loops := [(0, [8])], pars := [] } 19 131 [(.slice s sn sc), (.string v)] R w = vc131 s sn sc v R w by kernel_rfl) h)

/-- internal/strconv.FormatBool -/
def vc136 (b : Bool) (R : Ending → World → Prop) (w : World) : Prop :=
 kIf (.bool b) (
 R (.returned (.string ⟨#[116, 114, 117, 101]⟩)) w) (
 R (.returned (.string ⟨#[102, 97, 108, 115, 101]⟩)) w)
theorem c136 (b : Bool) (R : Ending → World → Prop) (w : World) (h : vc136 b R w) : Calls Tryz.prog 136 #[(.bool b)] w R :=
  calls_of_vc (A := { loops := [], pars := [] }) (Eq.mpr (show FnVc Tryz.prog { loops := [], pars := [] } 4 136 [(.bool b)] R w = vc136 b R w by kernel_rfl) h)

end Go.L
