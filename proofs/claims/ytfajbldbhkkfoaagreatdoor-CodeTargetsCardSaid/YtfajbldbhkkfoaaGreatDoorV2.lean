/- What is to be shown of single functions, printed by a program and compared with the translation by the kernel: no condition. -/
import Derived.Test.YtfajbldbhkkfoaaGreatDoorA1
import Derived.Test.YtfajbldbhkkfoaaGreatDoorProg
set_option linter.unusedVariables false
set_option linter.unusedSimpArgs false
namespace Go.L
open Go Go.RowKit Go.Proofs
set_option maxRecDepth 100000
set_option linter.unusedVariables false

/-- loupe/louperef01.Literal -/
def vc82 (v0 : Int) (v1 : Int) (v2 : ByteArray) (R : Ending → World → Prop) (w : World) : Prop :=
 kBox (cR Tryz.prog R) w 59 (.agg #[(.int .i64 v0), (.int .i64 v1), (.string v2)]) fun v1_1 w_1 =>
 kLoad (cR Tryz.prog R) w_1 59 v1_1 fun v9 w_2 =>
 kCall (cR Tryz.prog R) w_2 55 #[v9] fun v10 w_3 =>
 kEq (cR Tryz.prog R) w_3 .neq 3 (.tmp 11) (.const (.int .i64 0)) v10 (.int .i64 0) fun v12 w_4 =>
 kIf v12 (
 R (.returned (.tuple #[(.string ⟨#[]⟩), v10])) w_4) (
 kFa (cR Tryz.prog R) w_4 59 v1_1 0 fun v14 w_5 =>
 kLoad (cR Tryz.prog R) w_5 57 v14 fun v15 w_6 =>
 kEq (cR Tryz.prog R) w_6 .eql 3 (.tmp 15) (.const (.int .i64 0)) v15 (.int .i64 0) fun v17 w_7 =>
 kIf v17 (
 R (.returned (.tuple #[(.string ⟨#[110, 117, 108, 108]⟩), (.int .i64 0)])) w_7) (
 kEq (cR Tryz.prog R) w_7 .eql 3 (.tmp 15) (.const (.int .i64 1)) v15 (.int .i64 1) fun v19 w_8 =>
 kIf v19 (
 kFa (cR Tryz.prog R) w_8 59 v1_1 1 fun v20 w_9 =>
 kLoad (cR Tryz.prog R) w_9 2 v20 fun v21 w_10 =>
 kEq (cR Tryz.prog R) w_10 .eql 2 (.tmp 21) (.const (.int .i64 1)) v21 (.int .i64 1) fun v22 w_11 =>
 kIf v22 (
 R (.returned (.tuple #[(.string ⟨#[116, 114, 117, 101]⟩), (.int .i64 0)])) w_11) (
 R (.returned (.tuple #[(.string ⟨#[102, 97, 108, 115, 101]⟩), (.int .i64 0)])) w_11)) (
 kEq (cR Tryz.prog R) w_8 .eql 3 (.tmp 15) (.const (.int .i64 2)) v15 (.int .i64 2) fun v24 w_12 =>
 kIf v24 (
 kFa (cR Tryz.prog R) w_12 59 v1_1 1 fun v25 w_13 =>
 kLoad (cR Tryz.prog R) w_13 2 v25 fun v26 w_14 =>
 kCall (cR Tryz.prog R) w_14 121 #[v26] fun v27 w_15 =>
 R (.returned (.tuple #[v27, (.int .i64 0)])) w_15) (
 kEq (cR Tryz.prog R) w_12 .eql 3 (.tmp 15) (.const (.int .i64 3)) v15 (.int .i64 3) fun v29 w_16 =>
 kIf v29 (
 kLoopF [(.string ⟨#[]⟩), (.int .i64 0)] w_16 fun cs ds w_17 N =>
 (fun x5 x6 =>
 kFa (cR Tryz.prog R) w_17 59 v1_1 2 fun v31 w_18 =>
 kLoad (cR Tryz.prog R) w_18 9 v31 fun v32 w_19 =>
 kBlt (cR Tryz.prog R) w_19 .len #[9] 3 #[false] #[v32] fun v33 w_20 =>
 kBin (cR Tryz.prog R) w_20 .lss 3 x6 v33 fun v34 w_21 =>
 kIf v34 (
 kFa (cR Tryz.prog R) w_21 59 v1_1 2 fun v38 w_22 =>
 kLoad (cR Tryz.prog R) w_22 9 v38 fun v39 w_23 =>
 kBin (cR Tryz.prog R) w_23 .add 3 x6 (.int .i64 1) fun v42 w_24 =>
 kSl (cR Tryz.prog R) w_24 9 v39 (some x6) (some v42) none fun v43 w_25 =>
 kBin (cR Tryz.prog R) w_25 .add 9 x5 v43 fun v44 w_26 =>
 kFa (cR Tryz.prog R) w_26 59 v1_1 2 fun v45 w_27 =>
 kLoad (cR Tryz.prog R) w_27 9 v45 fun v46 w_28 =>
 kIx (cR Tryz.prog R) w_28 9 v46 x6 fun v48 w_29 =>
 kEq (cR Tryz.prog R) w_29 .eql 5 (.tmp 48) (.const (.int .u8 39)) v48 (.int .u8 39) fun v49 w_30 =>
 kIf v49 (
 kBin (cR Tryz.prog R) w_30 .add 9 v44 (.string ⟨#[39]⟩) fun v51 w_31 =>
 kBin (cR Tryz.prog R) w_31 .add 3 x6 (.int .i64 1) fun v36 w_32 =>
 kD [] [] (N [v51, v36] w_32)) (
 kBin (cR Tryz.prog R) w_30 .add 3 x6 (.int .i64 1) fun v36_1 w_33 =>
 kD [] [] (N [v44, v36_1] w_33))) (
 kBin (cR Tryz.prog R) w_21 .add 9 (.string ⟨#[39]⟩) x5 fun v53 w_34 =>
 kBin (cR Tryz.prog R) w_34 .add 9 v53 (.string ⟨#[39]⟩) fun v54 w_35 =>
 R (.returned (.tuple #[v54, (.int .i64 0)])) w_35)) (cs.getD 0 undef) (cs.getD 1 undef)) (
 kLoopF [(.string ⟨#[]⟩), (.int .i64 0)] w_16 fun cs_1 ds_1 w_36 N_1 =>
 (fun x5_1 x7 =>
 kFa (cR Tryz.prog R) w_36 59 v1_1 2 fun v56 w_37 =>
 kLoad (cR Tryz.prog R) w_37 9 v56 fun v57 w_38 =>
 kBlt (cR Tryz.prog R) w_38 .len #[9] 3 #[false] #[v57] fun v58 w_39 =>
 kBin (cR Tryz.prog R) w_39 .lss 3 x7 v58 fun v59 w_40 =>
 kIf v59 (
 kFa (cR Tryz.prog R) w_40 59 v1_1 2 fun v62 w_41 =>
 kLoad (cR Tryz.prog R) w_41 9 v62 fun v63 w_42 =>
 kIx (cR Tryz.prog R) w_42 9 v63 x7 fun v65 w_43 =>
 kConv (cR Tryz.prog R) w_43 5 3 v65 fun v66 w_44 =>
 kDrawn true (
 kBin (cQ Tryz.prog) w_44 .quo 3 v66 (.int .i64 16) fun v69 w_45 =>
 kBin (cQ Tryz.prog) w_45 .quo 3 v66 (.int .i64 16) fun v71 w_46 =>
 kBin (cQ Tryz.prog) w_46 .add 3 v71 (.int .i64 1) fun v72 w_47 =>
 kSl (cQ Tryz.prog) w_47 9 (.string ⟨#[48, 49, 50, 51, 52, 53, 54, 55, 56, 57, 97, 98, 99, 100, 101, 102]⟩) (some v69) (some v72) none fun v73 w_48 =>
 kBin (cQ Tryz.prog) w_48 .add 9 x5_1 v73 fun v74 w_49 =>
 kBin (cQ Tryz.prog) w_49 .rem 3 v66 (.int .i64 16) fun v76 w_50 =>
 kBin (cQ Tryz.prog) w_50 .rem 3 v66 (.int .i64 16) fun v78 w_51 =>
 kBin (cQ Tryz.prog) w_51 .add 3 v78 (.int .i64 1) fun v79 w_52 =>
 kSl (cQ Tryz.prog) w_52 9 (.string ⟨#[48, 49, 50, 51, 52, 53, 54, 55, 56, 57, 97, 98, 99, 100, 101, 102]⟩) (some v76) (some v79) none fun v80 w_53 =>
 kBin (cQ Tryz.prog) w_53 .add 9 v74 v80 fun v81 w_54 =>
 kDrew w_44 fun w_55 =>
 kBin (cR Tryz.prog R) w_55 .add 3 x7 (.int .i64 1) fun v61 w_56 =>
 kD [] [] (N_1 [v81, v61] w_56))) (
 kBin (cR Tryz.prog R) w_40 .add 9 (.string ⟨#[120, 39]⟩) x5_1 fun v83 w_57 =>
 kBin (cR Tryz.prog R) w_57 .add 9 v83 (.string ⟨#[39]⟩) fun v84 w_58 =>
 R (.returned (.tuple #[v84, (.int .i64 0)])) w_58)) (cs_1.getD 0 undef) (cs_1.getD 1 undef))))))
theorem c82 (v0 : Int) (v1 : Int) (v2 : ByteArray) (R : Ending → World → Prop) (w : World) (h : vc82 v0 v1 v2 R w) : Calls Tryz.prog 82 #[(.agg #[(.int .i64 v0), (.int .i64 v1), (.string v2)])] w R :=
  calls_of_vc (A := { loops := [(1, [5, 6]), (3, [5, 7])], pars := [] }) (Eq.mpr (show FnVc Tryz.prog { loops := [(1, [5, 6]), (3, [5, 7])], pars := [] } 85 82 [(.agg #[(.int .i64 v0), (.int .i64 v1), (.string v2)])] R w = vc82 v0 v1 v2 R w by kernel_rfl) h)

/-- slices.ContainsFunc[[]int,int] -/
def vc83 (s : Option Addr) (sn : Nat) (sc : Nat) (f : Value) (R : Ending → World → Prop) (w : World) : Prop :=
 kCall (cR Tryz.prog R) w 122 #[(.slice s sn sc), f] fun v7 w_1 =>
 kBin (cR Tryz.prog R) w_1 .geq 3 v7 (.int .i64 0) fun v8 w_2 =>
 R (.returned v8) w_2
theorem c83 (s : Option Addr) (sn : Nat) (sc : Nat) (f : Value) (R : Ending → World → Prop) (w : World) (h : vc83 s sn sc f R w) : Calls Tryz.prog 83 #[(.slice s sn sc), f] w R :=
  calls_of_vc (A := { loops := [], pars := [] }) (Eq.mpr (show FnVc Tryz.prog { loops := [], pars := [] } 9 83 [(.slice s sn sc), f] R w = vc83 s sn sc f R w by kernel_rfl) h)

/-- loupe/code.in$1 -/
def vc84 (n : Int) (f0 : Value) (f1 : Value) (R : Ending → World → Prop) (w : World) : Prop :=
 kLoad (cR Tryz.prog R) w 3 f0 fun v6 w_1 =>
 kBin (cR Tryz.prog R) w_1 .lss 3 (.int .i64 n) v6 fun v7 w_2 =>
 kIf v7 (
 R (.returned (.bool true)) w_2) (
 kLoad (cR Tryz.prog R) w_2 3 f1 fun v10 w_3 =>
 kBin (cR Tryz.prog R) w_3 .gtr 3 (.int .i64 n) v10 fun v11 w_4 =>
 R (.returned v11) w_4)
theorem c84 (n : Int) (f0 : Value) (f1 : Value) (R : Ending → World → Prop) (w : World) (h : vc84 n f0 f1 R w) : Calls Tryz.prog 84 #[(.int .i64 n), f0, f1] w R :=
  calls_of_vc (A := { loops := [], pars := [] }) (Eq.mpr (show FnVc Tryz.prog { loops := [], pars := [] } 13 84 [(.int .i64 n), f0, f1] R w = vc84 n f0 f1 R w by kernel_rfl) h)

/-- slices.Equal[[]int,int] -/
def vc85 (s1 : Option Addr) (s1n : Nat) (s1c : Nat) (s2 : Option Addr) (s2n : Nat) (s2c : Nat) (R : Ending → World → Prop) (w : World) : Prop :=
 kBlt (cR Tryz.prog R) w .len #[60] 3 #[false] #[(.slice s1 s1n s1c)] fun v7 w_1 =>
 kBlt (cR Tryz.prog R) w_1 .len #[60] 3 #[false] #[(.slice s2 s2n s2c)] fun v9 w_2 =>
 kEq (cR Tryz.prog R) w_2 .neq 3 (.tmp 7) (.tmp 9) v7 v9 fun v10 w_3 =>
 kIf v10 (
 R (.returned (.bool false)) w_3) (
 kBlt (cR Tryz.prog R) w_3 .len #[60] 3 #[false] #[(.slice s1 s1n s1c)] fun v12 w_4 =>
 kLoopF [(.int .i64 0)] w_4 fun cs ds w_5 N =>
 (fun x13 =>
 kBin (cR Tryz.prog R) w_5 .lss 3 x13 v12 fun v14 w_6 =>
 kIf v14 (
 kDrawn true (
 kIa (cQ Tryz.prog) w_6 60 (.slice s1 s1n s1c) x13 fun v18 w_7 =>
 kLoad (cQ Tryz.prog) w_7 3 v18 fun v19 w_8 =>
 kIa (cQ Tryz.prog) w_8 60 (.slice s2 s2n s2c) x13 fun v22 w_9 =>
 kLoad (cQ Tryz.prog) w_9 3 v22 fun v23 w_10 =>
 kEq (cQ Tryz.prog) w_10 .neq 3 (.tmp 19) (.tmp 23) v19 v23 fun v24 w_11 =>
 kDrew w_6 fun w_12 =>
 kIf v24 (
 R (.returned (.bool false)) w_12) (
 kBin (cR Tryz.prog R) w_12 .add 3 x13 (.int .i64 1) fun v25 w_13 =>
 kD [] [] (N [v25] w_13)))) (
 R (.returned (.bool true)) w_6)) (cs.getD 0 undef))
theorem c85 (s1 : Option Addr) (s1n : Nat) (s1c : Nat) (s2 : Option Addr) (s2n : Nat) (s2c : Nat) (R : Ending → World → Prop) (w : World) (h : vc85 s1 s1n s1c s2 s2n s2c R w) : Calls Tryz.prog 85 #[(.slice s1 s1n s1c), (.slice s2 s2n s2c)] w R :=
  calls_of_vc (A := { loops := [(0, [13])], pars := [] }) (Eq.mpr (show FnVc Tryz.prog { loops := [(0, [13])], pars := [] } 26 85 [(.slice s1 s1n s1c), (.slice s2 s2n s2c)] R w = vc85 s1 s1n s1c s2 s2n s2c R w by kernel_rfl) h)

/-- loupe/value.Check -/
def vc104 (v0 : Int) (v1 : Int) (v2 : ByteArray) (R : Ending → World → Prop) (w : World) : Prop :=
 kBox (cR Tryz.prog R) w 59 (.agg #[(.int .i64 v0), (.int .i64 v1), (.string v2)]) fun v1_1 w_1 =>
 kAlloc (cR Tryz.prog R) w_1 26 fun v2_1 w_2 =>
 (fun (c : Cx) =>
 kLoad c w_2 59 v1_1 fun v3 w_3 =>
 kCall c w_3 78 #[v3] fun v4 w_4 =>
 kStore c w_4 26 v2_1 (.int .i64 0) fun w_5 =>
 Lv Tryz.prog [.cell v2_1 26] R [{ target := .fn (.func 76) #[], args := #[v2_1, (.func (.func 130) #[] #[])] }] .returning w_5) ⟨Tryz.prog, fun ch w => Lv Tryz.prog [.cell v2_1 26] R [{ target := .fn (.func 76) #[], args := #[v2_1, (.func (.func 130) #[] #[])] }] (.panicking ch) w, false⟩
theorem c104 (v0 : Int) (v1 : Int) (v2 : ByteArray) (R : Ending → World → Prop) (w : World) (h : vc104 v0 v1 v2 R w) : Calls Tryz.prog 104 #[(.agg #[(.int .i64 v0), (.int .i64 v1), (.string v2)])] w R :=
  calls_of_vc (A := { loops := [], pars := [] }) (Eq.mpr (show FnVc Tryz.prog { loops := [], pars := [] } 5 104 [(.agg #[(.int .i64 v0), (.int .i64 v1), (.string v2)])] R w = vc104 v0 v1 v2 R w by kernel_rfl) h)

/-- loupe/code.args$1 -/
def vc105 (x0 : Int) (x1 : Int) (x2 : Int) (x3 : Int) (x4 : Int) (x5 : Int) (x6 : Int) (x7 : ByteArray) (x8 : ByteArray) (x9 : Option Addr) (x9n : Nat) (x9c : Nat) (f0 : Value) (R : Ending → World → Prop) (w : World) : Prop :=
 kBox (cR Tryz.prog R) w 62 (.agg #[(.int .i64 x0), (.int .i64 x1), (.int .i64 x2), (.int .i64 x3), (.int .i64 x4), (.int .i64 x5), (.int .i64 x6), (.string x7), (.string x8), (.slice x9 x9n x9c)]) fun v2 w_1 =>
 kAlloc (cR Tryz.prog R) w_1 62 fun v3 w_2 =>
 kDrawn true (
 kDrawn true (
 kFa (cQ Tryz.prog) w_2 62 v2 7 fun v5 w_3 =>
 kLoad (cQ Tryz.prog) w_3 60 v5 fun v6 w_4 =>
 kBuild (cQ Tryz.prog) w_4 62 #[(7, v6)] fun v7 w_5 =>
 kFa (cQ Tryz.prog) w_5 62 v2 7 fun v8 w_6 =>
 kLoad (cQ Tryz.prog) w_6 60 v8 fun v9 w_7 =>
 kBlt (cQ Tryz.prog) w_7 .len #[60] 3 #[false] #[v9] fun v10 w_8 =>
 kLoad (cQ Tryz.prog) w_8 3 f0 fun v11 w_9 =>
 kBin (cQ Tryz.prog) w_9 .geq 3 v10 v11 fun v12 w_10 =>
 kIf v12 (
 kFa (cQ Tryz.prog) w_10 62 v2 7 fun v14 w_11 =>
 kLoad (cQ Tryz.prog) w_11 60 v14 fun v15 w_12 =>
 kBlt (cQ Tryz.prog) w_12 .len #[60] 3 #[false] #[v15] fun v16 w_13 =>
 kBin (cQ Tryz.prog) w_13 .leq 3 v16 (.int .i64 200) fun v17 w_14 =>
 kIf v17 (
 kFa (cQ Tryz.prog) w_14 62 v2 7 fun v20 w_15 =>
 kLoad (cQ Tryz.prog) w_15 60 v20 fun v21 w_16 =>
 kDrew w_16 fun w_17 =>
 (fun (c : Cx) =>
 kCall c w_17 36 #[(.int .i64 0), (.int .i64 399), v21] fun v22 w_18 =>
 kFa (cQ Tryz.prog) w_18 62 v2 7 fun v5_1 w_19 =>
 kSame v5_1 v5 (
 kLoad (cQ Tryz.prog) w_18 60 v5 fun v6_1 w_20 =>
 kSame v6_1 v6 (
 kBuild (cQ Tryz.prog) w_18 62 #[(7, v6)] fun v7_1 w_21 =>
 kSame v7_1 v7 (
 kDrew w_18 fun w_22 =>
 kStore c w_22 62 v3 v7 fun w_23 =>
 kDrew w_23 fun w_24 =>
 RetK Tryz.prog [.cell v3 62, .val v22] R w_24)))) ⟨Tryz.prog, fun ch w => ∀ _ : List Value, R (.panicked ch) w, false⟩) (
 kDrew w_14 fun w_25 =>
 (fun (c_1 : Cx) =>
 kStore c_1 w_25 62 v3 v7 fun w_26 =>
 kDrew w_26 fun w_27 =>
 RetK Tryz.prog [.cell v3 62, .val (.bool false)] R w_27) ⟨Tryz.prog, fun ch w => ∀ _ : List Value, R (.panicked ch) w, false⟩)) (
 kDrew w_10 fun w_28 =>
 (fun (c_2 : Cx) =>
 kStore c_2 w_28 62 v3 v7 fun w_29 =>
 kDrew w_29 fun w_30 =>
 RetK Tryz.prog [.cell v3 62, .val (.bool false)] R w_30) ⟨Tryz.prog, fun ch w => ∀ _ : List Value, R (.panicked ch) w, false⟩)))
theorem c105 (x0 : Int) (x1 : Int) (x2 : Int) (x3 : Int) (x4 : Int) (x5 : Int) (x6 : Int) (x7 : ByteArray) (x8 : ByteArray) (x9 : Option Addr) (x9n : Nat) (x9c : Nat) (f0 : Value) (R : Ending → World → Prop) (w : World) (h : vc105 x0 x1 x2 x3 x4 x5 x6 x7 x8 x9 x9n x9c f0 R w) : Calls Tryz.prog 105 #[(.agg #[(.int .i64 x0), (.int .i64 x1), (.int .i64 x2), (.int .i64 x3), (.int .i64 x4), (.int .i64 x5), (.int .i64 x6), (.string x7), (.string x8), (.slice x9 x9n x9c)]), f0] w R :=
  calls_of_vc (A := { loops := [], pars := [], chs := [(1, (.q 0 (.q 1 (.q 2 (.q 3 (.q 4 (.q 5 (.q 6 (.q 7 (.q 8 (.q 9 (.q 10 (.q 11 (.q 12 (.q 13 (.q 14 (.q 15 (.q 16 (.e 17 (.q 18 (.e 19 .done)))))))))))))))))))))] }) (Eq.mpr (show FnVc Tryz.prog { loops := [], pars := [], chs := [(1, (.q 0 (.q 1 (.q 2 (.q 3 (.q 4 (.q 5 (.q 6 (.q 7 (.q 8 (.q 9 (.q 10 (.q 11 (.q 12 (.q 13 (.q 14 (.q 15 (.q 16 (.e 17 (.q 18 (.e 19 .done)))))))))))))))))))))] } 24 105 [(.agg #[(.int .i64 x0), (.int .i64 x1), (.int .i64 x2), (.int .i64 x3), (.int .i64 x4), (.int .i64 x5), (.int .i64 x6), (.string x7), (.string x8), (.slice x9 x9n x9c)]), f0] R w = vc105 x0 x1 x2 x3 x4 x5 x6 x7 x8 x9 x9n x9c f0 R w by kernel_rfl) h)

/-- slices.Contains[[]string,string] -/
def vc106 (s : Option Addr) (sn : Nat) (sc : Nat) (v : ByteArray) (R : Ending → World → Prop) (w : World) : Prop :=
 kCall (cR Tryz.prog R) w 131 #[(.slice s sn sc), (.string v)] fun v7 w_1 =>
 kBin (cR Tryz.prog R) w_1 .geq 3 v7 (.int .i64 0) fun v8 w_2 =>
 R (.returned v8) w_2
theorem c106 (s : Option Addr) (sn : Nat) (sc : Nat) (v : ByteArray) (R : Ending → World → Prop) (w : World) (h : vc106 s sn sc v R w) : Calls Tryz.prog 106 #[(.slice s sn sc), (.string v)] w R :=
  calls_of_vc (A := { loops := [], pars := [] }) (Eq.mpr (show FnVc Tryz.prog { loops := [], pars := [] } 9 106 [(.slice s sn sc), (.string v)] R w = vc106 s sn sc v R w by kernel_rfl) h)

/-- loupe/value.must -/
def vc108 (fine : Bool) (eA : Int) (R : Ending → World → Prop) (w : World) : Prop :=
 kUn (cR Tryz.prog R) w .not (.bool fine) fun v5 w_1 =>
 kIf v5 (
 kMkI (cR Tryz.prog R) w_1 26 (.int .i64 eA) fun v7 w_2 =>
 kPanic (cR Tryz.prog R) w_2 v7) (
 R (.returned (.tuple #[])) w_1)
theorem c108 (fine : Bool) (eA : Int) (R : Ending → World → Prop) (w : World) (h : vc108 fine eA R w) : Calls Tryz.prog 108 #[(.bool fine), (.int .i64 eA)] w R :=
  calls_of_vc (A := { loops := [], pars := [] }) (Eq.mpr (show FnVc Tryz.prog { loops := [], pars := [] } 8 108 [(.bool fine), (.int .i64 eA)] R w = vc108 fine eA R w by kernel_rfl) h)

/-- loupe/value.laid$1 -/
def vc109 (a0 : Int) (a1 : Int) (a2 : ByteArray) (R : Ending → World → Prop) (w : World) : Prop :=
 kBox (cR Tryz.prog R) w 59 (.agg #[(.int .i64 a0), (.int .i64 a1), (.string a2)]) fun v1 w_1 =>
 R (.returned (.string ⟨#[110, 117, 108, 108]⟩)) w_1
theorem c109 (a0 : Int) (a1 : Int) (a2 : ByteArray) (R : Ending → World → Prop) (w : World) (h : vc109 a0 a1 a2 R w) : Calls Tryz.prog 109 #[(.agg #[(.int .i64 a0), (.int .i64 a1), (.string a2)])] w R :=
  calls_of_vc (A := { loops := [], pars := [] }) (Eq.mpr (show FnVc Tryz.prog { loops := [], pars := [] } 3 109 [(.agg #[(.int .i64 a0), (.int .i64 a1), (.string a2)])] R w = vc109 a0 a1 a2 R w by kernel_rfl) h)

/-- loupe/value.laid$2 -/
def vc110 (v0 : Int) (v1 : Int) (v2 : ByteArray) (R : Ending → World → Prop) (w : World) : Prop :=
 kBox (cR Tryz.prog R) w 59 (.agg #[(.int .i64 v0), (.int .i64 v1), (.string v2)]) fun v1_1 w_1 =>
 kFa (cR Tryz.prog R) w_1 59 v1_1 1 fun v3 w_2 =>
 kLoad (cR Tryz.prog R) w_2 2 v3 fun v4 w_3 =>
 kEq (cR Tryz.prog R) w_3 .eql 2 (.tmp 4) (.const (.int .i64 1)) v4 (.int .i64 1) fun v5 w_4 =>
 kCall (cR Tryz.prog R) w_4 111 #[v5] fun v6 w_5 =>
 R (.returned v6) w_5
theorem c110 (v0 : Int) (v1 : Int) (v2 : ByteArray) (R : Ending → World → Prop) (w : World) (h : vc110 v0 v1 v2 R w) : Calls Tryz.prog 110 #[(.agg #[(.int .i64 v0), (.int .i64 v1), (.string v2)])] w R :=
  calls_of_vc (A := { loops := [], pars := [] }) (Eq.mpr (show FnVc Tryz.prog { loops := [], pars := [] } 7 110 [(.agg #[(.int .i64 v0), (.int .i64 v1), (.string v2)])] R w = vc110 v0 v1 v2 R w by kernel_rfl) h)

/-- strconv.FormatBool -/
def vc111 (b : Bool) (R : Ending → World → Prop) (w : World) : Prop :=
 kCall (cR Tryz.prog R) w 136 #[(.bool b)] fun v4 w_1 =>
 R (.returned v4) w_1
theorem c111 (b : Bool) (R : Ending → World → Prop) (w : World) (h : vc111 b R w) : Calls Tryz.prog 111 #[(.bool b)] w R :=
  calls_of_vc (A := { loops := [], pars := [] }) (Eq.mpr (show FnVc Tryz.prog { loops := [], pars := [] } 5 111 [(.bool b)] R w = vc111 b R w by kernel_rfl) h)

/-- loupe/value.laid$3 -/
def vc112 (v0 : Int) (v1 : Int) (v2 : ByteArray) (R : Ending → World → Prop) (w : World) : Prop :=
 kBox (cR Tryz.prog R) w 59 (.agg #[(.int .i64 v0), (.int .i64 v1), (.string v2)]) fun v1_1 w_1 =>
 kFa (cR Tryz.prog R) w_1 59 v1_1 1 fun v3 w_2 =>
 kLoad (cR Tryz.prog R) w_2 2 v3 fun v4 w_3 =>
 kCall (cR Tryz.prog R) w_3 113 #[v4, (.int .i64 10)] fun v5 w_4 =>
 R (.returned v5) w_4
theorem c112 (v0 : Int) (v1 : Int) (v2 : ByteArray) (R : Ending → World → Prop) (w : World) (h : vc112 v0 v1 v2 R w) : Calls Tryz.prog 112 #[(.agg #[(.int .i64 v0), (.int .i64 v1), (.string v2)])] w R :=
  calls_of_vc (A := { loops := [], pars := [] }) (Eq.mpr (show FnVc Tryz.prog { loops := [], pars := [] } 6 112 [(.agg #[(.int .i64 v0), (.int .i64 v1), (.string v2)])] R w = vc112 v0 v1 v2 R w by kernel_rfl) h)

/-- strconv.FormatInt -/
def vc113 (i : Int) (base : Int) (R : Ending → World → Prop) (w : World) : Prop :=
 kCall (cR Tryz.prog R) w 107 #[(.int .i64 i), (.int .i64 base)] fun v7 w_1 =>
 R (.returned v7) w_1
theorem c113 (i : Int) (base : Int) (R : Ending → World → Prop) (w : World) (h : vc113 i base R w) : Calls Tryz.prog 113 #[(.int .i64 i), (.int .i64 base)] w R :=
  calls_of_vc (A := { loops := [], pars := [] }) (Eq.mpr (show FnVc Tryz.prog { loops := [], pars := [] } 8 113 [(.int .i64 i), (.int .i64 base)] R w = vc113 i base R w by kernel_rfl) h)

/-- loupe/value.laid$4 -/
def vc114 (v0 : Int) (v1 : Int) (v2 : ByteArray) (R : Ending → World → Prop) (w : World) : Prop :=
 kBox (cR Tryz.prog R) w 59 (.agg #[(.int .i64 v0), (.int .i64 v1), (.string v2)]) fun v1_1 w_1 =>
 kFa (cR Tryz.prog R) w_1 59 v1_1 2 fun v3 w_2 =>
 kLoad (cR Tryz.prog R) w_2 9 v3 fun v4 w_3 =>
 kCall (cR Tryz.prog R) w_3 116 #[v4, (.string ⟨#[39]⟩), (.string ⟨#[39, 39]⟩)] fun v5 w_4 =>
 kCall (cR Tryz.prog R) w_4 115 #[v5] fun v6 w_5 =>
 R (.returned v6) w_5
theorem c114 (v0 : Int) (v1 : Int) (v2 : ByteArray) (R : Ending → World → Prop) (w : World) (h : vc114 v0 v1 v2 R w) : Calls Tryz.prog 114 #[(.agg #[(.int .i64 v0), (.int .i64 v1), (.string v2)])] w R :=
  calls_of_vc (A := { loops := [], pars := [] }) (Eq.mpr (show FnVc Tryz.prog { loops := [], pars := [] } 7 114 [(.agg #[(.int .i64 v0), (.int .i64 v1), (.string v2)])] R w = vc114 v0 v1 v2 R w by kernel_rfl) h)

/-- loupe/value.quoted -/
def vc115 (s : ByteArray) (R : Ending → World → Prop) (w : World) : Prop :=
 kBin (cR Tryz.prog R) w .add 9 (.string ⟨#[39]⟩) (.string s) fun v4 w_1 =>
 kBin (cR Tryz.prog R) w_1 .add 9 v4 (.string ⟨#[39]⟩) fun v5 w_2 =>
 R (.returned v5) w_2
theorem c115 (s : ByteArray) (R : Ending → World → Prop) (w : World) (h : vc115 s R w) : Calls Tryz.prog 115 #[(.string s)] w R :=
  calls_of_vc (A := { loops := [], pars := [] }) (Eq.mpr (show FnVc Tryz.prog { loops := [], pars := [] } 6 115 [(.string s)] R w = vc115 s R w by kernel_rfl) h)

/-- loupe/value.laid$5 -/
def vc117 (v0 : Int) (v1 : Int) (v2 : ByteArray) (R : Ending → World → Prop) (w : World) : Prop :=
 kBox (cR Tryz.prog R) w 59 (.agg #[(.int .i64 v0), (.int .i64 v1), (.string v2)]) fun v1_1 w_1 =>
 kAlloc (cR Tryz.prog R) w_1 67 fun v3 w_2 =>
 kFa (cR Tryz.prog R) w_2 59 v1_1 2 fun v6 w_3 =>
 kLoad (cR Tryz.prog R) w_3 9 v6 fun v7 w_4 =>
 kConv (cR Tryz.prog R) w_4 9 44 v7 fun v8 w_5 =>
 kBlt (cR Tryz.prog R) w_5 .len #[44] 3 #[false] #[v8] fun v9 w_6 =>
 kLoopF [(.int .i64 0)] w_6 fun cs ds w_7 N =>
 (fun x10 =>
 kBin (cR Tryz.prog R) w_7 .lss 3 x10 v9 fun v11 w_8 =>
 kIf v11 (
 kIa (cR Tryz.prog R) w_8 44 v8 x10 fun v12 w_9 =>
 kLoad (cR Tryz.prog R) w_9 5 v12 fun v13 w_10 =>
 kBin (cR Tryz.prog R) w_10 .shr 5 v13 (.int .u64 4) fun v15 w_11 =>
 kIx (cR Tryz.prog R) w_11 9 (.string ⟨#[48, 49, 50, 51, 52, 53, 54, 55, 56, 57, 97, 98, 99, 100, 101, 102]⟩) v15 fun v16 w_12 =>
 kCall (cR Tryz.prog R) w_12 118 #[v3, v16] fun v17 w_13 =>
 kBin (cR Tryz.prog R) w_13 .and 5 v13 (.int .u8 15) fun v19 w_14 =>
 kIx (cR Tryz.prog R) w_14 9 (.string ⟨#[48, 49, 50, 51, 52, 53, 54, 55, 56, 57, 97, 98, 99, 100, 101, 102]⟩) v19 fun v20 w_15 =>
 kCall (cR Tryz.prog R) w_15 118 #[v3, v20] fun v21 w_16 =>
 kBin (cR Tryz.prog R) w_16 .add 3 x10 (.int .i64 1) fun v22 w_17 =>
 kD [] [] (N [v22] w_17)) (
 kCall (cR Tryz.prog R) w_8 34 #[v3] fun v23 w_18 =>
 kCall (cR Tryz.prog R) w_18 115 #[v23] fun v24 w_19 =>
 kBin (cR Tryz.prog R) w_19 .add 9 (.string ⟨#[120]⟩) v24 fun v25 w_20 =>
 R (.returned v25) w_20)) (cs.getD 0 undef)
theorem c117 (v0 : Int) (v1 : Int) (v2 : ByteArray) (R : Ending → World → Prop) (w : World) (h : vc117 v0 v1 v2 R w) : Calls Tryz.prog 117 #[(.agg #[(.int .i64 v0), (.int .i64 v1), (.string v2)])] w R :=
  calls_of_vc (A := { loops := [(0, [10])], pars := [] }) (Eq.mpr (show FnVc Tryz.prog { loops := [(0, [10])], pars := [] } 26 117 [(.agg #[(.int .i64 v0), (.int .i64 v1), (.string v2)])] R w = vc117 v0 v1 v2 R w by kernel_rfl) h)

/-- (*strings.Builder).WriteByte -/
def vc118 (b : Value) (cA : Int) (R : Ending → World → Prop) (w : World) : Prop :=
 kCall (cR Tryz.prog R) w 80 #[b] fun v6 w_1 =>
 kNil (cR Tryz.prog R) w_1 b fun v9 w_2 =>
 kFa (cR Tryz.prog R) w_2 67 v9 1 fun v10 w_3 =>
 kLoad (cR Tryz.prog R) w_3 44 v10 fun v11 w_4 =>
 kBuildS (cR Tryz.prog R) w_4 44 1 #[(0, (.int .u8 cA))] fun v13 w_5 =>
 kBlt (cR Tryz.prog R) w_5 .append #[44, 44] 44 #[false, false] #[v11, v13] fun v14 w_6 =>
 kNil (cR Tryz.prog R) w_6 b fun v15 w_7 =>
 kFa (cR Tryz.prog R) w_7 67 v15 1 fun v16 w_8 =>
 kStore (cR Tryz.prog R) w_8 44 v16 v14 fun w_9 =>
 R (.returned .nilIface) w_9
theorem c118 (b : Value) (cA : Int) (R : Ending → World → Prop) (w : World) (h : vc118 b cA R w) : Calls Tryz.prog 118 #[b, (.int .u8 cA)] w R :=
  calls_of_vc (A := { loops := [], pars := [] }) (Eq.mpr (show FnVc Tryz.prog { loops := [], pars := [] } 17 118 [b, (.int .u8 cA)] R w = vc118 b cA R w by kernel_rfl) h)

/-- loupe/louperef01.Number -/
def vc121 (n : Int) (R : Ending → World → Prop) (w : World) : Prop :=
 kLoopF [(.string ⟨#[]⟩), (.int .i64 n)] w fun cs ds w_1 N =>
 (fun x3 x4 =>
 kBin (cR Tryz.prog R) w_1 .rem 2 x4 (.int .i64 10) fun v8 w_2 =>
 kJn (fun J =>
 kBin (cR Tryz.prog R) w_2 .lss 2 v8 (.int .i64 0) fun v10 w_11 =>
 kIf v10 (
 kUn (cR Tryz.prog R) w_11 .neg v8 fun v12 w_12 =>
 kD [] [] (J [v12] w_12)) (
 kD [] [] (J [v8] w_11))) (fun cs_1 w_3 => ∀ ds_1 : List Value,
 (fun j5 =>
 kBin (cR Tryz.prog R) w_3 .add 2 j5 (.int .i64 1) fun v15 w_4 =>
 kSl (cR Tryz.prog R) w_4 9 (.string ⟨#[48, 49, 50, 51, 52, 53, 54, 55, 56, 57, 97, 98, 99, 100, 101, 102]⟩) (some j5) (some v15) none fun v16 w_5 =>
 kBin (cR Tryz.prog R) w_5 .add 9 v16 x3 fun v18 w_6 =>
 kBin (cR Tryz.prog R) w_6 .quo 2 x4 (.int .i64 10) fun v20 w_7 =>
 kEq (cR Tryz.prog R) w_7 .eql 2 (.tmp 21) (.const (.int .i64 0)) v20 (.int .i64 0) fun v22 w_8 =>
 kIf v22 (
 kBin (cR Tryz.prog R) w_8 .lss 2 (.int .i64 n) (.int .i64 0) fun v24 w_9 =>
 kIf v24 (
 kBin (cR Tryz.prog R) w_9 .add 9 (.string ⟨#[45]⟩) v18 fun v26 w_10 =>
 R (.returned v26) w_10) (
 R (.returned v18) w_9)) (
 kD [] [] (N [v18, v20] w_8))) (cs_1.getD 0 undef))) (cs.getD 0 undef) (cs.getD 1 undef)
theorem c121 (n : Int) (R : Ending → World → Prop) (w : World) (h : vc121 n R w) : Calls Tryz.prog 121 #[(.int .i64 n)] w R :=
  calls_of_vc (A := { loops := [(1000006, [5]), (0, [3, 4])], pars := [] }) (Eq.mpr (show FnVc Tryz.prog { loops := [(1000006, [5]), (0, [3, 4])], pars := [] } 28 121 [(.int .i64 n)] R w = vc121 n R w by kernel_rfl) h)

/-- slices.IndexFunc[[]int,int] -/
def vc122 (s : Option Addr) (sn : Nat) (sc : Nat) (f : Value) (R : Ending → World → Prop) (w : World) : Prop :=
 kBlt (cR Tryz.prog R) w .len #[60] 3 #[false] #[(.slice s sn sc)] fun v7 w_1 =>
 kLoopF [(.int .i64 0)] w_1 fun cs ds w_2 N =>
 (fun x8 =>
 kBin (cR Tryz.prog R) w_2 .lss 3 x8 v7 fun v9 w_3 =>
 kIf v9 (
 kIa (cR Tryz.prog R) w_3 60 (.slice s sn sc) x8 fun v14 w_4 =>
 kLoad (cR Tryz.prog R) w_4 3 v14 fun v15 w_5 =>
 kCallV (cR Tryz.prog R) w_5 f #[v15] fun v16 w_6 =>
 kIf v16 (
 R (.returned x8) w_6) (
 kBin (cR Tryz.prog R) w_6 .add 3 x8 (.int .i64 1) fun v18 w_7 =>
 kD [] [] (N [v18] w_7))) (
 R (.returned (.int .i64 (-1))) w_3)) (cs.getD 0 undef)
theorem c122 (s : Option Addr) (sn : Nat) (sc : Nat) (f : Value) (R : Ending → World → Prop) (w : World) (h : vc122 s sn sc f R w) : Calls Tryz.prog 122 #[(.slice s sn sc), f] w R :=
  calls_of_vc (A := { loops := [(0, [8])], pars := [] }) (Eq.mpr (show FnVc Tryz.prog { loops := [(0, [8])], pars := [] } 19 122 [(.slice s sn sc), f] R w = vc122 s sn sc f R w by kernel_rfl) h)

/-- loupe/value.Check$1 -/
def vc130  (R : Ending → World → Prop) (w : World) : Prop :=
 R (.returned (.tuple #[])) w
theorem c130  (R : Ending → World → Prop) (w : World) (h : vc130  R w) : Calls Tryz.prog 130 #[] w R :=
  calls_of_vc (A := { loops := [], pars := [] }) (Eq.mpr (show FnVc Tryz.prog { loops := [], pars := [] } 0 130 [] R w = vc130  R w by kernel_rfl) h)

/-- slices.Index[[]string,string] -/
def vc131 (s : Option Addr) (sn : Nat) (sc : Nat) (v : ByteArray) (R : Ending → World → Prop) (w : World) : Prop :=
 kBlt (cR Tryz.prog R) w .len #[74] 3 #[false] #[(.slice s sn sc)] fun v7 w_1 =>
 kLoopF [(.int .i64 0)] w_1 fun cs ds w_2 N =>
 (fun x8 =>
 kBin (cR Tryz.prog R) w_2 .lss 3 x8 v7 fun v9 w_3 =>
 kIf v9 (
 kIa (cR Tryz.prog R) w_3 74 (.slice s sn sc) x8 fun v14 w_4 =>
 kLoad (cR Tryz.prog R) w_4 9 v14 fun v15 w_5 =>
 kEq (cR Tryz.prog R) w_5 .eql 9 (.tmp 11) (.tmp 15) (.string v) v15 fun v16 w_6 =>
 kIf v16 (
 R (.returned x8) w_6) (
 kBin (cR Tryz.prog R) w_6 .add 3 x8 (.int .i64 1) fun v18 w_7 =>
 kD [] [] (N [v18] w_7))) (
 R (.returned (.int .i64 (-1))) w_3)) (cs.getD 0 undef)
theorem c131 (s : Option Addr) (sn : Nat) (sc : Nat) (v : ByteArray) (R : Ending → World → Prop) (w : World) (h : vc131 s sn sc v R w) : Calls Tryz.prog 131 #[(.slice s sn sc), (.string v)] w R :=
  calls_of_vc (A := { loops := [(0, [8])], pars := [] }) (Eq.mpr (show FnVc Tryz.prog { loops := [(0, [8])], pars := [] } 19 131 [(.slice s sn sc), (.string v)] R w = vc131 s sn sc v R w by kernel_rfl) h)

/-- internal/strconv.FormatBool -/
def vc136 (b : Bool) (R : Ending → World → Prop) (w : World) : Prop :=
 kIf (.bool b) (
 R (.returned (.string ⟨#[116, 114, 117, 101]⟩)) w) (
 R (.returned (.string ⟨#[102, 97, 108, 115, 101]⟩)) w)
theorem c136 (b : Bool) (R : Ending → World → Prop) (w : World) (h : vc136 b R w) : Calls Tryz.prog 136 #[(.bool b)] w R :=
  calls_of_vc (A := { loops := [], pars := [] }) (Eq.mpr (show FnVc Tryz.prog { loops := [], pars := [] } 4 136 [(.bool b)] R w = vc136 b R w by kernel_rfl) h)

end Go.L
