/- What is to be shown of single functions, printed by a program and compared with the translation by the kernel: no condition. -/
import Derived.Test.YtfajbldbhkkfoaaGreatDoorA1
import Derived.Test.YtfajbldbhkkfoaaGreatDoorProg
set_option linter.unusedVariables false
set_option linter.unusedSimpArgs false
namespace Go.L
open Go Go.RowKit Go.Proofs
set_option maxRecDepth 100000
set_option linter.unusedVariables false

/-- loupe/loupelaw29.CodeHolds -/
def vc7 (l : Option Addr) (ln : Nat) (lc : Nat) (atA : Int) (byA : Int) (R : Ending → World → Prop) (w : World) : Prop :=
 kCall (cR Tryz.prog R) w 8 #[(.slice l ln lc), (.int .i64 40)] fun v17 w_1 =>
 kUn (cR Tryz.prog R) w_1 .not v17 fun v18 w_2 =>
 kIf v18 (
 kCall (cR Tryz.prog R) w_2 9 #[] fun v19 w_3 =>
 R (.returned v19) w_3) (
 kCall (cR Tryz.prog R) w_2 22 #[(.slice l ln lc)] fun v22 w_4 =>
 kExt v22 0 fun v23 =>
 kExt v22 1 fun v24 =>
 kCall (cR Tryz.prog R) w_4 13 #[v24] fun v26 w_5 =>
 kEq (cR Tryz.prog R) w_5 .neq 3 (.tmp 26) (.const (.int .i64 0)) v26 (.int .i64 0) fun v27 w_6 =>
 kIf v27 (
 kCall (cR Tryz.prog R) w_6 9 #[] fun v28 w_7 =>
 R (.returned v28) w_7) (
 kCall (cR Tryz.prog R) w_6 19 #[v23] fun v31 w_8 =>
 kExt v31 0 fun v32 =>
 kExt v31 1 fun v33 =>
 kJn (fun J =>
 kCall (cR Tryz.prog R) w_8 13 #[v33] fun v35 w_40 =>
 kEq (cR Tryz.prog R) w_40 .neq 3 (.tmp 35) (.const (.int .i64 0)) v35 (.int .i64 0) fun v36 w_41 =>
 kIf v36 (
 kIf (.bool true) (
 R (.returned (.bool false)) w_41) (
 kD [] [] (J [] w_41))) (
 kCall (cR Tryz.prog R) w_41 24 #[(.slice l ln lc), v32] fun v40 w_42 =>
 kUn (cR Tryz.prog R) w_42 .not v40 fun v41 w_43 =>
 kIf v41 (
 R (.returned (.bool false)) w_43) (
 kD [] [] (J [] w_43)))) (fun cs w_9 => ∀ ds : List Value,
 kJn (fun J_1 =>
 kBin (cR Tryz.prog R) w_9 .lss 3 (.int .i64 atA) (.int .i64 0) fun v44 w_33 =>
 kIf v44 (
 kIf (.bool true) (
 kCall (cR Tryz.prog R) w_33 9 #[] fun v55 w_34 =>
 R (.returned v55) w_34) (
 kD [] [] (J_1 [] w_33))) (
 kBlt (cR Tryz.prog R) w_33 .len #[44] 3 #[false] #[v23] fun v48 w_35 =>
 kBin (cR Tryz.prog R) w_35 .geq 3 (.int .i64 atA) v48 fun v49 w_36 =>
 kIf v49 (
 kIf (.bool true) (
 kCall (cR Tryz.prog R) w_36 9 #[] fun v55_1 w_37 =>
 R (.returned v55_1) w_37) (
 kD [] [] (J_1 [] w_36))) (
 kEq (cR Tryz.prog R) w_36 .eql 5 (.tmp 52) (.const (.int .u8 0)) (.int .u8 byA) (.int .u8 0) fun v53 w_38 =>
 kIf v53 (
 kCall (cR Tryz.prog R) w_38 9 #[] fun v55_2 w_39 =>
 R (.returned v55_2) w_39) (
 kD [] [] (J_1 [] w_38))))) (fun cs_1 w_10 => ∀ ds_1 : List Value,
 kBuildS (cR Tryz.prog R) w_10 44 0 #[] fun v56 w_11 =>
 kBlt (cR Tryz.prog R) w_11 .append #[44, 44] 44 #[false, false] #[v56, v23] fun v58 w_12 =>
 kIa (cR Tryz.prog R) w_12 44 v58 (.int .i64 atA) fun v63 w_13 =>
 kLoad (cR Tryz.prog R) w_13 5 v63 fun v64 w_14 =>
 kBin (cR Tryz.prog R) w_14 .add 5 v64 (.int .u8 byA) fun v66 w_15 =>
 kIa (cR Tryz.prog R) w_15 44 v58 (.int .i64 atA) fun v67 w_16 =>
 kStore (cR Tryz.prog R) w_16 5 v67 v66 fun w_17 =>
 kCall (cR Tryz.prog R) w_17 19 #[v58] fun v70 w_18 =>
 kExt v70 0 fun v71 =>
 kExt v70 1 fun v72 =>
 kCall (cR Tryz.prog R) w_18 13 #[v72] fun v74 w_19 =>
 kEq (cR Tryz.prog R) w_19 .neq 3 (.tmp 74) (.const (.int .i64 0)) v74 (.int .i64 0) fun v75 w_20 =>
 kIf v75 (
 kBlt (cR Tryz.prog R) w_20 .len #[22] 3 #[false] #[v71] fun v77 w_21 =>
 kEq (cR Tryz.prog R) w_21 .eql 3 (.tmp 77) (.const (.int .i64 0)) v77 (.int .i64 0) fun v78 w_22 =>
 kIf v78 (
 kCall (cR Tryz.prog R) w_22 9 #[] fun v80 w_23 =>
 R (.returned v80) w_23) (
 R (.returned (.bool false)) w_22)) (
 kCall (cR Tryz.prog R) w_20 22 #[v71] fun v84 w_24 =>
 kExt v84 0 fun v85 =>
 kExt v84 1 fun v86 =>
 kCall (cR Tryz.prog R) w_24 13 #[v86] fun v88 w_25 =>
 kEq (cR Tryz.prog R) w_25 .eql 3 (.tmp 88) (.const (.int .i64 0)) v88 (.int .i64 0) fun v89 w_26 =>
 kIf v89 (
 kConv (cR Tryz.prog R) w_26 44 9 v85 fun v92 w_27 =>
 kConv (cR Tryz.prog R) w_27 44 9 v58 fun v94 w_28 =>
 kEq (cR Tryz.prog R) w_28 .eql 9 (.tmp 92) (.tmp 94) v92 v94 fun v95 w_29 =>
 kIf v95 (
 kCall (cR Tryz.prog R) w_29 24 #[v71, (.slice l ln lc)] fun v100 w_30 =>
 kUn (cR Tryz.prog R) w_30 .not v100 fun v101 w_31 =>
 kIf v101 (
 kCall (cR Tryz.prog R) w_31 9 #[] fun v104 w_32 =>
 R (.returned v104) w_32) (
 R (.returned (.bool false)) w_31)) (
 R (.returned (.bool false)) w_29)) (
 R (.returned (.bool false)) w_26))))))
theorem c7 (l : Option Addr) (ln : Nat) (lc : Nat) (atA : Int) (byA : Int) (R : Ending → World → Prop) (w : World) (h : vc7 l ln lc atA byA R w) : Calls Tryz.prog 7 #[(.slice l ln lc), (.int .i64 atA), (.int .u8 byA)] w R :=
  calls_of_vc (A := { loops := [(1000011, []), (1000009, [])], pars := [] }) (Eq.mpr (show FnVc Tryz.prog { loops := [(1000011, []), (1000009, [])], pars := [] } 106 7 [(.slice l ln lc), (.int .i64 atA), (.int .u8 byA)] R w = vc7 l ln lc atA byA R w by kernel_rfl) h)

/-- loupe/loupelaw29.few -/
def vc8 (l : Option Addr) (ln : Nat) (lc : Nat) (most : Int) (R : Ending → World → Prop) (w : World) : Prop :=
 kLoopF [(.int .i64 0)] w fun cs ds w_1 N =>
 (fun x5 =>
 kJn (fun J =>
 kBlt (cR Tryz.prog R) w_1 .len #[22] 3 #[false] #[(.slice l ln lc)] fun v8 w_22 =>
 kBin (cR Tryz.prog R) w_22 .lss 3 x5 v8 fun v9 w_23 =>
 kIf v9 (
 kBin (cR Tryz.prog R) w_23 .leq 3 x5 (.int .i64 most) fun v13 w_24 =>
 kIf v13 (
 kD [] [] (J [] w_24)) (
 kBlt (cR Tryz.prog R) w_24 .len #[22] 3 #[false] #[(.slice l ln lc)] fun v44 w_25 =>
 kBin (cR Tryz.prog R) w_25 .leq 3 v44 (.int .i64 most) fun v46 w_26 =>
 R (.returned v46) w_26)) (
 kIf (.bool false) (
 kD [] [] (J [] w_23)) (
 kBlt (cR Tryz.prog R) w_23 .len #[22] 3 #[false] #[(.slice l ln lc)] fun v44_1 w_27 =>
 kBin (cR Tryz.prog R) w_27 .leq 3 v44_1 (.int .i64 most) fun v46_1 w_28 =>
 R (.returned v46_1) w_28))) (fun cs_1 w_2 => ∀ ds_1 : List Value,
 kIa (cR Tryz.prog R) w_2 22 (.slice l ln lc) x5 fun v19 w_3 =>
 kFa (cR Tryz.prog R) w_3 62 v19 7 fun v20 w_4 =>
 kLoad (cR Tryz.prog R) w_4 60 v20 fun v21 w_5 =>
 kBlt (cR Tryz.prog R) w_5 .len #[60] 3 #[false] #[v21] fun v22 w_6 =>
 kBin (cR Tryz.prog R) w_6 .gtr 3 v22 (.int .i64 300) fun v23 w_7 =>
 kIf v23 (
 kIf (.bool true) (
 R (.returned (.bool false)) w_7) (
 kBin (cR Tryz.prog R) w_7 .add 3 x5 (.int .i64 1) fun v16 w_8 =>
 kD [] [] (N [v16] w_8))) (
 kIa (cR Tryz.prog R) w_7 22 (.slice l ln lc) x5 fun v27 w_9 =>
 kFa (cR Tryz.prog R) w_9 62 v27 5 fun v28 w_10 =>
 kFa (cR Tryz.prog R) w_10 59 v28 2 fun v29 w_11 =>
 kLoad (cR Tryz.prog R) w_11 9 v29 fun v30 w_12 =>
 kBlt (cR Tryz.prog R) w_12 .len #[9] 3 #[false] #[v30] fun v31 w_13 =>
 kBin (cR Tryz.prog R) w_13 .gtr 3 v31 (.int .i64 1100) fun v32 w_14 =>
 kIf v32 (
 kIf (.bool true) (
 R (.returned (.bool false)) w_14) (
 kBin (cR Tryz.prog R) w_14 .add 3 x5 (.int .i64 1) fun v16_1 w_15 =>
 kD [] [] (N [v16_1] w_15))) (
 kIa (cR Tryz.prog R) w_14 22 (.slice l ln lc) x5 fun v37 w_16 =>
 kFa (cR Tryz.prog R) w_16 62 v37 6 fun v38 w_17 =>
 kLoad (cR Tryz.prog R) w_17 9 v38 fun v39 w_18 =>
 kBlt (cR Tryz.prog R) w_18 .len #[9] 3 #[false] #[v39] fun v40 w_19 =>
 kBin (cR Tryz.prog R) w_19 .gtr 3 v40 (.int .i64 1100) fun v41 w_20 =>
 kIf v41 (
 R (.returned (.bool false)) w_20) (
 kBin (cR Tryz.prog R) w_20 .add 3 x5 (.int .i64 1) fun v16_2 w_21 =>
 kD [] [] (N [v16_2] w_21)))))) (cs.getD 0 undef)
theorem c8 (l : Option Addr) (ln : Nat) (lc : Nat) (most : Int) (R : Ending → World → Prop) (w : World) (h : vc8 l ln lc most R w) : Calls Tryz.prog 8 #[(.slice l ln lc), (.int .i64 most)] w R :=
  calls_of_vc (A := { loops := [(1000004, []), (0, [5])], pars := [] }) (Eq.mpr (show FnVc Tryz.prog { loops := [(1000004, []), (0, [5])], pars := [] } 47 8 [(.slice l ln lc), (.int .i64 most)] R w = vc8 l ln lc most R w by kernel_rfl) h)

/-- loupe/loupelaw29.works -/
def vc9  (R : Ending → World → Prop) (w : World) : Prop :=
 kAlloc (cR Tryz.prog R) w 4 fun v0 w_1 =>
 kCall (cR Tryz.prog R) w_1 25 #[] fun v8 w_2 =>
 kCall (cR Tryz.prog R) w_2 11 #[v8] fun v9 w_3 =>
 kExt v9 0 fun v10 =>
 kExt v9 1 fun v11 =>
 kCall (cR Tryz.prog R) w_3 25 #[] fun v12 w_4 =>
 kCall (cR Tryz.prog R) w_4 16 #[v12] fun v13 w_5 =>
 kEq (cR Tryz.prog R) w_5 .eql 37 (.tmp 14) (.const .nilFunc) v13 .nilFunc fun v15 w_6 =>
 kIf v15 (
 kStore (cR Tryz.prog R) w_6 4 v0 (.bool false) fun w_7 =>
 RetK Tryz.prog [.cell v0 4] R w_7) (
 kAlloc (cR Tryz.prog R) w_6 3 fun v4 w_8 =>
 kStore (cR Tryz.prog R) w_8 3 v4 (.int .i64 0) fun w_9 =>
 kRange Tryz.prog none w_9 v13 2 (fun l D args w_10 Rr =>
 (fun p17 p18 =>
 rndMid l D w_10 w_10 fun lo w_11 =>
 (fun (c : Cx) =>
 kEq c w_11 .neq 3 (.tmp 19) (.const (.int .i64 1)) p17 (.int .i64 1) fun v20 w_12 =>
 kIf v20 (
 kIf (.bool true) (
 kStore c w_12 4 v0 (.bool false) fun w_13 =>
 rndEnd l D lo w_10 Rr .ret [] w_13) (
 kLoad c w_12 3 v4 fun v25 w_14 =>
 kBin c w_14 .add 3 v25 (.int .i64 1) fun v26 w_15 =>
 kStore c w_15 3 v4 v26 fun w_16 =>
 rndEnd l D lo w_10 Rr .normal [] w_16)) (
 kEq c w_12 .neq 3 (.tmp 22) (.const (.int .i64 0)) p18 (.int .i64 0) fun v23 w_17 =>
 kIf v23 (
 kStore c w_17 4 v0 (.bool false) fun w_18 =>
 rndEnd l D lo w_10 Rr .ret [] w_18) (
 kLoad c w_17 3 v4 fun v25_1 w_19 =>
 kBin c w_19 .add 3 v25_1 (.int .i64 1) fun v26_1 w_20 =>
 kStore c w_20 3 v4 v26_1 fun w_21 =>
 rndEnd l D lo w_10 Rr .normal [] w_21))) ⟨Tryz.prog, fun ch w => rndEnd l D lo w_10 Rr (.panic ch) [] w, false⟩) (args.getD 0 undef) (args.getD 1 undef))
  (fun D_1 w_22 =>
 (fun (c_1 : Cx) =>
 kCall c_1 w_22 13 #[v11] fun v28 w_23 =>
 kEq c_1 w_23 .eql 3 (.tmp 28) (.const (.int .i64 0)) v28 (.int .i64 0) fun v29 w_24 =>
 kIf v29 (
 kEq c_1 w_24 .eql 9 (.tmp 31) (.const (.string ⟨#[48, 32, 118, 97, 108, 117, 101, 32, 51, 32, 53, 10, 49, 32, 105, 102, 32, 51, 32, 48, 10, 50, 32, 111, 112, 32, 52, 32, 43, 32, 51, 32, 51, 10, 51, 32, 115, 116, 111, 112, 10]⟩)) v10 (.string ⟨#[48, 32, 118, 97, 108, 117, 101, 32, 51, 32, 53, 10, 49, 32, 105, 102, 32, 51, 32, 48, 10, 50, 32, 111, 112, 32, 52, 32, 43, 32, 51, 32, 51, 10, 51, 32, 115, 116, 111, 112, 10]⟩) fun v32 w_25 =>
 kIf v32 (
 kLoad c_1 w_25 3 v4 fun v35 w_26 =>
 kEq c_1 w_26 .eql 3 (.tmp 35) (.const (.int .i64 1)) v35 (.int .i64 1) fun v36 w_27 =>
 kIf v36 (
 kBuild c_1 w_27 62 #[(0, (.int .i64 10)), (2, (.int .i64 2))] fun v39 w_28 =>
 kBuildS c_1 w_28 22 1 #[(0, v39)] fun v40 w_29 =>
 kCall c_1 w_29 14 #[v40] fun v41 w_30 =>
 kCall c_1 w_30 13 #[v41] fun v42 w_31 =>
 kEq c_1 w_31 .eql 3 (.tmp 42) (.const (.int .i64 2)) v42 (.int .i64 2) fun v43 w_32 =>
 kIf v43 (
 kBuild c_1 w_32 62 #[(0, (.int .i64 10)), (2, (.int .i64 1))] fun v46 w_33 =>
 kBuildS c_1 w_33 22 1 #[(0, v46)] fun v47 w_34 =>
 kCall c_1 w_34 14 #[v47] fun v48 w_35 =>
 kCall c_1 w_35 13 #[v48] fun v49 w_36 =>
 kEq c_1 w_36 .eql 3 (.tmp 49) (.const (.int .i64 0)) v49 (.int .i64 0) fun v50 w_37 =>
 kStore c_1 w_37 4 v0 v50 fun w_38 =>
 Lv Tryz.prog [.cell v0 4] R [markOf D_1] .returning w_38) (
 kStore c_1 w_32 4 v0 (.bool false) fun w_39 =>
 Lv Tryz.prog [.cell v0 4] R [markOf D_1] .returning w_39)) (
 kStore c_1 w_27 4 v0 (.bool false) fun w_40 =>
 Lv Tryz.prog [.cell v0 4] R [markOf D_1] .returning w_40)) (
 kStore c_1 w_25 4 v0 (.bool false) fun w_41 =>
 Lv Tryz.prog [.cell v0 4] R [markOf D_1] .returning w_41)) (
 kStore c_1 w_24 4 v0 (.bool false) fun w_42 =>
 Lv Tryz.prog [.cell v0 4] R [markOf D_1] .returning w_42)) ⟨Tryz.prog, fun ch w => Lv Tryz.prog [.cell v0 4] R [markOf D_1] (.panicking ch) w, false⟩)
  (fun D_1 w_43 =>
 Lv Tryz.prog [.cell v0 4] R [markOf D_1] .returning w_43)
  (fun _ _ _ => False)
  (fun D_1 ch w_45 => (fun ch w => Lv Tryz.prog [.cell v0 4] R [markOf D_1] (.panicking ch) w) ch w_45))
theorem c9  (R : Ending → World → Prop) (w : World) (h : vc9  R w) : Calls Tryz.prog 9 #[] w R :=
  calls_of_vc (A := { loops := [], pars := [] }) (Eq.mpr (show FnVc Tryz.prog { loops := [], pars := [] } 52 9 [] R w = vc9  R w by kernel_rfl) h)

/-- loupe/code.Text -/
def vc11 (l : Option Addr) (ln : Nat) (lc : Nat) (R : Ending → World → Prop) (w : World) : Prop :=
 kCall (cR Tryz.prog R) w 14 #[(.slice l ln lc)] fun v17 w_1 =>
 kEq (cR Tryz.prog R) w_1 .neq 26 (.tmp 18) (.const (.int .i64 0)) v17 (.int .i64 0) fun v19 w_2 =>
 kIf v19 (
 R (.returned (.tuple #[(.string ⟨#[]⟩), v17])) w_2) (
 kAlloc (cR Tryz.prog R) w_2 67 fun v5 w_3 =>
 kCall (cR Tryz.prog R) w_3 27 #[] fun v21 w_4 =>
 kBlt (cR Tryz.prog R) w_4 .len #[22] 3 #[false] #[(.slice l ln lc)] fun v23 w_5 =>
 kLoopF [(.int .i64 0)] w_5 fun cs ds w_6 N =>
 (fun x24 =>
 kBin (cR Tryz.prog R) w_6 .lss 3 x24 v23 fun v25 w_7 =>
 kIf v25 (
 kIa (cR Tryz.prog R) w_7 22 (.slice l ln lc) x24 fun v27 w_8 =>
 kLoad (cR Tryz.prog R) w_8 62 v27 fun v28 w_9 =>
 kAlloc (cR Tryz.prog R) w_9 62 fun v8 w_10 =>
 kStore (cR Tryz.prog R) w_10 62 v8 v28 fun w_11 =>
 kDrawn true (
 kDrawn true (
 kFa (cQ Tryz.prog) w_11 62 v8 0 fun v32 w_12 =>
 kLoad (cQ Tryz.prog) w_12 33 v32 fun v33 w_13 =>
 kLook (cQ Tryz.prog) w_13 68 v21 v33 false fun v34 w_14 =>
 kFd (cQ Tryz.prog) w_14 73 v34 0 fun v35 w_15 =>
 kDrew w_15 fun w_16 =>
 (fun (c : Cx) =>
 kCall c w_16 28 #[x24] fun v30 w_17 =>
 kFa (cQ Tryz.prog) w_17 62 v8 0 fun v32_1 w_18 =>
 kSame v32_1 v32 (
 kLoad (cQ Tryz.prog) w_17 33 v32 fun v33_1 w_19 =>
 kSame v33_1 v33 (
 kLook (cQ Tryz.prog) w_17 68 v21 v33 false fun v34_1 w_20 =>
 kSame v34_1 v34 (
 kFd (cQ Tryz.prog) w_17 73 v34 0 fun v35_1 w_21 =>
 kSame v35_1 v35 (
 kDrew w_17 fun w_22 =>
 kBuildS c w_22 74 2 #[(0, v30), (1, v35)] fun v36 w_23 =>
 kDrew w_23 fun w_24 =>
 kFa (cR Tryz.prog R) w_24 62 v8 0 fun v38 w_25 =>
 kLoad (cR Tryz.prog R) w_25 33 v38 fun v39 w_26 =>
 kLook (cR Tryz.prog R) w_26 68 v21 v39 false fun v40 w_27 =>
 kFd (cR Tryz.prog R) w_27 73 v40 1 fun v41 w_28 =>
 kBlt (cR Tryz.prog R) w_28 .len #[70] 3 #[false] #[v41] fun v42 w_29 =>
 kLoopF [v36, (.int .i64 0)] w_29 fun cs_1 ds_1 w_30 N_1 =>
 (fun x9 x43 =>
 kBin (cR Tryz.prog R) w_30 .lss 3 x43 v42 fun v44 w_31 =>
 kIf v44 (
 kIa (cR Tryz.prog R) w_31 70 v41 x43 fun v45 w_32 =>
 kLoad (cR Tryz.prog R) w_32 77 v45 fun v46 w_33 =>
 kAlloc (cR Tryz.prog R) w_33 77 fun v11 w_34 =>
 kStore (cR Tryz.prog R) w_34 77 v11 v46 fun w_35 =>
 kFa (cR Tryz.prog R) w_35 77 v11 0 fun v48 w_36 =>
 kLoad (cR Tryz.prog R) w_36 75 v48 fun v49 w_37 =>
 kCallV (cR Tryz.prog R) w_37 v49 #[v8] fun v50 w_38 =>
 kNil (cR Tryz.prog R) w_38 v50 fun v51 w_39 =>
 kLoad (cR Tryz.prog R) w_39 3 v51 fun v52 w_40 =>
 kCall (cR Tryz.prog R) w_40 28 #[v52] fun v53 w_41 =>
 kBuildS (cR Tryz.prog R) w_41 74 1 #[(0, v53)] fun v54 w_42 =>
 kBlt (cR Tryz.prog R) w_42 .append #[74, 74] 74 #[false, false] #[x9, v54] fun v55 w_43 =>
 kBin (cR Tryz.prog R) w_43 .add 3 x43 (.int .i64 1) fun v56 w_44 =>
 kD [] [] (N_1 [v55, v56] w_44)) (
 kJn (fun J =>
 kFa (cR Tryz.prog R) w_31 62 v8 4 fun v58 w_71 =>
 kLoad (cR Tryz.prog R) w_71 56 v58 fun v59 w_72 =>
 kCall (cR Tryz.prog R) w_72 29 #[v59] fun v60 w_73 =>
 kExt v60 0 fun v61 =>
 kExt v60 1 fun v62 =>
 kAlloc (cR Tryz.prog R) w_73 82 fun v12 w_74 =>
 kStore (cR Tryz.prog R) w_74 82 v12 v61 fun w_75 =>
 kIf v62 (
 kFa (cR Tryz.prog R) w_75 82 v12 0 fun v65 w_76 =>
 kLoad (cR Tryz.prog R) w_76 9 v65 fun v66 w_77 =>
 kBuildS (cR Tryz.prog R) w_77 74 1 #[(0, v66)] fun v67 w_78 =>
 kBlt (cR Tryz.prog R) w_78 .append #[74, 74] 74 #[false, false] #[x9, v67] fun v68 w_79 =>
 kD [] [] (J [v68] w_79)) (
 kD [] [] (J [x9] w_75))) (fun cs_2 w_45 => ∀ ds_2 : List Value,
 (fun j9 =>
 kJn (fun J_1 =>
 kFa (cR Tryz.prog R) w_45 62 v8 0 fun v69 w_63 =>
 kLoad (cR Tryz.prog R) w_63 33 v69 fun v70 w_64 =>
 kEq (cR Tryz.prog R) w_64 .eql 33 (.tmp 70) (.const (.int .i64 2)) v70 (.int .i64 2) fun v71 w_65 =>
 kIf v71 (
 kFa (cR Tryz.prog R) w_65 62 v8 5 fun v73 w_66 =>
 kLoad (cR Tryz.prog R) w_66 59 v73 fun v74 w_67 =>
 kCall (cR Tryz.prog R) w_67 30 #[v74] fun v75 w_68 =>
 kExt v75 0 fun v76 =>
 kExt v75 1 fun v77 =>
 kBuildS (cR Tryz.prog R) w_68 74 1 #[(0, v76)] fun v80 w_69 =>
 kBlt (cR Tryz.prog R) w_69 .append #[74, 74] 74 #[false, false] #[j9, v80] fun v81 w_70 =>
 kD [] [] (J_1 [v81] w_70)) (
 kD [] [] (J_1 [j9] w_65))) (fun cs_3 w_46 => ∀ ds_3 : List Value,
 (fun j9_1 =>
 kJn (fun J_2 =>
 kFa (cR Tryz.prog R) w_46 62 v8 6 fun v82 w_56 =>
 kLoad (cR Tryz.prog R) w_56 9 v82 fun v83 w_57 =>
 kEq (cR Tryz.prog R) w_57 .neq 9 (.tmp 83) (.const (.string ⟨#[]⟩)) v83 (.string ⟨#[]⟩) fun v84 w_58 =>
 kIf v84 (
 kFa (cR Tryz.prog R) w_58 62 v8 6 fun v86 w_59 =>
 kLoad (cR Tryz.prog R) w_59 9 v86 fun v87 w_60 =>
 kBuildS (cR Tryz.prog R) w_60 74 1 #[(0, v87)] fun v88 w_61 =>
 kBlt (cR Tryz.prog R) w_61 .append #[74, 74] 74 #[false, false] #[j9_1, v88] fun v89 w_62 =>
 kD [] [] (J_2 [v89] w_62)) (
 kD [] [] (J_2 [j9_1] w_58))) (fun cs_4 w_47 => ∀ ds_4 : List Value,
 (fun j9_2 =>
 kFa (cR Tryz.prog R) w_47 62 v8 7 fun v91 w_48 =>
 kLoad (cR Tryz.prog R) w_48 60 v91 fun v92 w_49 =>
 kCall (cR Tryz.prog R) w_49 33 #[v92, (.func (.func 28) #[] #[])] fun v93 w_50 =>
 kBlt (cR Tryz.prog R) w_50 .append #[74, 74] 74 #[false, false] #[j9_2, v93] fun v94 w_51 =>
 kCall (cR Tryz.prog R) w_51 32 #[v94, (.string ⟨#[32]⟩)] fun v95 w_52 =>
 kBin (cR Tryz.prog R) w_52 .add 9 v95 (.string ⟨#[10]⟩) fun v96 w_53 =>
 kCall (cR Tryz.prog R) w_53 31 #[v5, v96] fun v97 w_54 =>
 kBin (cR Tryz.prog R) w_54 .add 3 x24 (.int .i64 1) fun v98 w_55 =>
 kD [] [] (N [v98] w_55)) (cs_4.getD 0 undef))) (cs_3.getD 0 undef))) (cs_2.getD 0 undef)))) (cs_1.getD 0 undef) (cs_1.getD 1 undef)))))) ⟨Tryz.prog, fun ch w => ∀ _ : List Value, R (.panicked ch) w, false⟩))) (
 kCall (cR Tryz.prog R) w_7 34 #[v5] fun v99 w_80 =>
 R (.returned (.tuple #[v99, (.int .i64 0)])) w_80)) (cs.getD 0 undef))
theorem c11 (l : Option Addr) (ln : Nat) (lc : Nat) (R : Ending → World → Prop) (w : World) (h : vc11 l ln lc R w) : Calls Tryz.prog 11 #[(.slice l ln lc)] w R :=
  calls_of_vc (A := { loops := [(1000023, [9]), (1000021, [9]), (1000018, [9]), (2, [9, 43]), (0, [24])], pars := [], chs := [(9, (.q 0 (.q 2 (.q 3 (.q 4 (.q 5 (.q 6 (.e 1 (.e 7 .done)))))))))] }) (Eq.mpr (show FnVc Tryz.prog { loops := [(1000023, [9]), (1000021, [9]), (1000018, [9]), (2, [9, 43]), (0, [24])], pars := [], chs := [(9, (.q 0 (.q 2 (.q 3 (.q 4 (.q 5 (.q 6 (.e 1 (.e 7 .done)))))))))] } 100 11 [(.slice l ln lc)] R w = vc11 l ln lc R w by kernel_rfl) h)

/-- loupe/loupelaw29.num -/
def vc13 (eA : Int) (R : Ending → World → Prop) (w : World) : Prop :=
 R (.returned (.int .i64 eA)) w
theorem c13 (eA : Int) (R : Ending → World → Prop) (w : World) (h : vc13 eA R w) : Calls Tryz.prog 13 #[(.int .i64 eA)] w R :=
  calls_of_vc (A := { loops := [], pars := [] }) (Eq.mpr (show FnVc Tryz.prog { loops := [], pars := [] } 4 13 [(.int .i64 eA)] R w = vc13 eA R w by kernel_rfl) h)

/-- loupe/code.Check -/
def vc14 (l : Option Addr) (ln : Nat) (lc : Nat) (R : Ending → World → Prop) (w : World) : Prop :=
 kCall (cR Tryz.prog R) w 27 #[] fun v14 w_1 =>
 kBlt (cR Tryz.prog R) w_1 .len #[22] 3 #[false] #[(.slice l ln lc)] fun v16 w_2 =>
 kBin (cR Tryz.prog R) w_2 .gtr 3 v16 (.int .i64 2000) fun v17 w_3 =>
 kIf v17 (
 R (.returned (.int .i64 2)) w_3) (
 kBlt (cR Tryz.prog R) w_3 .len #[22] 3 #[false] #[(.slice l ln lc)] fun v19 w_4 =>
 kLoopF [(.int .i64 0)] w_4 fun cs ds w_5 N =>
 (fun x20 =>
 kBin (cR Tryz.prog R) w_5 .lss 3 x20 v19 fun v21 w_6 =>
 kIf v21 (
 kIa (cR Tryz.prog R) w_6 22 (.slice l ln lc) x20 fun v22 w_7 =>
 kLoad (cR Tryz.prog R) w_7 62 v22 fun v23 w_8 =>
 kAlloc (cR Tryz.prog R) w_8 62 fun v5 w_9 =>
 kStore (cR Tryz.prog R) w_9 62 v5 v23 fun w_10 =>
 kFa (cR Tryz.prog R) w_10 62 v5 0 fun v26 w_11 =>
 kLoad (cR Tryz.prog R) w_11 33 v26 fun v27 w_12 =>
 kLook (cR Tryz.prog R) w_12 68 v14 v27 true fun v28 w_13 =>
 kExt v28 0 fun v29 =>
 kExt v28 1 fun v30 =>
 kAlloc (cR Tryz.prog R) w_13 73 fun v6 w_14 =>
 kStore (cR Tryz.prog R) w_14 73 v6 v29 fun w_15 =>
 kUn (cR Tryz.prog R) w_15 .not v30 fun v32 w_16 =>
 kIf v32 (
 R (.returned (.int .i64 2)) w_16) (
 kFa (cR Tryz.prog R) w_16 73 v6 2 fun v34 w_17 =>
 kLoad (cR Tryz.prog R) w_17 71 v34 fun v35 w_18 =>
 kLoad (cR Tryz.prog R) w_18 62 v5 fun v36 w_19 =>
 kCallV (cR Tryz.prog R) w_19 v35 #[v36] fun v37 w_20 =>
 kExt v37 0 fun v38 =>
 kExt v37 1 fun v39 =>
 kAlloc (cR Tryz.prog R) w_20 62 fun v8 w_21 =>
 kStore (cR Tryz.prog R) w_21 62 v8 v38 fun w_22 =>
 kFa (cR Tryz.prog R) w_22 62 v5 0 fun v40 w_23 =>
 kLoad (cR Tryz.prog R) w_23 33 v40 fun v41 w_24 =>
 kFa (cR Tryz.prog R) w_24 62 v8 0 fun v42 w_25 =>
 kStore (cR Tryz.prog R) w_25 33 v42 v41 fun w_26 =>
 kFa (cR Tryz.prog R) w_26 73 v6 1 fun v43 w_27 =>
 kLoad (cR Tryz.prog R) w_27 70 v43 fun v44 w_28 =>
 kBlt (cR Tryz.prog R) w_28 .len #[70] 3 #[false] #[v44] fun v45 w_29 =>
 kLoopF [v39, (.int .i64 0)] w_29 fun cs_1 ds_1 w_30 N_1 =>
 (fun x9 x46 =>
 kBin (cR Tryz.prog R) w_30 .lss 3 x46 v45 fun v47 w_31 =>
 kIf v47 (
 kIa (cR Tryz.prog R) w_31 70 v44 x46 fun v48 w_32 =>
 kLoad (cR Tryz.prog R) w_32 77 v48 fun v49 w_33 =>
 kAlloc (cR Tryz.prog R) w_33 77 fun v11 w_34 =>
 kStore (cR Tryz.prog R) w_34 77 v11 v49 fun w_35 =>
 kFa (cR Tryz.prog R) w_35 77 v11 2 fun v50 w_36 =>
 kLoad (cR Tryz.prog R) w_36 3 v50 fun v51 w_37 =>
 kJn (fun J =>
 kFa (cR Tryz.prog R) w_37 77 v11 3 fun v52 w_55 =>
 kLoad (cR Tryz.prog R) w_55 4 v52 fun v53 w_56 =>
 kIf v53 (
 kBlt (cR Tryz.prog R) w_56 .len #[22] 3 #[false] #[(.slice l ln lc)] fun v55 w_57 =>
 kD [] [] (J [v55] w_57)) (
 kD [] [] (J [v51] w_56))) (fun cs_2 w_38 => ∀ ds_2 : List Value,
 (fun j12 =>
 kFa (cR Tryz.prog R) w_38 77 v11 0 fun v56 w_39 =>
 kLoad (cR Tryz.prog R) w_39 75 v56 fun v57 w_40 =>
 kCallV (cR Tryz.prog R) w_40 v57 #[v5] fun v58 w_41 =>
 kNil (cR Tryz.prog R) w_41 v58 fun v59 w_42 =>
 kLoad (cR Tryz.prog R) w_42 3 v59 fun v60 w_43 =>
 kJn (fun J_1 =>
 kIf x9 (
 kFa (cR Tryz.prog R) w_43 77 v11 1 fun v63 w_51 =>
 kLoad (cR Tryz.prog R) w_51 3 v63 fun v64 w_52 =>
 kBuildS (cR Tryz.prog R) w_52 60 1 #[(0, v60)] fun v67 w_53 =>
 kCall (cR Tryz.prog R) w_53 36 #[v64, j12, v67] fun v68 w_54 =>
 kD [] [] (J_1 [v68] w_54)) (
 kD [] [] (J_1 [(.bool false)] w_43))) (fun cs_3 w_44 => ∀ ds_3 : List Value,
 (fun j9 =>
 kFa (cR Tryz.prog R) w_44 77 v11 0 fun v70 w_45 =>
 kLoad (cR Tryz.prog R) w_45 75 v70 fun v71 w_46 =>
 kCallV (cR Tryz.prog R) w_46 v71 #[v8] fun v72 w_47 =>
 kNil (cR Tryz.prog R) w_47 v72 fun v74 w_48 =>
 kStore (cR Tryz.prog R) w_48 3 v74 v60 fun w_49 =>
 kBin (cR Tryz.prog R) w_49 .add 3 x46 (.int .i64 1) fun v75 w_50 =>
 kD [] [] (N_1 [j9, v75] w_50)) (cs_3.getD 0 undef))) (cs_2.getD 0 undef))) (
 kUn (cR Tryz.prog R) w_31 .not x9 fun v77 w_58 =>
 kIf v77 (
 kIf (.bool true) (
 R (.returned (.int .i64 2)) w_58) (
 kBin (cR Tryz.prog R) w_58 .add 3 x20 (.int .i64 1) fun v84 w_59 =>
 kD [] [] (N [v84] w_59))) (
 kLoad (cR Tryz.prog R) w_58 62 v8 fun v79 w_60 =>
 kLoad (cR Tryz.prog R) w_60 62 v5 fun v80 w_61 =>
 kCall (cR Tryz.prog R) w_61 37 #[v79, v80] fun v81 w_62 =>
 kUn (cR Tryz.prog R) w_62 .not v81 fun v82 w_63 =>
 kIf v82 (
 R (.returned (.int .i64 2)) w_63) (
 kBin (cR Tryz.prog R) w_63 .add 3 x20 (.int .i64 1) fun v84_1 w_64 =>
 kD [] [] (N [v84_1] w_64))))) (cs_1.getD 0 undef) (cs_1.getD 1 undef))) (
 R (.returned (.int .i64 0)) w_6)) (cs.getD 0 undef))
theorem c14 (l : Option Addr) (ln : Nat) (lc : Nat) (R : Ending → World → Prop) (w : World) (h : vc14 l ln lc R w) : Calls Tryz.prog 14 #[(.slice l ln lc)] w R :=
  calls_of_vc (A := { loops := [(1000020, [9]), (1000018, [12]), (2, [9, 46]), (0, [20])], pars := [] }) (Eq.mpr (show FnVc Tryz.prog { loops := [(1000020, [9]), (1000018, [12]), (2, [9, 46]), (0, [20])], pars := [] } 85 14 [(.slice l ln lc)] R w = vc14 l ln lc R w by kernel_rfl) h)

/-- loupe/code.Targets -/
def vc16 (l : Option Addr) (ln : Nat) (lc : Nat) (R : Ending → World → Prop) (w : World) : Prop :=
 kBox (cR Tryz.prog R) w 22 (.slice l ln lc) fun v1 w_1 =>
 kCall (cR Tryz.prog R) w_1 27 #[] fun v5 w_2 =>
 kAlloc (cR Tryz.prog R) w_2 68 fun v3 w_3 =>
 kStore (cR Tryz.prog R) w_3 68 v3 v5 fun w_4 =>
 kLoad (cR Tryz.prog R) w_4 22 v1 fun v6 w_5 =>
 kCall (cR Tryz.prog R) w_5 14 #[v6] fun v7 w_6 =>
 kEq (cR Tryz.prog R) w_6 .eql 26 (.tmp 7) (.const (.int .i64 0)) v7 (.int .i64 0) fun v8 w_7 =>
 kAlloc (cR Tryz.prog R) w_7 4 fun v4 w_8 =>
 kStore (cR Tryz.prog R) w_8 4 v4 v8 fun w_9 =>
 kLoad (cR Tryz.prog R) w_9 22 v1 fun v9 w_10 =>
 kCall (cR Tryz.prog R) w_10 39 #[v9] fun v10 w_11 =>
 kStore (cR Tryz.prog R) w_11 22 v1 v10 fun w_12 =>
 R (.returned (.func (.func 40) #[] #[v1, v3, v4])) w_12
theorem c16 (l : Option Addr) (ln : Nat) (lc : Nat) (R : Ending → World → Prop) (w : World) (h : vc16 l ln lc R w) : Calls Tryz.prog 16 #[(.slice l ln lc)] w R :=
  calls_of_vc (A := { loops := [], pars := [] }) (Eq.mpr (show FnVc Tryz.prog { loops := [], pars := [] } 12 16 [(.slice l ln lc)] R w = vc16 l ln lc R w by kernel_rfl) h)

/-- loupe/code.Decode -/
def vc19 (b : Option Addr) (bn : Nat) (bc : Nat) (R : Ending → World → Prop) (w : World) : Prop :=
 kAlloc (cR Tryz.prog R) w 22 fun v2 w_1 =>
 kAlloc (cR Tryz.prog R) w_1 26 fun v3 w_2 =>
 kLoopF [(.slice b bn bc)] w_2 fun cs ds w_3 N =>
 (fun x4 =>
 (fun (c : Cx) =>
 kBlt c w_3 .len #[44] 3 #[false] #[x4] fun v12 w_4 =>
 kBin c w_4 .gtr 3 v12 (.int .i64 0) fun v13 w_5 =>
 kIf v13 (
 kJn (fun J =>
 kBlt c w_5 .len #[44] 3 #[false] #[x4] fun v15 w_48 =>
 kBin c w_48 .gtr 3 v15 (.int .i64 1) fun v16 w_49 =>
 kIf v16 (
 kLoad c w_49 22 v2 fun v18 w_50 =>
 kBlt c w_50 .len #[22] 3 #[false] #[v18] fun v19 w_51 =>
 kBin c w_51 .lss 3 v19 (.int .i64 2000) fun v20 w_52 =>
 kCall c w_52 43 #[v20, (.int .i64 390)] fun v22 w_53 =>
 kD [{ target := .fn (.func 41) #[], args := #[v3, (.func (.func 42) #[] #[v2])] }] [{ target := .fn (.func 41) #[], args := #[v3, (.func (.func 42) #[] #[v2])] }] (J [] w_53)) (
 kCall c w_49 43 #[(.bool false), (.int .i64 390)] fun v22_1 w_54 =>
 kD [{ target := .fn (.func 41) #[], args := #[v3, (.func (.func 42) #[] #[v2])] }] [{ target := .fn (.func 41) #[], args := #[v3, (.func (.func 42) #[] #[v2])] }] (J [] w_54))) (fun cs_1 w_6 => ∀ ds_1 : List Value,
 kDrawn true (
 kIa (cQ Tryz.prog) w_6 44 x4 (.int .i64 0) fun v24 w_7 =>
 kLoad (cQ Tryz.prog) w_7 5 v24 fun v25 w_8 =>
 kConv (cQ Tryz.prog) w_8 5 3 v25 fun v26 w_9 =>
 kBin (cQ Tryz.prog) w_9 .shl 3 v26 (.int .u64 8) fun v27 w_10 =>
 kIa (cQ Tryz.prog) w_10 44 x4 (.int .i64 1) fun v29 w_11 =>
 kLoad (cQ Tryz.prog) w_11 5 v29 fun v30 w_12 =>
 kConv (cQ Tryz.prog) w_12 5 3 v30 fun v31 w_13 =>
 kBin (cQ Tryz.prog) w_13 .or 3 v27 v31 fun v32 w_14 =>
 kDrew w_6 fun w_15 =>
 (fun (c_1 : Cx) =>
 kBlt c_1 w_15 .len #[44] 3 #[false] #[x4] fun v35 w_16 =>
 kBin c_1 w_16 .sub 3 v35 (.int .i64 2) fun v36 w_17 =>
 kBin c_1 w_17 .leq 3 v32 v36 fun v37 w_18 =>
 kCall c_1 w_18 43 #[v37, (.int .i64 390)] fun v38 w_19 =>
 kBin c_1 w_19 .add 3 (.int .i64 2) v32 fun v42 w_20 =>
 kBin c_1 w_20 .add 3 (.int .i64 2) v32 fun v44 w_21 =>
 kSl c_1 w_21 44 x4 (some (.int .i64 2)) (some v42) (some v44) fun v45 w_22 =>
 kCall c_1 w_22 44 #[v45] fun v46 w_23 =>
 kExt v46 0 fun v47 =>
 kExt v46 1 fun v48 =>
 kEq c_1 w_23 .eql 26 (.tmp 49) (.const (.int .i64 0)) v48 (.int .i64 0) fun v50 w_24 =>
 kCall c_1 w_24 43 #[v50, (.int .i64 390)] fun v51 w_25 =>
 kDrawn true (
 kDrawn true (
 kLoad (cQ Tryz.prog) w_25 22 v2 fun v52 w_26 =>
 kBin (cQ Tryz.prog) w_26 .add 3 (.int .i64 2) v32 fun v59 w_27 =>
 kSl (cQ Tryz.prog) w_27 44 x4 (some v59) none none fun v60 w_28 =>
 kDrew w_28 fun w_29 =>
 (fun (c_2 : Cx) =>
 kCall c_2 w_29 45 #[v47] fun v54 w_30 =>
 kLoad (cQ Tryz.prog) w_30 22 v2 fun v52_1 w_31 =>
 kSame v52_1 v52 (
 kBin (cQ Tryz.prog) w_30 .add 3 (.int .i64 2) v32 fun v59_1 w_32 =>
 kSame v59_1 v59 (
 kSl (cQ Tryz.prog) w_30 44 x4 (some v59) none none fun v60_1 w_33 =>
 kSame v60_1 v60 (
 kDrew w_30 fun w_34 =>
 kBuildS c_2 w_34 22 1 #[(0, v54)] fun v55 w_35 =>
 kLoad (cQ Tryz.prog) w_35 22 v2 fun v52_2 w_36 =>
 kSame v52_2 v52 (
 kBin (cQ Tryz.prog) w_35 .add 3 (.int .i64 2) v32 fun v59_2 w_37 =>
 kSame v59_2 v59 (
 kSl (cQ Tryz.prog) w_35 44 x4 (some v59) none none fun v60_2 w_38 =>
 kSame v60_2 v60 (
 kDrew w_35 fun w_39 =>
 kBlt c_2 w_39 .append #[22, 22] 22 #[false, false] #[v52, v55] fun v56 w_40 =>
 kBin (cQ Tryz.prog) w_40 .add 3 (.int .i64 2) v32 fun v59_3 w_41 =>
 kSame v59_3 v59 (
 kSl (cQ Tryz.prog) w_40 44 x4 (some v59) none none fun v60_3 w_42 =>
 kSame v60_3 v60 (
 kDrew w_40 fun w_43 =>
 kStore c_2 w_43 22 v2 v56 fun w_44 =>
 kBin (cQ Tryz.prog) w_44 .add 3 (.int .i64 2) v32 fun v59_4 w_45 =>
 kSame v59_4 v59 (
 kSl (cQ Tryz.prog) w_44 44 x4 (some v59) none none fun v60_4 w_46 =>
 kSame v60_4 v60 (
 kDrew w_44 fun w_47 =>
 kD [{ target := .fn (.func 41) #[], args := #[v3, (.func (.func 42) #[] #[v2])] }] [{ target := .fn (.func 41) #[], args := #[v3, (.func (.func 42) #[] #[v2])] }] (N [v60] w_47)))))))))))) ⟨Tryz.prog, fun ch w => ∀ _ : List Value, Lv Tryz.prog [.cell v2 22, .cell v3 26] R [{ target := .fn (.func 41) #[], args := #[v3, (.func (.func 42) #[] #[v2])] }] (.panicking ch) w, false⟩))) ⟨Tryz.prog, fun ch w => Lv Tryz.prog [.cell v2 22, .cell v3 26] R [{ target := .fn (.func 41) #[], args := #[v3, (.func (.func 42) #[] #[v2])] }] (.panicking ch) w, false⟩))) (
 kLoad c w_5 22 v2 fun v62 w_55 =>
 kCall c w_55 22 #[v62] fun v63 w_56 =>
 kExt v63 0 fun v64 =>
 kExt v63 1 fun v65 =>
 kStore c w_56 26 v3 v65 fun w_57 =>
 kLoad c w_57 26 v3 fun v66 w_58 =>
 kEq c w_58 .eql 26 (.tmp 66) (.const (.int .i64 0)) v66 (.int .i64 0) fun v67 w_59 =>
 kIf v67 (
 kCall c w_59 46 #[(.slice b bn bc), v64] fun v71 w_60 =>
 kCall c w_60 43 #[v71, (.int .i64 390)] fun v73 w_61 =>
 kLoad c w_61 22 v2 fun v74 w_62 =>
 kStore c w_62 22 v2 v74 fun w_63 =>
 kStore c w_63 26 v3 (.int .i64 0) fun w_64 =>
 Lv Tryz.prog [.cell v2 22, .cell v3 26] R [{ target := .fn (.func 41) #[], args := #[v3, (.func (.func 42) #[] #[v2])] }] .returning w_64) (
 kCall c w_59 43 #[(.bool false), (.int .i64 390)] fun v73_1 w_65 =>
 kLoad c w_65 22 v2 fun v74_1 w_66 =>
 kStore c w_66 22 v2 v74_1 fun w_67 =>
 kStore c w_67 26 v3 (.int .i64 0) fun w_68 =>
 Lv Tryz.prog [.cell v2 22, .cell v3 26] R [{ target := .fn (.func 41) #[], args := #[v3, (.func (.func 42) #[] #[v2])] }] .returning w_68))) ⟨Tryz.prog, fun ch w => Lv Tryz.prog [.cell v2 22, .cell v3 26] R [{ target := .fn (.func 41) #[], args := #[v3, (.func (.func 42) #[] #[v2])] }] (.panicking ch) w, false⟩) (cs.getD 0 undef)
theorem c19 (b : Option Addr) (bn : Nat) (bc : Nat) (R : Ending → World → Prop) (w : World) (h : vc19 b bn bc R w) : Calls Tryz.prog 19 #[(.slice b bn bc)] w R :=
  calls_of_vc (A := { loops := [(1000005, []), (0, [4])], pars := [], chs := [(9, (.q 0 (.q 1 (.q 5 (.q 6 (.q 7 (.q 8 (.e 2 (.e 3 (.e 4 (.e 9 .done)))))))))))] }) (Eq.mpr (show FnVc Tryz.prog { loops := [(1000005, []), (0, [4])], pars := [], chs := [(9, (.q 0 (.q 1 (.q 5 (.q 6 (.q 7 (.q 8 (.e 2 (.e 3 (.e 4 (.e 9 .done)))))))))))] } 75 19 [(.slice b bn bc)] R w = vc19 b bn bc R w by kernel_rfl) h)

/-- loupe/code.Encode -/
def vc22 (l : Option Addr) (ln : Nat) (lc : Nat) (R : Ending → World → Prop) (w : World) : Prop :=
 kAlloc (cR Tryz.prog R) w 44 fun v2 w_1 =>
 kAlloc (cR Tryz.prog R) w_1 26 fun v3 w_2 =>
 (fun (c : Cx) =>
 kCall c w_2 14 #[(.slice l ln lc)] fun v9 w_3 =>
 kEq c w_3 .eql 26 (.tmp 9) (.const (.int .i64 0)) v9 (.int .i64 0) fun v10 w_4 =>
 kCall c w_4 43 #[v10, (.int .i64 2)] fun v11 w_5 =>
 kBuild c w_5 114 #[(0, (.slice l ln lc))] fun v13 w_6 =>
 kBuild c w_6 116 #[(0, v13)] fun v14 w_7 =>
 kBox c w_7 116 v14 fun v15 w_8 =>
 kNil c w_8 v15 fun v17 w_9 =>
 kFa c w_9 116 v17 0 fun v18 w_10 =>
 kFa c w_10 114 v18 0 fun v19 w_11 =>
 kLoad c w_11 22 v19 fun v20 w_12 =>
 kBlt c w_12 .len #[22] 3 #[false] #[v20] fun v21 w_13 =>
 kLoopF [(.int .i64 0)] w_13 fun cs ds w_14 N =>
 (fun x22 =>
 kBin c w_14 .lss 3 x22 v21 fun v23 w_15 =>
 kIf v23 (
 kIa c w_15 22 v20 x22 fun v24 w_16 =>
 kLoad c w_16 62 v24 fun v25 w_17 =>
 kAlloc c w_17 62 fun v6 w_18 =>
 kStore c w_18 62 v6 v25 fun w_19 =>
 kLoad c w_19 62 v6 fun v27 w_20 =>
 kCall c w_20 50 #[v15, v27] fun v28 w_21 =>
 kBin c w_21 .add 3 x22 (.int .i64 1) fun v29 w_22 =>
 kD [{ target := .fn (.func 41) #[], args := #[v3, (.func (.func 49) #[] #[v2])] }] [{ target := .fn (.func 41) #[], args := #[v3, (.func (.func 49) #[] #[v2])] }] (N [v29] w_22)) (
 kNil c w_15 v15 fun v31 w_23 =>
 kFa c w_23 116 v31 1 fun v32 w_24 =>
 kLoad c w_24 44 v32 fun v33 w_25 =>
 kStore c w_25 44 v2 v33 fun w_26 =>
 kStore c w_26 26 v3 (.int .i64 0) fun w_27 =>
 Lv Tryz.prog [.cell v2 44, .cell v3 26] R [{ target := .fn (.func 41) #[], args := #[v3, (.func (.func 49) #[] #[v2])] }] .returning w_27)) (cs.getD 0 undef)) ⟨Tryz.prog, fun ch w => Lv Tryz.prog [.cell v2 44, .cell v3 26] R [{ target := .fn (.func 41) #[], args := #[v3, (.func (.func 49) #[] #[v2])] }] (.panicking ch) w, false⟩
theorem c22 (l : Option Addr) (ln : Nat) (lc : Nat) (R : Ending → World → Prop) (w : World) (h : vc22 l ln lc R w) : Calls Tryz.prog 22 #[(.slice l ln lc)] w R :=
  calls_of_vc (A := { loops := [(0, [22])], pars := [] }) (Eq.mpr (show FnVc Tryz.prog { loops := [(0, [22])], pars := [] } 34 22 [(.slice l ln lc)] R w = vc22 l ln lc R w by kernel_rfl) h)

/-- loupe/code.Same -/
def vc24 (a : Option Addr) (an : Nat) (ac : Nat) (b : Option Addr) (bn : Nat) (bc : Nat) (R : Ending → World → Prop) (w : World) : Prop :=
 kCall (cR Tryz.prog R) w 53 #[(.slice a an ac), (.slice b bn bc), (.func (.func 37) #[] #[])] fun v7 w_1 =>
 R (.returned v7) w_1
theorem c24 (a : Option Addr) (an : Nat) (ac : Nat) (b : Option Addr) (bn : Nat) (bc : Nat) (R : Ending → World → Prop) (w : World) (h : vc24 a an ac b bn bc R w) : Calls Tryz.prog 24 #[(.slice a an ac), (.slice b bn bc)] w R :=
  calls_of_vc (A := { loops := [], pars := [] }) (Eq.mpr (show FnVc Tryz.prog { loops := [], pars := [] } 8 24 [(.slice a an ac), (.slice b bn bc)] R w = vc24 a an ac b bn bc R w by kernel_rfl) h)

/-- loupe/loupelaw29.row -/
def vc25  (R : Ending → World → Prop) (w : World) : Prop :=
 kBuild (cR Tryz.prog R) w 59 #[(0, (.int .i64 2)), (1, (.int .i64 5))] fun v1 w_1 =>
 kBuild (cR Tryz.prog R) w_1 62 #[(0, (.int .i64 2)), (1, (.int .i64 3)), (5, v1)] fun v2 w_2 =>
 kBuild (cR Tryz.prog R) w_2 62 #[(0, (.int .i64 9)), (1, (.int .i64 3))] fun v3 w_3 =>
 kBuildS (cR Tryz.prog R) w_3 60 2 #[(0, (.int .i64 3)), (1, (.int .i64 3))] fun v4 w_4 =>
 kBuild (cR Tryz.prog R) w_4 62 #[(0, (.int .i64 3)), (1, (.int .i64 4)), (4, (.int .i64 1)), (7, v4)] fun v5 w_5 =>
 kBuild (cR Tryz.prog R) w_5 62 #[(0, (.int .i64 1))] fun v6 w_6 =>
 kBuildS (cR Tryz.prog R) w_6 22 4 #[(0, v2), (1, v3), (2, v5), (3, v6)] fun v7 w_7 =>
 R (.returned v7) w_7
theorem c25  (R : Ending → World → Prop) (w : World) (h : vc25  R w) : Calls Tryz.prog 25 #[] w R :=
  calls_of_vc (A := { loops := [], pars := [] }) (Eq.mpr (show FnVc Tryz.prog { loops := [], pars := [] } 8 25 [] R w = vc25  R w by kernel_rfl) h)

/-- loupe/code.kinds -/
def vc27  (R : Ending → World → Prop) (w : World) : Prop :=
 kMkMap (cR Tryz.prog R) w 68 none fun v10 w_1 =>
 kBuild (cR Tryz.prog R) w_1 73 #[(0, (.string ⟨#[115, 116, 111, 112]⟩)), (1, (.slice none 0 0)), (2, (.func (.func 67) #[] #[]))] fun v11 w_2 =>
 kUpd (cR Tryz.prog R) w_2 68 v10 (.int .i64 1) v11 fun w_3 =>
 kCallV (cR Tryz.prog R) w_3 (.func (.func 61) #[] #[]) #[(.func (.func 58) #[] #[])] fun v14 w_4 =>
 kBuildS (cR Tryz.prog R) w_4 70 1 #[(0, v14)] fun v15 w_5 =>
 kBuild (cR Tryz.prog R) w_5 73 #[(0, (.string ⟨#[118, 97, 108, 117, 101]⟩)), (1, v15), (2, (.func (.func 68) #[] #[]))] fun v16 w_6 =>
 kUpd (cR Tryz.prog R) w_6 68 v10 (.int .i64 2) v16 fun w_7 =>
 kCallV (cR Tryz.prog R) w_7 (.func (.func 61) #[] #[]) #[(.func (.func 58) #[] #[])] fun v19 w_8 =>
 kBuildS (cR Tryz.prog R) w_8 70 1 #[(0, v19)] fun v20 w_9 =>
 kBuild (cR Tryz.prog R) w_9 73 #[(0, (.string ⟨#[111, 112]⟩)), (1, v20), (2, (.func (.func 69) #[] #[]))] fun v21 w_10 =>
 kUpd (cR Tryz.prog R) w_10 68 v10 (.int .i64 3) v21 fun w_11 =>
 kCallV (cR Tryz.prog R) w_11 (.func (.func 61) #[] #[]) #[(.func (.func 58) #[] #[])] fun v24 w_12 =>
 kBuildS (cR Tryz.prog R) w_12 70 1 #[(0, v24)] fun v25 w_13 =>
 kCall (cR Tryz.prog R) w_13 70 #[(.int .i64 1)] fun v26 w_14 =>
 kBuild (cR Tryz.prog R) w_14 73 #[(0, (.string ⟨#[112, 105, 99, 107]⟩)), (1, v25), (2, v26)] fun v27 w_15 =>
 kUpd (cR Tryz.prog R) w_15 68 v10 (.int .i64 4) v27 fun w_16 =>
 kCallV (cR Tryz.prog R) w_16 (.func (.func 62) #[] #[]) #[(.func (.func 58) #[] #[])] fun v30 w_17 =>
 kBuildS (cR Tryz.prog R) w_17 70 1 #[(0, v30)] fun v31 w_18 =>
 kBuild (cR Tryz.prog R) w_18 73 #[(0, (.string ⟨#[115, 99, 97, 110]⟩)), (1, v31), (2, (.func (.func 71) #[] #[]))] fun v32 w_19 =>
 kUpd (cR Tryz.prog R) w_19 68 v10 (.int .i64 5) v32 fun w_20 =>
 kCallV (cR Tryz.prog R) w_20 (.func (.func 62) #[] #[]) #[(.func (.func 58) #[] #[])] fun v35 w_21 =>
 kCallV (cR Tryz.prog R) w_21 (.func (.func 65) #[] #[]) #[(.func (.func 59) #[] #[])] fun v38 w_22 =>
 kBuildS (cR Tryz.prog R) w_22 70 2 #[(0, v35), (1, v38)] fun v39 w_23 =>
 kBuild (cR Tryz.prog R) w_23 73 #[(0, (.string ⟨#[102, 105, 114, 115, 116]⟩)), (1, v39), (2, (.func (.func 67) #[] #[]))] fun v40 w_24 =>
 kUpd (cR Tryz.prog R) w_24 68 v10 (.int .i64 6) v40 fun w_25 =>
 kCallV (cR Tryz.prog R) w_25 (.func (.func 62) #[] #[]) #[(.func (.func 58) #[] #[])] fun v43 w_26 =>
 kCallV (cR Tryz.prog R) w_26 (.func (.func 65) #[] #[]) #[(.func (.func 59) #[] #[])] fun v46 w_27 =>
 kBuildS (cR Tryz.prog R) w_27 70 2 #[(0, v43), (1, v46)] fun v47 w_28 =>
 kBuild (cR Tryz.prog R) w_28 73 #[(0, (.string ⟨#[110, 101, 120, 116]⟩)), (1, v47), (2, (.func (.func 67) #[] #[]))] fun v48 w_29 =>
 kUpd (cR Tryz.prog R) w_29 68 v10 (.int .i64 7) v48 fun w_30 =>
 kCallV (cR Tryz.prog R) w_30 (.func (.func 61) #[] #[]) #[(.func (.func 58) #[] #[])] fun v51 w_31 =>
 kCallV (cR Tryz.prog R) w_31 (.func (.func 62) #[] #[]) #[(.func (.func 59) #[] #[])] fun v54 w_32 =>
 kCallV (cR Tryz.prog R) w_32 (.func (.func 64) #[] #[]) #[(.func (.func 60) #[] #[])] fun v57 w_33 =>
 kBuildS (cR Tryz.prog R) w_33 70 3 #[(0, v51), (1, v54), (2, v57)] fun v58 w_34 =>
 kBuild (cR Tryz.prog R) w_34 73 #[(0, (.string ⟨#[102, 105, 101, 108, 100]⟩)), (1, v58), (2, (.func (.func 67) #[] #[]))] fun v59 w_35 =>
 kUpd (cR Tryz.prog R) w_35 68 v10 (.int .i64 8) v59 fun w_36 =>
 kCallV (cR Tryz.prog R) w_36 (.func (.func 61) #[] #[]) #[(.func (.func 58) #[] #[])] fun v62 w_37 =>
 kCallV (cR Tryz.prog R) w_37 (.func (.func 65) #[] #[]) #[(.func (.func 59) #[] #[])] fun v65 w_38 =>
 kBuildS (cR Tryz.prog R) w_38 70 2 #[(0, v62), (1, v65)] fun v66 w_39 =>
 kBuild (cR Tryz.prog R) w_39 73 #[(0, (.string ⟨#[105, 102]⟩)), (1, v66), (2, (.func (.func 67) #[] #[]))] fun v67 w_40 =>
 kUpd (cR Tryz.prog R) w_40 68 v10 (.int .i64 9) v67 fun w_41 =>
 kCallV (cR Tryz.prog R) w_41 (.func (.func 65) #[] #[]) #[(.func (.func 59) #[] #[])] fun v70 w_42 =>
 kBuildS (cR Tryz.prog R) w_42 70 1 #[(0, v70)] fun v71 w_43 =>
 kBuild (cR Tryz.prog R) w_43 73 #[(0, (.string ⟨#[106, 117, 109, 112]⟩)), (1, v71), (2, (.func (.func 67) #[] #[]))] fun v72 w_44 =>
 kUpd (cR Tryz.prog R) w_44 68 v10 (.int .i64 10) v72 fun w_45 =>
 kCallV (cR Tryz.prog R) w_45 (.func (.func 62) #[] #[]) #[(.func (.func 58) #[] #[])] fun v75 w_46 =>
 kBuildS (cR Tryz.prog R) w_46 70 1 #[(0, v75)] fun v76 w_47 =>
 kCall (cR Tryz.prog R) w_47 70 #[(.int .i64 0)] fun v77 w_48 =>
 kBuild (cR Tryz.prog R) w_48 73 #[(0, (.string ⟨#[114, 111, 119]⟩)), (1, v76), (2, v77)] fun v78 w_49 =>
 kUpd (cR Tryz.prog R) w_49 68 v10 (.int .i64 11) v78 fun w_50 =>
 kCallV (cR Tryz.prog R) w_50 (.func (.func 62) #[] #[]) #[(.func (.func 58) #[] #[])] fun v81 w_51 =>
 kCallV (cR Tryz.prog R) w_51 (.func (.func 62) #[] #[]) #[(.func (.func 59) #[] #[])] fun v84 w_52 =>
 kBuildS (cR Tryz.prog R) w_52 70 2 #[(0, v81), (1, v84)] fun v85 w_53 =>
 kBuild (cR Tryz.prog R) w_53 73 #[(0, (.string ⟨#[108, 111, 111, 107, 115]⟩)), (1, v85), (2, (.func (.func 67) #[] #[]))] fun v86 w_54 =>
 kUpd (cR Tryz.prog R) w_54 68 v10 (.int .i64 12) v86 fun w_55 =>
 kCallV (cR Tryz.prog R) w_55 (.func (.func 63) #[] #[]) #[(.func (.func 58) #[] #[])] fun v89 w_56 =>
 kBuildS (cR Tryz.prog R) w_56 70 1 #[(0, v89)] fun v90 w_57 =>
 kBuild (cR Tryz.prog R) w_57 73 #[(0, (.string ⟨#[115, 117, 109]⟩)), (1, v90), (2, (.func (.func 72) #[] #[]))] fun v91 w_58 =>
 kUpd (cR Tryz.prog R) w_58 68 v10 (.int .i64 13) v91 fun w_59 =>
 kCallV (cR Tryz.prog R) w_59 (.func (.func 63) #[] #[]) #[(.func (.func 58) #[] #[])] fun v94 w_60 =>
 kCallV (cR Tryz.prog R) w_60 (.func (.func 61) #[] #[]) #[(.func (.func 59) #[] #[])] fun v97 w_61 =>
 kBuildS (cR Tryz.prog R) w_61 70 2 #[(0, v94), (1, v97)] fun v98 w_62 =>
 kBuild (cR Tryz.prog R) w_62 73 #[(0, (.string ⟨#[97, 100, 100]⟩)), (1, v98), (2, (.func (.func 67) #[] #[]))] fun v99 w_63 =>
 kUpd (cR Tryz.prog R) w_63 68 v10 (.int .i64 14) v99 fun w_64 =>
 kCallV (cR Tryz.prog R) w_64 (.func (.func 61) #[] #[]) #[(.func (.func 58) #[] #[])] fun v102 w_65 =>
 kCallV (cR Tryz.prog R) w_65 (.func (.func 63) #[] #[]) #[(.func (.func 59) #[] #[])] fun v105 w_66 =>
 kBuildS (cR Tryz.prog R) w_66 70 2 #[(0, v102), (1, v105)] fun v106 w_67 =>
 kBuild (cR Tryz.prog R) w_67 73 #[(0, (.string ⟨#[116, 111, 116, 97, 108]⟩)), (1, v106), (2, (.func (.func 67) #[] #[]))] fun v107 w_68 =>
 kUpd (cR Tryz.prog R) w_68 68 v10 (.int .i64 15) v107 fun w_69 =>
 kCallV (cR Tryz.prog R) w_69 (.func (.func 62) #[] #[]) #[(.func (.func 58) #[] #[])] fun v110 w_70 =>
 kCallV (cR Tryz.prog R) w_70 (.func (.func 64) #[] #[]) #[(.func (.func 60) #[] #[])] fun v113 w_71 =>
 kBuildS (cR Tryz.prog R) w_71 70 2 #[(0, v110), (1, v113)] fun v114 w_72 =>
 kBuild (cR Tryz.prog R) w_72 73 #[(0, (.string ⟨#[103, 114, 111, 117, 112, 115]⟩)), (1, v114), (2, (.func (.func 67) #[] #[]))] fun v115 w_73 =>
 kUpd (cR Tryz.prog R) w_73 68 v10 (.int .i64 16) v115 fun w_74 =>
 kCallV (cR Tryz.prog R) w_74 (.func (.func 62) #[] #[]) #[(.func (.func 58) #[] #[])] fun v118 w_75 =>
 kCallV (cR Tryz.prog R) w_75 (.func (.func 62) #[] #[]) #[(.func (.func 59) #[] #[])] fun v121 w_76 =>
 kCallV (cR Tryz.prog R) w_76 (.func (.func 65) #[] #[]) #[(.func (.func 60) #[] #[])] fun v124 w_77 =>
 kBuildS (cR Tryz.prog R) w_77 70 3 #[(0, v118), (1, v121), (2, v124)] fun v125 w_78 =>
 kBuild (cR Tryz.prog R) w_78 73 #[(0, (.string ⟨#[116, 97, 107, 101]⟩)), (1, v125), (2, (.func (.func 67) #[] #[]))] fun v126 w_79 =>
 kUpd (cR Tryz.prog R) w_79 68 v10 (.int .i64 17) v126 fun w_80 =>
 kCallV (cR Tryz.prog R) w_80 (.func (.func 62) #[] #[]) #[(.func (.func 58) #[] #[])] fun v129 w_81 =>
 kCallV (cR Tryz.prog R) w_81 (.func (.func 64) #[] #[]) #[(.func (.func 59) #[] #[])] fun v132 w_82 =>
 kBuildS (cR Tryz.prog R) w_82 70 2 #[(0, v129), (1, v132)] fun v133 w_83 =>
 kBuild (cR Tryz.prog R) w_83 73 #[(0, (.string ⟨#[111, 110, 99, 101]⟩)), (1, v133), (2, (.func (.func 67) #[] #[]))] fun v134 w_84 =>
 kUpd (cR Tryz.prog R) w_84 68 v10 (.int .i64 18) v134 fun w_85 =>
 kCallV (cR Tryz.prog R) w_85 (.func (.func 62) #[] #[]) #[(.func (.func 58) #[] #[])] fun v137 w_86 =>
 kCallV (cR Tryz.prog R) w_86 (.func (.func 64) #[] #[]) #[(.func (.func 59) #[] #[])] fun v140 w_87 =>
 kBuildS (cR Tryz.prog R) w_87 70 2 #[(0, v137), (1, v140)] fun v141 w_88 =>
 kBuild (cR Tryz.prog R) w_88 73 #[(0, (.string ⟨#[115, 111, 114, 116]⟩)), (1, v141), (2, (.func (.func 73) #[] #[]))] fun v142 w_89 =>
 kUpd (cR Tryz.prog R) w_89 68 v10 (.int .i64 19) v142 fun w_90 =>
 kCallV (cR Tryz.prog R) w_90 (.func (.func 62) #[] #[]) #[(.func (.func 58) #[] #[])] fun v145 w_91 =>
 kCallV (cR Tryz.prog R) w_91 (.func (.func 66) #[] #[]) #[(.func (.func 59) #[] #[])] fun v148 w_92 =>
 kCallV (cR Tryz.prog R) w_92 (.func (.func 64) #[] #[]) #[(.func (.func 60) #[] #[])] fun v151 w_93 =>
 kBuildS (cR Tryz.prog R) w_93 70 3 #[(0, v145), (1, v148), (2, v151)] fun v152 w_94 =>
 kBuild (cR Tryz.prog R) w_94 73 #[(0, (.string ⟨#[99, 117, 116]⟩)), (1, v152), (2, (.func (.func 67) #[] #[]))] fun v153 w_95 =>
 kUpd (cR Tryz.prog R) w_95 68 v10 (.int .i64 20) v153 fun w_96 =>
 kCallV (cR Tryz.prog R) w_96 (.func (.func 62) #[] #[]) #[(.func (.func 58) #[] #[])] fun v156 w_97 =>
 kBuildS (cR Tryz.prog R) w_97 70 1 #[(0, v156)] fun v157 w_98 =>
 kBuild (cR Tryz.prog R) w_98 73 #[(0, (.string ⟨#[103, 105, 118, 101]⟩)), (1, v157), (2, (.func (.func 67) #[] #[]))] fun v158 w_99 =>
 kUpd (cR Tryz.prog R) w_99 68 v10 (.int .i64 21) v158 fun w_100 =>
 R (.returned v10) w_100
theorem c27  (R : Ending → World → Prop) (w : World) (h : vc27  R w) : Calls Tryz.prog 27 #[] w R :=
  calls_of_vc (A := { loops := [], pars := [] }) (Eq.mpr (show FnVc Tryz.prog { loops := [], pars := [] } 160 27 [] R w = vc27  R w by kernel_rfl) h)

/-- loupe/sum.Info -/
def vc29 (o : Int) (R : Ending → World → Prop) (w : World) : Prop :=
 kAlloc (cR Tryz.prog R) w 82 fun v2 w_1 =>
 kJn (fun J =>
 kBin (cR Tryz.prog R) w_1 .leq 56 (.int .i64 o) (.int .i64 0) fun v5 w_6 =>
 kIf v5 (
 kIf (.bool true) (
 kBuild (cR Tryz.prog R) w_6 82 #[] fun v10 w_7 =>
 kStore (cR Tryz.prog R) w_7 82 v2 v10 fun w_8 =>
 RetK Tryz.prog [.cell v2 82, .val (.bool false)] R w_8) (
 kD [] [] (J [] w_6))) (
 kBin (cR Tryz.prog R) w_6 .gtr 56 (.int .i64 o) (.int .i64 20) fun v8 w_9 =>
 kIf v8 (
 kBuild (cR Tryz.prog R) w_9 82 #[] fun v10_1 w_10 =>
 kStore (cR Tryz.prog R) w_10 82 v2 v10_1 fun w_11 =>
 RetK Tryz.prog [.cell v2 82, .val (.bool false)] R w_11) (
 kD [] [] (J [] w_9)))) (fun cs w_2 => ∀ ds : List Value,
 kCall (cR Tryz.prog R) w_2 75 #[] fun v11 w_3 =>
 kIx (cR Tryz.prog R) w_3 127 v11 (.int .i64 o) fun v13 w_4 =>
 kStore (cR Tryz.prog R) w_4 82 v2 v13 fun w_5 =>
 RetK Tryz.prog [.cell v2 82, .val (.bool true)] R w_5)
theorem c29 (o : Int) (R : Ending → World → Prop) (w : World) (h : vc29 o R w) : Calls Tryz.prog 29 #[(.int .i64 o)] w R :=
  calls_of_vc (A := { loops := [(1000003, [])], pars := [] }) (Eq.mpr (show FnVc Tryz.prog { loops := [(1000003, [])], pars := [] } 14 29 [(.int .i64 o)] R w = vc29 o R w by kernel_rfl) h)

/-- loupe/value.Literal -/
def vc30 (v0 : Int) (v1 : Int) (v2 : ByteArray) (R : Ending → World → Prop) (w : World) : Prop :=
 kBox (cR Tryz.prog R) w 59 (.agg #[(.int .i64 v0), (.int .i64 v1), (.string v2)]) fun v1_1 w_1 =>
 kAlloc (cR Tryz.prog R) w_1 9 fun v2_1 w_2 =>
 kAlloc (cR Tryz.prog R) w_2 26 fun v3 w_3 =>
 (fun (c : Cx) =>
 kLoad c w_3 59 v1_1 fun v5 w_4 =>
 kCall c w_4 78 #[v5] fun v6 w_5 =>
 kDrawn true (
 kDrawn true (
 kFa (cQ Tryz.prog) w_5 59 v1_1 0 fun v8 w_6 =>
 kLoad (cQ Tryz.prog) w_6 57 v8 fun v9 w_7 =>
 kLoad (cQ Tryz.prog) w_7 59 v1_1 fun v11 w_8 =>
 kDrew w_8 fun w_9 =>
 (fun (c_1 : Cx) =>
 kCall c_1 w_9 79 #[] fun v7 w_10 =>
 kFa (cQ Tryz.prog) w_10 59 v1_1 0 fun v8_1 w_11 =>
 kSame v8_1 v8 (
 kLoad (cQ Tryz.prog) w_10 57 v8 fun v9_1 w_12 =>
 kSame v9_1 v9 (
 kLoad (cQ Tryz.prog) w_10 59 v1_1 fun v11_1 w_13 =>
 kSame v11_1 v11 (
 kLook (cQ Tryz.prog) w_10 131 v7 v9 false fun v10 w_14 =>
 kDrew w_14 fun w_15 =>
 kCallV c_1 w_15 v10 #[v11] fun v12 w_16 =>
 kDrew w_16 fun w_17 =>
 kStore c w_17 9 v2_1 v12 fun w_18 =>
 kStore c w_18 26 v3 (.int .i64 0) fun w_19 =>
 Lv Tryz.prog [.cell v2_1 9, .cell v3 26] R [{ target := .fn (.func 76) #[], args := #[v3, (.func (.func 77) #[] #[v2_1])] }] .returning w_19)))) ⟨Tryz.prog, fun ch w => ∀ _ : List Value, Lv Tryz.prog [.cell v2_1 9, .cell v3 26] R [{ target := .fn (.func 76) #[], args := #[v3, (.func (.func 77) #[] #[v2_1])] }] (.panicking ch) w, false⟩))) ⟨Tryz.prog, fun ch w => Lv Tryz.prog [.cell v2_1 9, .cell v3 26] R [{ target := .fn (.func 76) #[], args := #[v3, (.func (.func 77) #[] #[v2_1])] }] (.panicking ch) w, false⟩
theorem c30 (v0 : Int) (v1 : Int) (v2 : ByteArray) (R : Ending → World → Prop) (w : World) (h : vc30 v0 v1 v2 R w) : Calls Tryz.prog 30 #[(.agg #[(.int .i64 v0), (.int .i64 v1), (.string v2)])] w R :=
  calls_of_vc (A := { loops := [], pars := [], chs := [(3, (.q 1 (.q 2 (.q 4 (.e 0 (.q 3 (.e 5 .done)))))))] }) (Eq.mpr (show FnVc Tryz.prog { loops := [], pars := [], chs := [(3, (.q 1 (.q 2 (.q 4 (.e 0 (.q 3 (.e 5 .done)))))))] } 13 30 [(.agg #[(.int .i64 v0), (.int .i64 v1), (.string v2)])] R w = vc30 v0 v1 v2 R w by kernel_rfl) h)

/-- (*strings.Builder).WriteString -/
def vc31 (b : Value) (s : ByteArray) (R : Ending → World → Prop) (w : World) : Prop :=
 kCall (cR Tryz.prog R) w 80 #[b] fun v7 w_1 =>
 kNil (cR Tryz.prog R) w_1 b fun v10 w_2 =>
 kFa (cR Tryz.prog R) w_2 67 v10 1 fun v11 w_3 =>
 kLoad (cR Tryz.prog R) w_3 44 v11 fun v12 w_4 =>
 kBlt (cR Tryz.prog R) w_4 .append #[44, 9] 44 #[false, false] #[v12, (.string s)] fun v14 w_5 =>
 kNil (cR Tryz.prog R) w_5 b fun v15 w_6 =>
 kFa (cR Tryz.prog R) w_6 67 v15 1 fun v16 w_7 =>
 kStore (cR Tryz.prog R) w_7 44 v16 v14 fun w_8 =>
 kBlt (cR Tryz.prog R) w_8 .len #[9] 3 #[false] #[(.string s)] fun v18 w_9 =>
 R (.returned (.tuple #[v18, .nilIface])) w_9
theorem c31 (b : Value) (s : ByteArray) (R : Ending → World → Prop) (w : World) (h : vc31 b s R w) : Calls Tryz.prog 31 #[b, (.string s)] w R :=
  calls_of_vc (A := { loops := [], pars := [] }) (Eq.mpr (show FnVc Tryz.prog { loops := [], pars := [] } 19 31 [b, (.string s)] R w = vc31 b s R w by kernel_rfl) h)

/-- strings.Join -/
def vc32 (elems : Option Addr) (elemsn : Nat) (elemsc : Nat) (sep : ByteArray) (R : Ending → World → Prop) (w : World) : Prop :=
 kBlt (cR Tryz.prog R) w .len #[74] 3 #[false] #[(.slice elems elemsn elemsc)] fun v12 w_1 =>
 kEq (cR Tryz.prog R) w_1 .eql 3 (.tmp 12) (.const (.int .i64 0)) v12 (.int .i64 0) fun v14 w_2 =>
 kIf v14 (
 R (.returned (.string ⟨#[]⟩)) w_2) (
 kEq (cR Tryz.prog R) w_2 .eql 3 (.tmp 12) (.const (.int .i64 1)) v12 (.int .i64 1) fun v16 w_3 =>
 kIf v16 (
 kIa (cR Tryz.prog R) w_3 74 (.slice elems elemsn elemsc) (.int .i64 0) fun v18 w_4 =>
 kLoad (cR Tryz.prog R) w_4 9 v18 fun v19 w_5 =>
 R (.returned v19) w_5) (
 kJn (fun J =>
 kBlt (cR Tryz.prog R) w_3 .len #[9] 3 #[false] #[(.string sep)] fun v21 w_35 =>
 kBin (cR Tryz.prog R) w_35 .gtr 3 v21 (.int .i64 0) fun v22 w_36 =>
 kIf v22 (
 kJn (fun J_2 =>
 kBlt (cR Tryz.prog R) w_36 .len #[9] 3 #[false] #[(.string sep)] fun v24 w_43 =>
 kBlt (cR Tryz.prog R) w_43 .len #[74] 3 #[false] #[(.slice elems elemsn elemsc)] fun v26 w_44 =>
 kBin (cR Tryz.prog R) w_44 .sub 3 v26 (.int .i64 1) fun v27 w_45 =>
 kBin (cR Tryz.prog R) w_45 .quo 3 (.int .i64 9223372036854775807) v27 fun v28 w_46 =>
 kBin (cR Tryz.prog R) w_46 .geq 3 v24 v28 fun v29 w_47 =>
 kIf v29 (
 kMkI (cR Tryz.prog R) w_47 9 (.string ⟨#[115, 116, 114, 105, 110, 103, 115, 58, 32, 74, 111, 105, 110, 32, 111, 117, 116, 112, 117, 116, 32, 108, 101, 110, 103, 116, 104, 32, 111, 118, 101, 114, 102, 108, 111, 119]⟩) fun v30 w_48 =>
 kPanic (cR Tryz.prog R) w_48 v30) (
 kD [] [] (J_2 [] w_47))) (fun cs_4 w_37 => ∀ ds_4 : List Value,
 kBlt (cR Tryz.prog R) w_37 .len #[9] 3 #[false] #[(.string sep)] fun v33 w_38 =>
 kBlt (cR Tryz.prog R) w_38 .len #[74] 3 #[false] #[(.slice elems elemsn elemsc)] fun v35 w_39 =>
 kBin (cR Tryz.prog R) w_39 .sub 3 v35 (.int .i64 1) fun v36 w_40 =>
 kBin (cR Tryz.prog R) w_40 .mul 3 v33 v36 fun v37 w_41 =>
 kBin (cR Tryz.prog R) w_41 .add 3 (.int .i64 0) v37 fun v38 w_42 =>
 kD [] [] (J [v38] w_42))) (
 kD [] [] (J [(.int .i64 0)] w_36))) (fun cs w_6 => ∀ ds : List Value,
 (fun j5 =>
 kBlt (cR Tryz.prog R) w_6 .len #[74] 3 #[false] #[(.slice elems elemsn elemsc)] fun v40 w_7 =>
 kLoopF [j5, (.int .i64 0)] w_7 fun cs_1 ds_1 w_8 N =>
 (fun x5 x41 =>
 kBin (cR Tryz.prog R) w_8 .lss 3 x41 v40 fun v42 w_9 =>
 kIf v42 (
 kIa (cR Tryz.prog R) w_9 74 (.slice elems elemsn elemsc) x41 fun v43 w_10 =>
 kLoad (cR Tryz.prog R) w_10 9 v43 fun v44 w_11 =>
 kJn (fun J_1 =>
 kBlt (cR Tryz.prog R) w_11 .len #[9] 3 #[false] #[v44] fun v46 w_16 =>
 kBin (cR Tryz.prog R) w_16 .sub 3 (.int .i64 9223372036854775807) x5 fun v48 w_17 =>
 kBin (cR Tryz.prog R) w_17 .gtr 3 v46 v48 fun v49 w_18 =>
 kIf v49 (
 kMkI (cR Tryz.prog R) w_18 9 (.string ⟨#[115, 116, 114, 105, 110, 103, 115, 58, 32, 74, 111, 105, 110, 32, 111, 117, 116, 112, 117, 116, 32, 108, 101, 110, 103, 116, 104, 32, 111, 118, 101, 114, 102, 108, 111, 119]⟩) fun v50 w_19 =>
 kPanic (cR Tryz.prog R) w_19 v50) (
 kD [] [] (J_1 [] w_18))) (fun cs_2 w_12 => ∀ ds_2 : List Value,
 kBlt (cR Tryz.prog R) w_12 .len #[9] 3 #[false] #[v44] fun v53 w_13 =>
 kBin (cR Tryz.prog R) w_13 .add 3 x5 v53 fun v54 w_14 =>
 kBin (cR Tryz.prog R) w_14 .add 3 x41 (.int .i64 1) fun v55 w_15 =>
 kD [] [] (N [v54, v55] w_15))) (
 kAlloc (cR Tryz.prog R) w_9 67 fun v8 w_20 =>
 kCall (cR Tryz.prog R) w_20 81 #[v8, x5] fun v57 w_21 =>
 kIa (cR Tryz.prog R) w_21 74 (.slice elems elemsn elemsc) (.int .i64 0) fun v59 w_22 =>
 kLoad (cR Tryz.prog R) w_22 9 v59 fun v60 w_23 =>
 kCall (cR Tryz.prog R) w_23 31 #[v8, v60] fun v61 w_24 =>
 kSl (cR Tryz.prog R) w_24 74 (.slice elems elemsn elemsc) (some (.int .i64 1)) none none fun v63 w_25 =>
 kBlt (cR Tryz.prog R) w_25 .len #[74] 3 #[false] #[v63] fun v64 w_26 =>
 kLoopF [(.int .i64 0)] w_26 fun cs_3 ds_3 w_27 N_1 =>
 (fun x65 =>
 kBin (cR Tryz.prog R) w_27 .lss 3 x65 v64 fun v66 w_28 =>
 kIf v66 (
 kIa (cR Tryz.prog R) w_28 74 v63 x65 fun v67 w_29 =>
 kLoad (cR Tryz.prog R) w_29 9 v67 fun v68 w_30 =>
 kCall (cR Tryz.prog R) w_30 31 #[v8, (.string sep)] fun v70 w_31 =>
 kCall (cR Tryz.prog R) w_31 31 #[v8, v68] fun v72 w_32 =>
 kBin (cR Tryz.prog R) w_32 .add 3 x65 (.int .i64 1) fun v73 w_33 =>
 kD [] [] (N_1 [v73] w_33)) (
 kCall (cR Tryz.prog R) w_28 34 #[v8] fun v74 w_34 =>
 R (.returned v74) w_34)) (cs_3.getD 0 undef))) (cs_1.getD 0 undef) (cs_1.getD 1 undef)) (cs.getD 0 undef))))
theorem c32 (elems : Option Addr) (elemsn : Nat) (elemsc : Nat) (sep : ByteArray) (R : Ending → World → Prop) (w : World) (h : vc32 elems elemsn elemsc sep R w) : Calls Tryz.prog 32 #[(.slice elems elemsn elemsc), (.string sep)] w R :=
  calls_of_vc (A := { loops := [(1000016, []), (3, [65]), (1, [5, 41]), (1000011, [5]), (1000010, [])], pars := [] }) (Eq.mpr (show FnVc Tryz.prog { loops := [(1000016, []), (3, [65]), (1, [5, 41]), (1000011, [5]), (1000010, [])], pars := [] } 75 32 [(.slice elems elemsn elemsc), (.string sep)] R w = vc32 elems elemsn elemsc sep R w by kernel_rfl) h)

/-- loupe/code.some[int,string] -/
def vc33 (l : Option Addr) (ln : Nat) (lc : Nat) (tell : Value) (R : Ending → World → Prop) (w : World) : Prop :=
 kBlt (cR Tryz.prog R) w .len #[60] 3 #[false] #[(.slice l ln lc)] fun v8 w_1 =>
 kLoopF [(.slice none 0 0), (.int .i64 0)] w_1 fun cs ds w_2 N =>
 (fun x4 x9 =>
 kBin (cR Tryz.prog R) w_2 .lss 3 x9 v8 fun v10 w_3 =>
 kIf v10 (
 kIa (cR Tryz.prog R) w_3 60 (.slice l ln lc) x9 fun v11 w_4 =>
 kLoad (cR Tryz.prog R) w_4 3 v11 fun v12 w_5 =>
 kCallV (cR Tryz.prog R) w_5 tell #[v12] fun v16 w_6 =>
 kBuildS (cR Tryz.prog R) w_6 74 1 #[(0, v16)] fun v17 w_7 =>
 kBlt (cR Tryz.prog R) w_7 .append #[74, 74] 74 #[false, false] #[x4, v17] fun v18 w_8 =>
 kBin (cR Tryz.prog R) w_8 .add 3 x9 (.int .i64 1) fun v19 w_9 =>
 kD [] [] (N [v18, v19] w_9)) (
 R (.returned x4) w_3)) (cs.getD 0 undef) (cs.getD 1 undef)
theorem c33 (l : Option Addr) (ln : Nat) (lc : Nat) (tell : Value) (R : Ending → World → Prop) (w : World) (h : vc33 l ln lc tell R w) : Calls Tryz.prog 33 #[(.slice l ln lc), tell] w R :=
  calls_of_vc (A := { loops := [(0, [4, 9])], pars := [] }) (Eq.mpr (show FnVc Tryz.prog { loops := [(0, [4, 9])], pars := [] } 21 33 [(.slice l ln lc), tell] R w = vc33 l ln lc tell R w by kernel_rfl) h)

/-- loupe/code.in -/
def vc36 (fromA : Int) (to : Int) (l : Option Addr) (ln : Nat) (lc : Nat) (R : Ending → World → Prop) (w : World) : Prop :=
 kBox (cR Tryz.prog R) w 3 (.int .i64 fromA) fun v3 w_1 =>
 kBox (cR Tryz.prog R) w_1 3 (.int .i64 to) fun v4 w_2 =>
 kCall (cR Tryz.prog R) w_2 83 #[(.slice l ln lc), (.func (.func 84) #[] #[v3, v4])] fun v9 w_3 =>
 kUn (cR Tryz.prog R) w_3 .not v9 fun v10 w_4 =>
 R (.returned v10) w_4
theorem c36 (fromA : Int) (to : Int) (l : Option Addr) (ln : Nat) (lc : Nat) (R : Ending → World → Prop) (w : World) (h : vc36 fromA to l ln lc R w) : Calls Tryz.prog 36 #[(.int .i64 fromA), (.int .i64 to), (.slice l ln lc)] w R :=
  calls_of_vc (A := { loops := [], pars := [] }) (Eq.mpr (show FnVc Tryz.prog { loops := [], pars := [] } 11 36 [(.int .i64 fromA), (.int .i64 to), (.slice l ln lc)] R w = vc36 fromA to l ln lc R w by kernel_rfl) h)

/-- loupe/code.same -/
def vc37 (x0 : Int) (x1 : Int) (x2 : Int) (x3 : Int) (x4 : Int) (x5 : Int) (x6 : Int) (x7 : ByteArray) (x8 : ByteArray) (x9 : Option Addr) (x9n : Nat) (x9c : Nat) (y0 : Int) (y1 : Int) (y2 : Int) (y3 : Int) (y4 : Int) (y5 : Int) (y6 : Int) (y7 : ByteArray) (y8 : ByteArray) (y9 : Option Addr) (y9n : Nat) (y9c : Nat) (R : Ending → World → Prop) (w : World) : Prop :=
 kBox (cR Tryz.prog R) w 62 (.agg #[(.int .i64 x0), (.int .i64 x1), (.int .i64 x2), (.int .i64 x3), (.int .i64 x4), (.int .i64 x5), (.int .i64 x6), (.string x7), (.string x8), (.slice x9 x9n x9c)]) fun v2 w_1 =>
 kBox (cR Tryz.prog R) w_1 62 (.agg #[(.int .i64 y0), (.int .i64 y1), (.int .i64 y2), (.int .i64 y3), (.int .i64 y4), (.int .i64 y5), (.int .i64 y6), (.string y7), (.string y8), (.slice y9 y9n y9c)]) fun v3 w_2 =>
 kDrawn true (
 kDrawn true (
 kJn (fun J =>
 kLoad (cQ Tryz.prog) w_2 62 v2 fun v7 w_3 =>
 kLoad (cQ Tryz.prog) w_3 62 v3 fun v8 w_4 =>
 kBoth (
 kDrew w_4 fun w_5 =>
 (fun (c : Cx) =>
 kAlloc c w_5 62 fun v5 w_6 =>
 kLoad (cQ Tryz.prog) w_6 62 v2 fun v7_1 w_7 =>
 kSame v7_1 v7 (
 kLoad (cQ Tryz.prog) w_6 62 v3 fun v8_1 w_8 =>
 kSame v8_1 v8 (
 kDrew w_6 fun w_9 =>
 kAlloc c w_9 62 fun v6 w_10 =>
 kLoad (cQ Tryz.prog) w_10 62 v2 fun v7_2 w_11 =>
 kSame v7_2 v7 (
 kLoad (cQ Tryz.prog) w_10 62 v3 fun v8_2 w_12 =>
 kSame v8_2 v8 (
 kDrew w_10 fun w_13 =>
 kStore c w_13 62 v5 v7 fun w_14 =>
 kLoad (cQ Tryz.prog) w_14 62 v3 fun v8_3 w_15 =>
 kSame v8_3 v8 (
 kDrew w_14 fun w_16 => J [v7, v8, v5, v6, undef] w_16)))))) ⟨Tryz.prog, fun ch w => ∀ _ : List Value, R (.panicked ch) w, false⟩) (
 kDrew w_4 fun w_17 =>
 (fun (c_1 : Cx) =>
 kAlloc c_1 w_17 62 fun v6_1 w_18 =>
 kLoad (cQ Tryz.prog) w_18 62 v2 fun v7_3 w_19 =>
 kSame v7_3 v7 (
 kLoad (cQ Tryz.prog) w_18 62 v3 fun v8_4 w_20 =>
 kSame v8_4 v8 (
 kDrew w_18 fun w_21 =>
 kAlloc c_1 w_21 62 fun v5_1 w_22 =>
 kLoad (cQ Tryz.prog) w_22 62 v2 fun v7_4 w_23 =>
 kSame v7_4 v7 (
 kLoad (cQ Tryz.prog) w_22 62 v3 fun v8_5 w_24 =>
 kSame v8_5 v8 (
 kDrew w_22 fun w_25 =>
 kStore c_1 w_25 62 v5_1 v7 fun w_26 =>
 kLoad (cQ Tryz.prog) w_26 62 v3 fun v8_6 w_27 =>
 kSame v8_6 v8 (
 kDrew w_26 fun w_28 => J [v7, v8, v5_1, v6_1, undef] w_28)))))) ⟨Tryz.prog, fun ch w => ∀ _ : List Value, R (.panicked ch) w, false⟩)) (fun cs w_29 =>
 (fun g1 g2 g3 =>
 kStore (cR Tryz.prog R) w_29 62 g3 g1 fun w_30 =>
 kFa (cR Tryz.prog R) w_30 62 g2 7 fun v9 w_31 =>
 kStore (cR Tryz.prog R) w_31 60 v9 (.slice none 0 0) fun w_32 =>
 kFa (cR Tryz.prog R) w_32 62 g3 7 fun v10 w_33 =>
 kStore (cR Tryz.prog R) w_33 60 v10 (.slice none 0 0) fun w_34 =>
 kFa (cR Tryz.prog R) w_34 62 g2 1 fun v11 w_35 =>
 kLoad (cR Tryz.prog R) w_35 3 v11 fun v12 w_36 =>
 kFa (cR Tryz.prog R) w_36 62 g2 2 fun v13 w_37 =>
 kLoad (cR Tryz.prog R) w_37 3 v13 fun v14 w_38 =>
 kFa (cR Tryz.prog R) w_38 62 g2 3 fun v15 w_39 =>
 kLoad (cR Tryz.prog R) w_39 3 v15 fun v16 w_40 =>
 kBuild (cR Tryz.prog R) w_40 138 #[(0, v12), (1, v14), (2, v16)] fun v17 w_41 =>
 kFa (cR Tryz.prog R) w_41 62 g3 1 fun v18 w_42 =>
 kLoad (cR Tryz.prog R) w_42 3 v18 fun v19 w_43 =>
 kFa (cR Tryz.prog R) w_43 62 g3 2 fun v20 w_44 =>
 kLoad (cR Tryz.prog R) w_44 3 v20 fun v21 w_45 =>
 kFa (cR Tryz.prog R) w_45 62 g3 3 fun v22 w_46 =>
 kLoad (cR Tryz.prog R) w_46 3 v22 fun v23 w_47 =>
 kBuild (cR Tryz.prog R) w_47 138 #[(0, v19), (1, v21), (2, v23)] fun v24 w_48 =>
 kEq (cR Tryz.prog R) w_48 .eql 138 (.tmp 17) (.tmp 24) v17 v24 fun v25 w_49 =>
 kIf v25 (
 kFa (cR Tryz.prog R) w_49 62 g2 0 fun v27 w_50 =>
 kLoad (cR Tryz.prog R) w_50 33 v27 fun v28 w_51 =>
 kFa (cR Tryz.prog R) w_51 62 g3 0 fun v29 w_52 =>
 kLoad (cR Tryz.prog R) w_52 33 v29 fun v30 w_53 =>
 kEq (cR Tryz.prog R) w_53 .eql 33 (.tmp 28) (.tmp 30) v28 v30 fun v31 w_54 =>
 kIf v31 (
 kFa (cR Tryz.prog R) w_54 62 g2 4 fun v34 w_55 =>
 kLoad (cR Tryz.prog R) w_55 56 v34 fun v35 w_56 =>
 kFa (cR Tryz.prog R) w_56 62 g3 4 fun v36 w_57 =>
 kLoad (cR Tryz.prog R) w_57 56 v36 fun v37 w_58 =>
 kEq (cR Tryz.prog R) w_58 .eql 56 (.tmp 35) (.tmp 37) v35 v37 fun v38 w_59 =>
 kIf v38 (
 kFa (cR Tryz.prog R) w_59 62 g2 5 fun v41 w_60 =>
 kLoad (cR Tryz.prog R) w_60 59 v41 fun v42 w_61 =>
 kFa (cR Tryz.prog R) w_61 62 g3 5 fun v43 w_62 =>
 kLoad (cR Tryz.prog R) w_62 59 v43 fun v44 w_63 =>
 kEq (cR Tryz.prog R) w_63 .eql 59 (.tmp 42) (.tmp 44) v42 v44 fun v45 w_64 =>
 kIf v45 (
 kFa (cR Tryz.prog R) w_64 62 g2 6 fun v48 w_65 =>
 kLoad (cR Tryz.prog R) w_65 9 v48 fun v49 w_66 =>
 kFa (cR Tryz.prog R) w_66 62 g3 6 fun v50 w_67 =>
 kLoad (cR Tryz.prog R) w_67 9 v50 fun v51 w_68 =>
 kEq (cR Tryz.prog R) w_68 .eql 9 (.tmp 49) (.tmp 51) v49 v51 fun v52 w_69 =>
 kIf v52 (
 kFa (cR Tryz.prog R) w_69 62 v2 7 fun v55 w_70 =>
 kLoad (cR Tryz.prog R) w_70 60 v55 fun v56 w_71 =>
 kFa (cR Tryz.prog R) w_71 62 v3 7 fun v57 w_72 =>
 kLoad (cR Tryz.prog R) w_72 60 v57 fun v58 w_73 =>
 kCall (cR Tryz.prog R) w_73 85 #[v56, v58] fun v59 w_74 =>
 R (.returned v59) w_74) (
 R (.returned (.bool false)) w_69)) (
 R (.returned (.bool false)) w_64)) (
 R (.returned (.bool false)) w_59)) (
 R (.returned (.bool false)) w_54)) (
 R (.returned (.bool false)) w_49)) (cs.getD 1 undef) (cs.getD 2 undef) (cs.getD 3 undef))))
theorem c37 (x0 : Int) (x1 : Int) (x2 : Int) (x3 : Int) (x4 : Int) (x5 : Int) (x6 : Int) (x7 : ByteArray) (x8 : ByteArray) (x9 : Option Addr) (x9n : Nat) (x9c : Nat) (y0 : Int) (y1 : Int) (y2 : Int) (y3 : Int) (y4 : Int) (y5 : Int) (y6 : Int) (y7 : ByteArray) (y8 : ByteArray) (y9 : Option Addr) (y9n : Nat) (y9c : Nat) (R : Ending → World → Prop) (w : World) (h : vc37 x0 x1 x2 x3 x4 x5 x6 x7 x8 x9 x9n x9c y0 y1 y2 y3 y4 y5 y6 y7 y8 y9 y9n y9c R w) : Calls Tryz.prog 37 #[(.agg #[(.int .i64 x0), (.int .i64 x1), (.int .i64 x2), (.int .i64 x3), (.int .i64 x4), (.int .i64 x5), (.int .i64 x6), (.string x7), (.string x8), (.slice x9 x9n x9c)]), (.agg #[(.int .i64 y0), (.int .i64 y1), (.int .i64 y2), (.int .i64 y3), (.int .i64 y4), (.int .i64 y5), (.int .i64 y6), (.string y7), (.string y8), (.slice y9 y9n y9c)])] w R :=
  calls_of_vc (A := { loops := [], pars := [], chs := [(1, (.q 0 (.q 1 (.or 2 (.e 3 (.e 4 .done)) (.e 3 (.e 2 (.e 4 .done)))))))] }) (Eq.mpr (show FnVc Tryz.prog { loops := [], pars := [], chs := [(1, (.q 0 (.q 1 (.or 2 (.e 3 (.e 4 .done)) (.e 3 (.e 2 (.e 4 .done)))))))] } 61 37 [(.agg #[(.int .i64 x0), (.int .i64 x1), (.int .i64 x2), (.int .i64 x3), (.int .i64 x4), (.int .i64 x5), (.int .i64 x6), (.string x7), (.string x8), (.slice x9 x9n x9c)]), (.agg #[(.int .i64 y0), (.int .i64 y1), (.int .i64 y2), (.int .i64 y3), (.int .i64 y4), (.int .i64 y5), (.int .i64 y6), (.string y7), (.string y8), (.slice y9 y9n y9c)])] R w = vc37 x0 x1 x2 x3 x4 x5 x6 x7 x8 x9 x9n x9c y0 y1 y2 y3 y4 y5 y6 y7 y8 y9 y9n y9c R w by kernel_rfl) h)

/-- slices.Clone[[]loupe/api.Ins,loupe/api.Ins] -/
def vc39 (s : Option Addr) (sn : Nat) (sc : Nat) (R : Ending → World → Prop) (w : World) : Prop :=
 kEq (cR Tryz.prog R) w .eql 22 (.tmp 3) (.const (.slice none 0 0)) (.slice s sn sc) (.slice none 0 0) fun v4 w_1 =>
 kIf v4 (
 R (.returned (.slice none 0 0)) w_1) (
 kBuildS (cR Tryz.prog R) w_1 22 0 #[] fun v5 w_2 =>
 kBlt (cR Tryz.prog R) w_2 .append #[22, 22] 22 #[false, false] #[v5, (.slice s sn sc)] fun v7 w_3 =>
 R (.returned v7) w_3)
theorem c39 (s : Option Addr) (sn : Nat) (sc : Nat) (R : Ending → World → Prop) (w : World) (h : vc39 s sn sc R w) : Calls Tryz.prog 39 #[(.slice s sn sc)] w R :=
  calls_of_vc (A := { loops := [], pars := [] }) (Eq.mpr (show FnVc Tryz.prog { loops := [], pars := [] } 8 39 [(.slice s sn sc)] R w = vc39 s sn sc R w by kernel_rfl) h)

/-- loupe/code.Targets$1 -/
def vc40 (yield : Value) (f0 : Value) (f1 : Value) (f2 : Value) (R : Ending → World → Prop) (w : World) : Prop :=
 kLoad (cR Tryz.prog R) w 22 f0 fun v9 w_1 =>
 kBlt (cR Tryz.prog R) w_1 .len #[22] 3 #[false] #[v9] fun v10 w_2 =>
 kLoopF [(.int .i64 0)] w_2 fun cs ds w_3 N =>
 (fun x11 =>
 kBin (cR Tryz.prog R) w_3 .lss 3 x11 v10 fun v12 w_4 =>
 kIf v12 (
 kIa (cR Tryz.prog R) w_4 22 v9 x11 fun v14 w_5 =>
 kLoad (cR Tryz.prog R) w_5 62 v14 fun v15 w_6 =>
 kAlloc (cR Tryz.prog R) w_6 62 fun v6 w_7 =>
 kStore (cR Tryz.prog R) w_7 62 v6 v15 fun w_8 =>
 kLoad (cR Tryz.prog R) w_8 68 f1 fun v16 w_9 =>
 kFa (cR Tryz.prog R) w_9 62 v6 0 fun v17 w_10 =>
 kLoad (cR Tryz.prog R) w_10 33 v17 fun v18 w_11 =>
 kLook (cR Tryz.prog R) w_11 68 v16 v18 false fun v19 w_12 =>
 kFd (cR Tryz.prog R) w_12 73 v19 1 fun v20 w_13 =>
 kBlt (cR Tryz.prog R) w_13 .len #[70] 3 #[false] #[v20] fun v21 w_14 =>
 kLoopF [(.int .i64 0)] w_14 fun cs_1 ds_1 w_15 N_1 =>
 (fun x22 =>
 kBin (cR Tryz.prog R) w_15 .lss 3 x22 v21 fun v23 w_16 =>
 kIf v23 (
 kIa (cR Tryz.prog R) w_16 70 v20 x22 fun v24 w_17 =>
 kLoad (cR Tryz.prog R) w_17 77 v24 fun v25 w_18 =>
 kAlloc (cR Tryz.prog R) w_18 77 fun v8 w_19 =>
 kStore (cR Tryz.prog R) w_19 77 v8 v25 fun w_20 =>
 kLoad (cR Tryz.prog R) w_20 4 f2 fun v26 w_21 =>
 kIf v26 (
 kFa (cR Tryz.prog R) w_21 77 v8 3 fun v28 w_22 =>
 kLoad (cR Tryz.prog R) w_22 4 v28 fun v29 w_23 =>
 kIf v29 (
 kFa (cR Tryz.prog R) w_23 77 v8 0 fun v34 w_24 =>
 kLoad (cR Tryz.prog R) w_24 75 v34 fun v35 w_25 =>
 kCallV (cR Tryz.prog R) w_25 v35 #[v6] fun v36 w_26 =>
 kNil (cR Tryz.prog R) w_26 v36 fun v37 w_27 =>
 kLoad (cR Tryz.prog R) w_27 3 v37 fun v38 w_28 =>
 kCallV (cR Tryz.prog R) w_28 yield #[x11, v38] fun v39 w_29 =>
 kUn (cR Tryz.prog R) w_29 .not v39 fun v40 w_30 =>
 kIf v40 (
 R (.returned (.tuple #[])) w_30) (
 kBin (cR Tryz.prog R) w_30 .add 3 x22 (.int .i64 1) fun v42 w_31 =>
 kD [] [] (N_1 [v42] w_31))) (
 kIf (.bool false) (
 R (.returned (.tuple #[])) w_23) (
 kBin (cR Tryz.prog R) w_23 .add 3 x22 (.int .i64 1) fun v42_1 w_32 =>
 kD [] [] (N_1 [v42_1] w_32)))) (
 kIf (.bool false) (
 R (.returned (.tuple #[])) w_21) (
 kBin (cR Tryz.prog R) w_21 .add 3 x22 (.int .i64 1) fun v42_2 w_33 =>
 kD [] [] (N_1 [v42_2] w_33)))) (
 kBin (cR Tryz.prog R) w_16 .add 3 x11 (.int .i64 1) fun v43 w_34 =>
 kD [] [] (N [v43] w_34))) (cs_1.getD 0 undef)) (
 R (.returned (.tuple #[])) w_4)) (cs.getD 0 undef)
theorem c40 (yield : Value) (f0 : Value) (f1 : Value) (f2 : Value) (R : Ending → World → Prop) (w : World) (h : vc40 yield f0 f1 f2 R w) : Calls Tryz.prog 40 #[yield, f0, f1, f2] w R :=
  calls_of_vc (A := { loops := [(2, [22]), (0, [11])], pars := [] }) (Eq.mpr (show FnVc Tryz.prog { loops := [(2, [22]), (0, [11])], pars := [] } 44 40 [yield, f0, f1, f2] R w = vc40 yield f0 f1 f2 R w by kernel_rfl) h)

/-- loupe/code.Decode$1 -/
def vc42 (f0 : Value) (R : Ending → World → Prop) (w : World) : Prop :=
 kStore (cR Tryz.prog R) w 22 f0 (.slice none 0 0) fun w_1 =>
 R (.returned (.tuple #[])) w_1
theorem c42 (f0 : Value) (R : Ending → World → Prop) (w : World) (h : vc42 f0 R w) : Calls Tryz.prog 42 #[f0] w R :=
  calls_of_vc (A := { loops := [], pars := [] }) (Eq.mpr (show FnVc Tryz.prog { loops := [], pars := [] } 1 42 [f0] R w = vc42 f0 R w by kernel_rfl) h)

/-- loupe/code.must -/
def vc43 (fine : Bool) (eA : Int) (R : Ending → World → Prop) (w : World) : Prop :=
 kUn (cR Tryz.prog R) w .not (.bool fine) fun v5 w_1 =>
 kIf v5 (
 kMkI (cR Tryz.prog R) w_1 26 (.int .i64 eA) fun v7 w_2 =>
 kPanic (cR Tryz.prog R) w_2 v7) (
 R (.returned (.tuple #[])) w_1)
theorem c43 (fine : Bool) (eA : Int) (R : Ending → World → Prop) (w : World) (h : vc43 fine eA R w) : Calls Tryz.prog 43 #[(.bool fine), (.int .i64 eA)] w R :=
  calls_of_vc (A := { loops := [], pars := [] }) (Eq.mpr (show FnVc Tryz.prog { loops := [], pars := [] } 8 43 [(.bool fine), (.int .i64 eA)] R w = vc43 fine eA R w by kernel_rfl) h)

/-- loupe/row.Decode -/
def vc44 (b : Option Addr) (bn : Nat) (bc : Nat) (R : Ending → World → Prop) (w : World) : Prop :=
 kAlloc (cR Tryz.prog R) w 104 fun v2 w_1 =>
 kAlloc (cR Tryz.prog R) w_1 26 fun v3 w_2 =>
 (fun (c : Cx) =>
 kBuild c w_2 142 #[(0, (.slice b bn bc))] fun v9 w_3 =>
 kBuild c w_3 144 #[(0, v9)] fun v10 w_4 =>
 kBox c w_4 144 v10 fun v11 w_5 =>
 kCall c w_5 88 #[v11] fun v13 w_6 =>
 kBin c w_6 .leq 145 v13 (.int .u64 32) fun v15 w_7 =>
 kCall c w_7 89 #[v15, (.int .i64 210)] fun v16 w_8 =>
 kLoopF [(.int .u64 0)] w_8 fun cs ds w_9 N =>
 (fun x18 =>
 kBin c w_9 .lss 145 x18 v13 fun v19 w_10 =>
 kIf v19 (
 kDrawn true (
 kDrawn true (
 kLoad (cQ Tryz.prog) w_10 104 v2 fun v20 w_11 =>
 kDrew w_11 fun w_12 =>
 (fun (c_1 : Cx) =>
 kCall c_1 w_12 90 #[v11] fun v22 w_13 =>
 kLoad (cQ Tryz.prog) w_13 104 v2 fun v20_1 w_14 =>
 kSame v20_1 v20 (
 kDrew w_13 fun w_15 =>
 kBuildS c_1 w_15 104 1 #[(0, v22)] fun v23 w_16 =>
 kLoad (cQ Tryz.prog) w_16 104 v2 fun v20_2 w_17 =>
 kSame v20_2 v20 (
 kDrew w_16 fun w_18 =>
 kBlt c_1 w_18 .append #[104, 104] 104 #[false, false] #[v20, v23] fun v24 w_19 =>
 kDrew w_19 fun w_20 =>
 kStore c w_20 104 v2 v24 fun w_21 =>
 kBin c w_21 .add 145 x18 (.int .u64 1) fun v25 w_22 =>
 kD [{ target := .fn (.func 86) #[], args := #[v3, (.func (.func 87) #[] #[v2])] }] [{ target := .fn (.func 86) #[], args := #[v3, (.func (.func 87) #[] #[v2])] }] (N [v25] w_22)))) ⟨Tryz.prog, fun ch w => ∀ _ : List Value, Lv Tryz.prog [.cell v2 104, .cell v3 26] R [{ target := .fn (.func 86) #[], args := #[v3, (.func (.func 87) #[] #[v2])] }] (.panicking ch) w, false⟩))) (
 kLoad c w_10 104 v2 fun v27 w_23 =>
 kCall c w_23 91 #[v27] fun v28 w_24 =>
 kExt v28 0 fun v29 =>
 kExt v28 1 fun v30 =>
 kStore c w_24 26 v3 v30 fun w_25 =>
 kLoad c w_25 26 v3 fun v31 w_26 =>
 kEq c w_26 .eql 26 (.tmp 31) (.const (.int .i64 0)) v31 (.int .i64 0) fun v32 w_27 =>
 kIf v32 (
 kCall c w_27 46 #[v29, (.slice b bn bc)] fun v36 w_28 =>
 kCall c w_28 89 #[v36, (.int .i64 210)] fun v38 w_29 =>
 kLoad c w_29 104 v2 fun v39 w_30 =>
 kStore c w_30 104 v2 v39 fun w_31 =>
 kStore c w_31 26 v3 (.int .i64 0) fun w_32 =>
 Lv Tryz.prog [.cell v2 104, .cell v3 26] R [{ target := .fn (.func 86) #[], args := #[v3, (.func (.func 87) #[] #[v2])] }] .returning w_32) (
 kCall c w_27 89 #[(.bool false), (.int .i64 210)] fun v38_1 w_33 =>
 kLoad c w_33 104 v2 fun v39_1 w_34 =>
 kStore c w_34 104 v2 v39_1 fun w_35 =>
 kStore c w_35 26 v3 (.int .i64 0) fun w_36 =>
 Lv Tryz.prog [.cell v2 104, .cell v3 26] R [{ target := .fn (.func 86) #[], args := #[v3, (.func (.func 87) #[] #[v2])] }] .returning w_36))) (cs.getD 0 undef)) ⟨Tryz.prog, fun ch w => Lv Tryz.prog [.cell v2 104, .cell v3 26] R [{ target := .fn (.func 86) #[], args := #[v3, (.func (.func 87) #[] #[v2])] }] (.panicking ch) w, false⟩
theorem c44 (b : Option Addr) (bn : Nat) (bc : Nat) (R : Ending → World → Prop) (w : World) (h : vc44 b bn bc R w) : Calls Tryz.prog 44 #[(.slice b bn bc)] w R :=
  calls_of_vc (A := { loops := [(0, [18])], pars := [], chs := [(7, (.q 0 (.q 1 (.e 2 (.e 3 (.e 4 .done))))))] }) (Eq.mpr (show FnVc Tryz.prog { loops := [(0, [18])], pars := [], chs := [(7, (.q 0 (.q 1 (.e 2 (.e 3 (.e 4 .done))))))] } 40 44 [(.slice b bn bc)] R w = vc44 b bn bc R w by kernel_rfl) h)

/-- loupe/code.ins -/
def vc45 (r : Option Addr) (rn : Nat) (rc : Nat) (R : Ending → World → Prop) (w : World) : Prop :=
 kAlloc (cR Tryz.prog R) w 62 fun v2 w_1 =>
 kBlt (cR Tryz.prog R) w_1 .len #[104] 3 #[false] #[(.slice r rn rc)] fun v8 w_2 =>
 kBin (cR Tryz.prog R) w_2 .geq 3 v8 (.int .i64 7) fun v9 w_3 =>
 kCall (cR Tryz.prog R) w_3 43 #[v9, (.int .i64 390)] fun v10 w_4 =>
 kSl (cR Tryz.prog R) w_4 104 (.slice r rn rc) none (some (.int .i64 5)) none fun v12 w_5 =>
 kCall (cR Tryz.prog R) w_5 92 #[v12, (.func (.func 93) #[] #[])] fun v13 w_6 =>
 kDrawn true (
 kDrawn true (
 kIa (cQ Tryz.prog) w_6 60 v13 (.int .i64 0) fun v15 w_7 =>
 kLoad (cQ Tryz.prog) w_7 3 v15 fun v16 w_8 =>
 kIa (cQ Tryz.prog) w_8 60 v13 (.int .i64 1) fun v18 w_9 =>
 kLoad (cQ Tryz.prog) w_9 3 v18 fun v19 w_10 =>
 kIa (cQ Tryz.prog) w_10 60 v13 (.int .i64 2) fun v21 w_11 =>
 kLoad (cQ Tryz.prog) w_11 3 v21 fun v22 w_12 =>
 kIa (cQ Tryz.prog) w_12 60 v13 (.int .i64 3) fun v24 w_13 =>
 kLoad (cQ Tryz.prog) w_13 3 v24 fun v25 w_14 =>
 kIa (cQ Tryz.prog) w_14 60 v13 (.int .i64 4) fun v27 w_15 =>
 kLoad (cQ Tryz.prog) w_15 3 v27 fun v28 w_16 =>
 kIa (cQ Tryz.prog) w_16 104 (.slice r rn rc) (.int .i64 5) fun v30 w_17 =>
 kLoad (cQ Tryz.prog) w_17 59 v30 fun v31 w_18 =>
 kIa (cQ Tryz.prog) w_18 104 (.slice r rn rc) (.int .i64 6) fun v33 w_19 =>
 kFa (cQ Tryz.prog) w_19 59 v33 2 fun v34 w_20 =>
 kLoad (cQ Tryz.prog) w_20 9 v34 fun v35 w_21 =>
 kBuild (cQ Tryz.prog) w_21 62 #[(0, v16), (1, v19), (2, v22), (3, v25), (4, v28), (5, v31), (6, v35)] fun v36 w_22 =>
 kDrew w_22 fun w_23 =>
 kStore (cR Tryz.prog R) w_23 62 v2 v36 fun w_24 =>
 kSl (cR Tryz.prog R) w_24 104 (.slice r rn rc) (some (.int .i64 7)) none none fun v38 w_25 =>
 kBlt (cR Tryz.prog R) w_25 .len #[104] 3 #[false] #[v38] fun v39 w_26 =>
 kLoopF [(.int .i64 0)] w_26 fun cs ds w_27 N =>
 (fun x40 =>
 kBin (cR Tryz.prog R) w_27 .lss 3 x40 v39 fun v41 w_28 =>
 kIf v41 (
 kIa (cR Tryz.prog R) w_28 104 v38 x40 fun v42 w_29 =>
 kLoad (cR Tryz.prog R) w_29 59 v42 fun v43 w_30 =>
 kAlloc (cR Tryz.prog R) w_30 59 fun v5 w_31 =>
 kStore (cR Tryz.prog R) w_31 59 v5 v43 fun w_32 =>
 kFa (cR Tryz.prog R) w_32 59 v5 2 fun v44 w_33 =>
 kLoad (cR Tryz.prog R) w_33 9 v44 fun v45 w_34 =>
 kLoopF [v45] w_34 fun cs_1 ds_1 w_35 N_1 =>
 (fun x6 =>
 kBlt (cR Tryz.prog R) w_35 .len #[9] 3 #[false] #[x6] fun v47 w_36 =>
 kBin (cR Tryz.prog R) w_36 .gtr 3 v47 (.int .i64 1) fun v48 w_37 =>
 kIf v48 (
 kDrawn true (
 kDrawn true (
 kFa (cQ Tryz.prog) w_37 62 v2 7 fun v51 w_38 =>
 kLoad (cQ Tryz.prog) w_38 60 v51 fun v52 w_39 =>
 kIx (cQ Tryz.prog) w_39 9 x6 (.int .i64 0) fun v54 w_40 =>
 kConv (cQ Tryz.prog) w_40 5 3 v54 fun v55 w_41 =>
 kBin (cQ Tryz.prog) w_41 .shl 3 v55 (.int .u64 8) fun v56 w_42 =>
 kIx (cQ Tryz.prog) w_42 9 x6 (.int .i64 1) fun v58 w_43 =>
 kConv (cQ Tryz.prog) w_43 5 3 v58 fun v59 w_44 =>
 kBin (cQ Tryz.prog) w_44 .or 3 v56 v59 fun v60 w_45 =>
 kDrew w_45 fun w_46 =>
 (fun (c : Cx) =>
 kBuildS c w_46 60 1 #[(0, v60)] fun v61 w_47 =>
 kFa (cQ Tryz.prog) w_47 62 v2 7 fun v51_1 w_48 =>
 kSame v51_1 v51 (
 kLoad (cQ Tryz.prog) w_47 60 v51 fun v52_1 w_49 =>
 kSame v52_1 v52 (
 kDrew w_47 fun w_50 =>
 kBlt c w_50 .append #[60, 60] 60 #[false, false] #[v52, v61] fun v62 w_51 =>
 kDrew w_51 fun w_52 =>
 kFa (cR Tryz.prog R) w_52 62 v2 7 fun v63 w_53 =>
 kStore (cR Tryz.prog R) w_53 60 v63 v62 fun w_54 =>
 kSl (cR Tryz.prog R) w_54 9 x6 (some (.int .i64 2)) none none fun v50 w_55 =>
 kD [] [] (N_1 [v50] w_55)))) ⟨Tryz.prog, fun ch w => ∀ _ : List Value, R (.panicked ch) w, false⟩))) (
 kBin (cR Tryz.prog R) w_37 .add 3 x40 (.int .i64 1) fun v64 w_56 =>
 kD [] [] (N [v64] w_56))) (cs_1.getD 0 undef)) (
 kLoad (cR Tryz.prog R) w_28 62 v2 fun v65 w_57 =>
 kStore (cR Tryz.prog R) w_57 62 v2 v65 fun w_58 =>
 RetK Tryz.prog [.cell v2 62] R w_58)) (cs.getD 0 undef)))
theorem c45 (r : Option Addr) (rn : Nat) (rc : Nat) (R : Ending → World → Prop) (w : World) (h : vc45 r rn rc R w) : Calls Tryz.prog 45 #[(.slice r rn rc)] w R :=
  calls_of_vc (A := { loops := [(2, [6]), (0, [40])], pars := [], chs := [(3, (.q 0 (.q 1 (.q 2 (.q 3 (.q 4 (.q 5 (.q 6 (.q 7 (.q 8 (.q 9 (.q 10 (.q 11 (.q 12 (.q 13 (.q 14 (.q 15 (.q 16 (.q 17 (.q 18 (.q 19 (.q 20 (.q 21 (.q 22 .done)))))))))))))))))))))))), (10, (.q 0 (.q 1 (.q 2 (.q 3 (.q 4 (.q 5 (.q 6 (.q 7 (.q 8 (.q 9 (.e 10 (.e 11 .done)))))))))))))] }) (Eq.mpr (show FnVc Tryz.prog { loops := [(2, [6]), (0, [40])], pars := [], chs := [(3, (.q 0 (.q 1 (.q 2 (.q 3 (.q 4 (.q 5 (.q 6 (.q 7 (.q 8 (.q 9 (.q 10 (.q 11 (.q 12 (.q 13 (.q 14 (.q 15 (.q 16 (.q 17 (.q 18 (.q 19 (.q 20 (.q 21 (.q 22 .done)))))))))))))))))))))))), (10, (.q 0 (.q 1 (.q 2 (.q 3 (.q 4 (.q 5 (.q 6 (.q 7 (.q 8 (.q 9 (.e 10 (.e 11 .done)))))))))))))] } 66 45 [(.slice r rn rc)] R w = vc45 r rn rc R w by kernel_rfl) h)

/-- slices.Equal[[]byte,byte] -/
def vc46 (s1 : Option Addr) (s1n : Nat) (s1c : Nat) (s2 : Option Addr) (s2n : Nat) (s2c : Nat) (R : Ending → World → Prop) (w : World) : Prop :=
 kBlt (cR Tryz.prog R) w .len #[44] 3 #[false] #[(.slice s1 s1n s1c)] fun v7 w_1 =>
 kBlt (cR Tryz.prog R) w_1 .len #[44] 3 #[false] #[(.slice s2 s2n s2c)] fun v9 w_2 =>
 kEq (cR Tryz.prog R) w_2 .neq 3 (.tmp 7) (.tmp 9) v7 v9 fun v10 w_3 =>
 kIf v10 (
 R (.returned (.bool false)) w_3) (
 kBlt (cR Tryz.prog R) w_3 .len #[44] 3 #[false] #[(.slice s1 s1n s1c)] fun v12 w_4 =>
 kLoopF [(.int .i64 0)] w_4 fun cs ds w_5 N =>
 (fun x13 =>
 kBin (cR Tryz.prog R) w_5 .lss 3 x13 v12 fun v14 w_6 =>
 kIf v14 (
 kDrawn true (
 kIa (cQ Tryz.prog) w_6 44 (.slice s1 s1n s1c) x13 fun v18 w_7 =>
 kLoad (cQ Tryz.prog) w_7 5 v18 fun v19 w_8 =>
 kIa (cQ Tryz.prog) w_8 44 (.slice s2 s2n s2c) x13 fun v22 w_9 =>
 kLoad (cQ Tryz.prog) w_9 5 v22 fun v23 w_10 =>
 kEq (cQ Tryz.prog) w_10 .neq 5 (.tmp 19) (.tmp 23) v19 v23 fun v24 w_11 =>
 kDrew w_6 fun w_12 =>
 kIf v24 (
 R (.returned (.bool false)) w_12) (
 kBin (cR Tryz.prog R) w_12 .add 3 x13 (.int .i64 1) fun v25 w_13 =>
 kD [] [] (N [v25] w_13)))) (
 R (.returned (.bool true)) w_6)) (cs.getD 0 undef))
theorem c46 (s1 : Option Addr) (s1n : Nat) (s1c : Nat) (s2 : Option Addr) (s2n : Nat) (s2c : Nat) (R : Ending → World → Prop) (w : World) (h : vc46 s1 s1n s1c s2 s2n s2c R w) : Calls Tryz.prog 46 #[(.slice s1 s1n s1c), (.slice s2 s2n s2c)] w R :=
  calls_of_vc (A := { loops := [(0, [13])], pars := [] }) (Eq.mpr (show FnVc Tryz.prog { loops := [(0, [13])], pars := [] } 26 46 [(.slice s1 s1n s1c), (.slice s2 s2n s2c)] R w = vc46 s1 s1n s1c s2 s2n s2c R w by kernel_rfl) h)

/-- loupe/code.Encode$1 -/
def vc49 (f0 : Value) (R : Ending → World → Prop) (w : World) : Prop :=
 kStore (cR Tryz.prog R) w 44 f0 (.slice none 0 0) fun w_1 =>
 R (.returned (.tuple #[])) w_1
theorem c49 (f0 : Value) (R : Ending → World → Prop) (w : World) (h : vc49 f0 R w) : Calls Tryz.prog 49 #[f0] w R :=
  calls_of_vc (A := { loops := [], pars := [] }) (Eq.mpr (show FnVc Tryz.prog { loops := [], pars := [] } 1 49 [f0] R w = vc49 f0 R w by kernel_rfl) h)

/-- (*loupe/code.writer).put -/
def vc50 (wA : Value) (x0 : Int) (x1 : Int) (x2 : Int) (x3 : Int) (x4 : Int) (x5 : Int) (x6 : Int) (x7 : ByteArray) (x8 : ByteArray) (x9 : Option Addr) (x9n : Nat) (x9c : Nat) (R : Ending → World → Prop) (w : World) : Prop :=
 kBox (cR Tryz.prog R) w 62 (.agg #[(.int .i64 x0), (.int .i64 x1), (.int .i64 x2), (.int .i64 x3), (.int .i64 x4), (.int .i64 x5), (.int .i64 x6), (.string x7), (.string x8), (.slice x9 x9n x9c)]) fun v3 w_1 =>
 kFa (cR Tryz.prog R) w_1 62 v3 0 fun v8 w_2 =>
 kLoad (cR Tryz.prog R) w_2 33 v8 fun v9 w_3 =>
 kFa (cR Tryz.prog R) w_3 62 v3 1 fun v10 w_4 =>
 kLoad (cR Tryz.prog R) w_4 3 v10 fun v11 w_5 =>
 kFa (cR Tryz.prog R) w_5 62 v3 2 fun v12 w_6 =>
 kLoad (cR Tryz.prog R) w_6 3 v12 fun v13 w_7 =>
 kFa (cR Tryz.prog R) w_7 62 v3 3 fun v14 w_8 =>
 kLoad (cR Tryz.prog R) w_8 3 v14 fun v15 w_9 =>
 kFa (cR Tryz.prog R) w_9 62 v3 4 fun v16 w_10 =>
 kLoad (cR Tryz.prog R) w_10 56 v16 fun v17 w_11 =>
 kBuildS (cR Tryz.prog R) w_11 60 5 #[(0, v9), (1, v11), (2, v13), (3, v15), (4, v17)] fun v18 w_12 =>
 kCall (cR Tryz.prog R) w_12 96 #[v18, (.func (.func 97) #[] #[])] fun v19 w_13 =>
 kAlloc (cR Tryz.prog R) w_13 104 fun v4 w_14 =>
 kStore (cR Tryz.prog R) w_14 104 v4 v19 fun w_15 =>
 kLoad (cR Tryz.prog R) w_15 104 v4 fun v20 w_16 =>
 kFa (cR Tryz.prog R) w_16 62 v3 5 fun v21 w_17 =>
 kLoad (cR Tryz.prog R) w_17 59 v21 fun v22 w_18 =>
 kFa (cR Tryz.prog R) w_18 62 v3 6 fun v23 w_19 =>
 kLoad (cR Tryz.prog R) w_19 9 v23 fun v24 w_20 =>
 kBuild (cR Tryz.prog R) w_20 59 #[(0, (.int .i64 3)), (2, v24)] fun v25 w_21 =>
 kBuildS (cR Tryz.prog R) w_21 104 2 #[(0, v22), (1, v25)] fun v26 w_22 =>
 kBlt (cR Tryz.prog R) w_22 .append #[104, 104] 104 #[false, false] #[v20, v26] fun v27 w_23 =>
 kStore (cR Tryz.prog R) w_23 104 v4 v27 fun w_24 =>
 kFa (cR Tryz.prog R) w_24 62 v3 7 fun v28 w_25 =>
 kLoad (cR Tryz.prog R) w_25 60 v28 fun v29 w_26 =>
 kCall (cR Tryz.prog R) w_26 98 #[v29, (.int .i64 24)] fun v30 w_27 =>
 kRange Tryz.prog none w_27 v30 1 (fun l D args w_28 Rr =>
 (fun p31 =>
 rndMid l D w_28 w_28 fun lo w_29 =>
 kDrawn true (
 kDrawn true (
 kLoad (cQ Tryz.prog) w_29 104 v4 fun v32 w_30 =>
 kDrew w_30 fun w_31 =>
 (fun (c : Cx) =>
 kCall c w_31 33 #[p31, (.func (.func 99) #[] #[])] fun v34 w_32 =>
 kLoad (cQ Tryz.prog) w_32 104 v4 fun v32_1 w_33 =>
 kSame v32_1 v32 (
 kDrew w_32 fun w_34 =>
 kCall c w_34 32 #[v34, (.string ⟨#[]⟩)] fun v35 w_35 =>
 kLoad (cQ Tryz.prog) w_35 104 v4 fun v32_2 w_36 =>
 kSame v32_2 v32 (
 kBuild (cQ Tryz.prog) w_35 59 #[(0, (.int .i64 3)), (2, v35)] fun v36 w_37 =>
 kDrew w_37 fun w_38 =>
 kBuildS c w_38 104 1 #[(0, v36)] fun v37 w_39 =>
 kLoad (cQ Tryz.prog) w_39 104 v4 fun v32_3 w_40 =>
 kSame v32_3 v32 (
 kDrew w_39 fun w_41 =>
 kBlt c w_41 .append #[104, 104] 104 #[false, false] #[v32, v37] fun v38 w_42 =>
 kDrew w_42 fun w_43 =>
 (fun (c_1 : Cx) =>
 kStore c_1 w_43 104 v4 v38 fun w_44 =>
 rndEnd l D lo w_28 Rr .normal [] w_44) ⟨Tryz.prog, fun ch w => rndEnd l D lo w_28 Rr (.panic ch) [] w, false⟩)))) ⟨Tryz.prog, fun ch w => ∀ _ : List Value, rndEnd l D lo w_28 Rr (.panic ch) [] w, false⟩))) (args.getD 0 undef))
  (fun D_1 w_45 =>
 (fun (c_2 : Cx) =>
 kLoad c_2 w_45 104 v4 fun v40 w_46 =>
 kCall c_2 w_46 91 #[v40] fun v41 w_47 =>
 kExt v41 0 fun v42 =>
 kExt v41 1 fun v43 =>
 kEq c_2 w_47 .eql 26 (.tmp 44) (.const (.int .i64 0)) v43 (.int .i64 0) fun v45 w_48 =>
 kCall c_2 w_48 43 #[v45, (.int .i64 2)] fun v46 w_49 =>
 kNil c_2 w_49 wA fun v49 w_50 =>
 kFa c_2 w_50 116 v49 1 fun v50 w_51 =>
 kLoad c_2 w_51 44 v50 fun v51 w_52 =>
 kBlt c_2 w_52 .len #[44] 3 #[false] #[v42] fun v53 w_53 =>
 kBin c_2 w_53 .shr 3 v53 (.int .u64 8) fun v54 w_54 =>
 kConv c_2 w_54 3 5 v54 fun v55 w_55 =>
 kBlt c_2 w_55 .len #[44] 3 #[false] #[v42] fun v57 w_56 =>
 kConv c_2 w_56 3 5 v57 fun v58 w_57 =>
 kBuildS c_2 w_57 44 2 #[(0, v55), (1, v58)] fun v59 w_58 =>
 kBlt c_2 w_58 .append #[44, 44] 44 #[false, false] #[v51, v59] fun v60 w_59 =>
 kBlt c_2 w_59 .append #[44, 44] 44 #[false, false] #[v60, v42] fun v62 w_60 =>
 kNil c_2 w_60 wA fun v63 w_61 =>
 kFa c_2 w_61 116 v63 1 fun v64 w_62 =>
 kStore c_2 w_62 44 v64 v62 fun w_63 =>
 Lv Tryz.prog [] R [markOf D_1] .returning w_63) ⟨Tryz.prog, fun ch w => Lv Tryz.prog [] R [markOf D_1] (.panicking ch) w, false⟩)
  (fun _ _ => False)
  (fun _ _ _ => False)
  (fun D_1 ch w_66 => (fun ch w => Lv Tryz.prog [] R [markOf D_1] (.panicking ch) w) ch w_66)
theorem c50 (wA : Value) (x0 : Int) (x1 : Int) (x2 : Int) (x3 : Int) (x4 : Int) (x5 : Int) (x6 : Int) (x7 : ByteArray) (x8 : ByteArray) (x9 : Option Addr) (x9n : Nat) (x9c : Nat) (R : Ending → World → Prop) (w : World) (h : vc50 wA x0 x1 x2 x3 x4 x5 x6 x7 x8 x9 x9n x9c R w) : Calls Tryz.prog 50 #[wA, (.agg #[(.int .i64 x0), (.int .i64 x1), (.int .i64 x2), (.int .i64 x3), (.int .i64 x4), (.int .i64 x5), (.int .i64 x6), (.string x7), (.string x8), (.slice x9 x9n x9c)])] w R :=
  calls_of_vc (A := { loops := [], pars := [], chs := [(5, (.q 0 (.q 1 (.e 2 (.e 3 (.q 4 (.e 5 (.e 6 .done))))))))] }) (Eq.mpr (show FnVc Tryz.prog { loops := [], pars := [], chs := [(5, (.q 0 (.q 1 (.e 2 (.e 3 (.q 4 (.e 5 (.e 6 .done))))))))] } 65 50 [wA, (.agg #[(.int .i64 x0), (.int .i64 x1), (.int .i64 x2), (.int .i64 x3), (.int .i64 x4), (.int .i64 x5), (.int .i64 x6), (.string x7), (.string x8), (.slice x9 x9n x9c)])] R w = vc50 wA x0 x1 x2 x3 x4 x5 x6 x7 x8 x9 x9n x9c R w by kernel_rfl) h)

/-- slices.EqualFunc[[]loupe/api.Ins,[]loupe/api.Ins,loupe/api.Ins,loupe/api.Ins] -/
def vc53 (s1 : Option Addr) (s1n : Nat) (s1c : Nat) (s2 : Option Addr) (s2n : Nat) (s2c : Nat) (eq : Value) (R : Ending → World → Prop) (w : World) : Prop :=
 kBlt (cR Tryz.prog R) w .len #[22] 3 #[false] #[(.slice s1 s1n s1c)] fun v11 w_1 =>
 kBlt (cR Tryz.prog R) w_1 .len #[22] 3 #[false] #[(.slice s2 s2n s2c)] fun v13 w_2 =>
 kEq (cR Tryz.prog R) w_2 .neq 3 (.tmp 11) (.tmp 13) v11 v13 fun v14 w_3 =>
 kIf v14 (
 R (.returned (.bool false)) w_3) (
 kBlt (cR Tryz.prog R) w_3 .len #[22] 3 #[false] #[(.slice s1 s1n s1c)] fun v16 w_4 =>
 kLoopF [(.int .i64 0)] w_4 fun cs ds w_5 N =>
 (fun x17 =>
 kBin (cR Tryz.prog R) w_5 .lss 3 x17 v16 fun v18 w_6 =>
 kIf v18 (
 kIa (cR Tryz.prog R) w_6 22 (.slice s1 s1n s1c) x17 fun v20 w_7 =>
 kLoad (cR Tryz.prog R) w_7 62 v20 fun v21 w_8 =>
 kAlloc (cR Tryz.prog R) w_8 62 fun v8 w_9 =>
 kStore (cR Tryz.prog R) w_9 62 v8 v21 fun w_10 =>
 kIa (cR Tryz.prog R) w_10 22 (.slice s2 s2n s2c) x17 fun v24 w_11 =>
 kLoad (cR Tryz.prog R) w_11 62 v24 fun v25 w_12 =>
 kAlloc (cR Tryz.prog R) w_12 62 fun v9 w_13 =>
 kStore (cR Tryz.prog R) w_13 62 v9 v25 fun w_14 =>
 kLoad (cR Tryz.prog R) w_14 62 v8 fun v27 w_15 =>
 kLoad (cR Tryz.prog R) w_15 62 v9 fun v28 w_16 =>
 kCallV (cR Tryz.prog R) w_16 eq #[v27, v28] fun v29 w_17 =>
 kUn (cR Tryz.prog R) w_17 .not v29 fun v30 w_18 =>
 kIf v30 (
 R (.returned (.bool false)) w_18) (
 kBin (cR Tryz.prog R) w_18 .add 3 x17 (.int .i64 1) fun v31 w_19 =>
 kD [] [] (N [v31] w_19))) (
 R (.returned (.bool true)) w_6)) (cs.getD 0 undef))
theorem c53 (s1 : Option Addr) (s1n : Nat) (s1c : Nat) (s2 : Option Addr) (s2n : Nat) (s2c : Nat) (eq : Value) (R : Ending → World → Prop) (w : World) (h : vc53 s1 s1n s1c s2 s2n s2c eq R w) : Calls Tryz.prog 53 #[(.slice s1 s1n s1c), (.slice s2 s2n s2c), eq] w R :=
  calls_of_vc (A := { loops := [(0, [17])], pars := [] }) (Eq.mpr (show FnVc Tryz.prog { loops := [(0, [17])], pars := [] } 32 53 [(.slice s1 s1n s1c), (.slice s2 s2n s2c), eq] R w = vc53 s1 s1n s1c s2 s2n s2c eq R w by kernel_rfl) h)

/-- loupe/louperef02.Info -/
def vc56 (o : Int) (R : Ending → World → Prop) (w : World) : Prop :=
 kAlloc (cR Tryz.prog R) w 82 fun v2 w_1 =>
 kJn (fun J =>
 kBin (cR Tryz.prog R) w_1 .lss 3 (.int .i64 o) (.int .i64 1) fun v6 w_62 =>
 kIf v6 (
 kIf (.bool true) (
 kBuild (cR Tryz.prog R) w_62 82 #[] fun v11 w_63 =>
 kStore (cR Tryz.prog R) w_63 82 v2 v11 fun w_64 =>
 RetK Tryz.prog [.cell v2 82] R w_64) (
 kD [] [] (J [] w_62))) (
 kBin (cR Tryz.prog R) w_62 .gtr 3 (.int .i64 o) (.int .i64 20) fun v9 w_65 =>
 kIf v9 (
 kBuild (cR Tryz.prog R) w_65 82 #[] fun v11_1 w_66 =>
 kStore (cR Tryz.prog R) w_66 82 v2 v11_1 fun w_67 =>
 RetK Tryz.prog [.cell v2 82] R w_67) (
 kD [] [] (J [] w_65)))) (fun cs w_2 => ∀ ds : List Value,
 kBuildS (cR Tryz.prog R) w_2 74 21 #[(0, (.string ⟨#[]⟩)), (1, (.string ⟨#[43]⟩)), (2, (.string ⟨#[45]⟩)), (3, (.string ⟨#[42]⟩)), (4, (.string ⟨#[47]⟩)), (5, (.string ⟨#[37]⟩)), (6, (.string ⟨#[124, 124]⟩)), (7, (.string ⟨#[61]⟩)), (8, (.string ⟨#[60, 62]⟩)), (9, (.string ⟨#[60]⟩)), (10, (.string ⟨#[60, 61]⟩)), (11, (.string ⟨#[62]⟩)), (12, (.string ⟨#[62, 61]⟩)), (13, (.string ⟨#[97, 110, 100]⟩)), (14, (.string ⟨#[111, 114]⟩)), (15, (.string ⟨#[45]⟩)), (16, (.string ⟨#[110, 111, 116]⟩)), (17, (.string ⟨#[105, 115, 32, 110, 117, 108, 108]⟩)), (18, (.string ⟨#[105, 115, 32, 110, 111, 116, 32, 110, 117, 108, 108]⟩)), (19, (.string ⟨#[108, 101, 110, 103, 116, 104]⟩)), (20, (.string ⟨#[97, 98, 115]⟩))] fun v12 w_3 =>
 kIa (cR Tryz.prog R) w_3 74 v12 (.int .i64 o) fun v14 w_4 =>
 kLoad (cR Tryz.prog R) w_4 9 v14 fun v15 w_5 =>
 kBuild (cR Tryz.prog R) w_5 82 #[(0, v15), (1, (.int .i64 2)), (3, (.int .i64 1))] fun v17 w_6 =>
 kAlloc (cR Tryz.prog R) w_6 82 fun v4 w_7 =>
 kStore (cR Tryz.prog R) w_7 82 v4 v17 fun w_8 =>
 kBin (cR Tryz.prog R) w_8 .leq 3 (.int .i64 o) (.int .i64 5) fun v20 w_9 =>
 kIf v20 (
 kFa (cR Tryz.prog R) w_9 82 v4 2 fun v21 w_10 =>
 kStore (cR Tryz.prog R) w_10 80 v21 (.int .i64 2) fun w_11 =>
 kFa (cR Tryz.prog R) w_11 82 v4 3 fun v22 w_12 =>
 kStore (cR Tryz.prog R) w_12 80 v22 (.int .i64 2) fun w_13 =>
 kLoad (cR Tryz.prog R) w_13 82 v4 fun v63 w_14 =>
 kStore (cR Tryz.prog R) w_14 82 v2 v63 fun w_15 =>
 RetK Tryz.prog [.cell v2 82] R w_15) (
 kEq (cR Tryz.prog R) w_9 .eql 3 (.tmp 24) (.const (.int .i64 6)) (.int .i64 o) (.int .i64 6) fun v25 w_16 =>
 kIf v25 (
 kFa (cR Tryz.prog R) w_16 82 v4 3 fun v26 w_17 =>
 kStore (cR Tryz.prog R) w_17 80 v26 (.int .i64 0) fun w_18 =>
 kLoad (cR Tryz.prog R) w_18 82 v4 fun v63_1 w_19 =>
 kStore (cR Tryz.prog R) w_19 82 v2 v63_1 fun w_20 =>
 RetK Tryz.prog [.cell v2 82] R w_20) (
 kJn (fun J_1 =>
 kEq (cR Tryz.prog R) w_16 .eql 3 (.tmp 28) (.const (.int .i64 13)) (.int .i64 o) (.int .i64 13) fun v29 w_60 =>
 kIf v29 (
 kD [] [] (J_1 [(.bool true)] w_60)) (
 kEq (cR Tryz.prog R) w_60 .eql 3 (.tmp 31) (.const (.int .i64 14)) (.int .i64 o) (.int .i64 14) fun v32 w_61 =>
 kD [] [] (J_1 [v32] w_61))) (fun cs_1 w_21 => ∀ ds_1 : List Value,
 (fun j27 =>
 kIf j27 (
 kFa (cR Tryz.prog R) w_21 82 v4 2 fun v34 w_22 =>
 kStore (cR Tryz.prog R) w_22 80 v34 (.int .i64 1) fun w_23 =>
 kLoad (cR Tryz.prog R) w_23 82 v4 fun v63_2 w_24 =>
 kStore (cR Tryz.prog R) w_24 82 v2 v63_2 fun w_25 =>
 RetK Tryz.prog [.cell v2 82] R w_25) (
 kJn (fun J_2 =>
 kEq (cR Tryz.prog R) w_21 .eql 3 (.tmp 36) (.const (.int .i64 15)) (.int .i64 o) (.int .i64 15) fun v37 w_58 =>
 kIf v37 (
 kD [] [] (J_2 [(.bool true)] w_58)) (
 kEq (cR Tryz.prog R) w_58 .eql 3 (.tmp 39) (.const (.int .i64 20)) (.int .i64 o) (.int .i64 20) fun v40 w_59 =>
 kD [] [] (J_2 [v40] w_59))) (fun cs_2 w_26 => ∀ ds_2 : List Value,
 (fun j35 =>
 kIf j35 (
 kFa (cR Tryz.prog R) w_26 82 v4 1 fun v42 w_27 =>
 kStore (cR Tryz.prog R) w_27 3 v42 (.int .i64 1) fun w_28 =>
 kFa (cR Tryz.prog R) w_28 82 v4 2 fun v43 w_29 =>
 kStore (cR Tryz.prog R) w_29 80 v43 (.int .i64 2) fun w_30 =>
 kFa (cR Tryz.prog R) w_30 82 v4 3 fun v44 w_31 =>
 kStore (cR Tryz.prog R) w_31 80 v44 (.int .i64 2) fun w_32 =>
 kLoad (cR Tryz.prog R) w_32 82 v4 fun v63_3 w_33 =>
 kStore (cR Tryz.prog R) w_33 82 v2 v63_3 fun w_34 =>
 RetK Tryz.prog [.cell v2 82] R w_34) (
 kEq (cR Tryz.prog R) w_26 .eql 3 (.tmp 46) (.const (.int .i64 16)) (.int .i64 o) (.int .i64 16) fun v47 w_35 =>
 kIf v47 (
 kFa (cR Tryz.prog R) w_35 82 v4 1 fun v48 w_36 =>
 kStore (cR Tryz.prog R) w_36 3 v48 (.int .i64 1) fun w_37 =>
 kFa (cR Tryz.prog R) w_37 82 v4 2 fun v49 w_38 =>
 kStore (cR Tryz.prog R) w_38 80 v49 (.int .i64 1) fun w_39 =>
 kLoad (cR Tryz.prog R) w_39 82 v4 fun v63_4 w_40 =>
 kStore (cR Tryz.prog R) w_40 82 v2 v63_4 fun w_41 =>
 RetK Tryz.prog [.cell v2 82] R w_41) (
 kJn (fun J_3 =>
 kEq (cR Tryz.prog R) w_35 .eql 3 (.tmp 51) (.const (.int .i64 17)) (.int .i64 o) (.int .i64 17) fun v52 w_56 =>
 kIf v52 (
 kD [] [] (J_3 [(.bool true)] w_56)) (
 kEq (cR Tryz.prog R) w_56 .eql 3 (.tmp 54) (.const (.int .i64 18)) (.int .i64 o) (.int .i64 18) fun v55 w_57 =>
 kD [] [] (J_3 [v55] w_57))) (fun cs_3 w_42 => ∀ ds_3 : List Value,
 (fun j50 =>
 kIf j50 (
 kFa (cR Tryz.prog R) w_42 82 v4 1 fun v57 w_43 =>
 kStore (cR Tryz.prog R) w_43 3 v57 (.int .i64 1) fun w_44 =>
 kLoad (cR Tryz.prog R) w_44 82 v4 fun v63_5 w_45 =>
 kStore (cR Tryz.prog R) w_45 82 v2 v63_5 fun w_46 =>
 RetK Tryz.prog [.cell v2 82] R w_46) (
 kEq (cR Tryz.prog R) w_42 .eql 3 (.tmp 59) (.const (.int .i64 19)) (.int .i64 o) (.int .i64 19) fun v60 w_47 =>
 kIf v60 (
 kFa (cR Tryz.prog R) w_47 82 v4 1 fun v61 w_48 =>
 kStore (cR Tryz.prog R) w_48 3 v61 (.int .i64 1) fun w_49 =>
 kFa (cR Tryz.prog R) w_49 82 v4 3 fun v62 w_50 =>
 kStore (cR Tryz.prog R) w_50 80 v62 (.int .i64 2) fun w_51 =>
 kLoad (cR Tryz.prog R) w_51 82 v4 fun v63_6 w_52 =>
 kStore (cR Tryz.prog R) w_52 82 v2 v63_6 fun w_53 =>
 RetK Tryz.prog [.cell v2 82] R w_53) (
 kLoad (cR Tryz.prog R) w_47 82 v4 fun v63_7 w_54 =>
 kStore (cR Tryz.prog R) w_54 82 v2 v63_7 fun w_55 =>
 RetK Tryz.prog [.cell v2 82] R w_55))) (cs_3.getD 0 undef))))) (cs_2.getD 0 undef)))) (cs_1.getD 0 undef)))))
theorem c56 (o : Int) (R : Ending → World → Prop) (w : World) (h : vc56 o R w) : Calls Tryz.prog 56 #[(.int .i64 o)] w R :=
  calls_of_vc (A := { loops := [(1000016, [50]), (1000012, [35]), (1000010, [27]), (1000003, [])], pars := [] }) (Eq.mpr (show FnVc Tryz.prog { loops := [(1000016, [50]), (1000012, [35]), (1000010, [27]), (1000003, [])], pars := [] } 64 56 [(.int .i64 o)] R w = vc56 o R w by kernel_rfl) h)

/-- loupe/code.kinds$1 -/
def vc58 (x : Value) (R : Ending → World → Prop) (w : World) : Prop :=
 kNil (cR Tryz.prog R) w x fun v4 w_1 =>
 kFa (cR Tryz.prog R) w_1 62 v4 1 fun v5 w_2 =>
 R (.returned v5) w_2
theorem c58 (x : Value) (R : Ending → World → Prop) (w : World) (h : vc58 x R w) : Calls Tryz.prog 58 #[x] w R :=
  calls_of_vc (A := { loops := [], pars := [] }) (Eq.mpr (show FnVc Tryz.prog { loops := [], pars := [] } 6 58 [x] R w = vc58 x R w by kernel_rfl) h)

/-- loupe/code.kinds$2 -/
def vc59 (x : Value) (R : Ending → World → Prop) (w : World) : Prop :=
 kNil (cR Tryz.prog R) w x fun v4 w_1 =>
 kFa (cR Tryz.prog R) w_1 62 v4 2 fun v5 w_2 =>
 R (.returned v5) w_2
theorem c59 (x : Value) (R : Ending → World → Prop) (w : World) (h : vc59 x R w) : Calls Tryz.prog 59 #[x] w R :=
  calls_of_vc (A := { loops := [], pars := [] }) (Eq.mpr (show FnVc Tryz.prog { loops := [], pars := [] } 6 59 [x] R w = vc59 x R w by kernel_rfl) h)

/-- loupe/code.kinds$3 -/
def vc60 (x : Value) (R : Ending → World → Prop) (w : World) : Prop :=
 kNil (cR Tryz.prog R) w x fun v4 w_1 =>
 kFa (cR Tryz.prog R) w_1 62 v4 3 fun v5 w_2 =>
 R (.returned v5) w_2
theorem c60 (x : Value) (R : Ending → World → Prop) (w : World) (h : vc60 x R w) : Calls Tryz.prog 60 #[x] w R :=
  calls_of_vc (A := { loops := [], pars := [] }) (Eq.mpr (show FnVc Tryz.prog { loops := [], pars := [] } 6 60 [x] R w = vc60 x R w by kernel_rfl) h)

/-- loupe/code.kinds$4 -/
def vc61 (ofA : Value) (R : Ending → World → Prop) (w : World) : Prop :=
 kAlloc (cR Tryz.prog R) w 77 fun v2 w_1 =>
 kBuild (cR Tryz.prog R) w_1 77 #[(0, ofA), (1, (.int .i64 0)), (2, (.int .i64 399)), (3, (.bool false))] fun v4 w_2 =>
 kStore (cR Tryz.prog R) w_2 77 v2 v4 fun w_3 =>
 RetK Tryz.prog [.cell v2 77] R w_3
theorem c61 (ofA : Value) (R : Ending → World → Prop) (w : World) (h : vc61 ofA R w) : Calls Tryz.prog 61 #[ofA] w R :=
  calls_of_vc (A := { loops := [], pars := [] }) (Eq.mpr (show FnVc Tryz.prog { loops := [], pars := [] } 5 61 [ofA] R w = vc61 ofA R w by kernel_rfl) h)

/-- loupe/code.kinds$5 -/
def vc62 (ofA : Value) (R : Ending → World → Prop) (w : World) : Prop :=
 kAlloc (cR Tryz.prog R) w 77 fun v2 w_1 =>
 kBuild (cR Tryz.prog R) w_1 77 #[(0, ofA), (1, (.int .i64 0)), (2, (.int .i64 15)), (3, (.bool false))] fun v4 w_2 =>
 kStore (cR Tryz.prog R) w_2 77 v2 v4 fun w_3 =>
 RetK Tryz.prog [.cell v2 77] R w_3
theorem c62 (ofA : Value) (R : Ending → World → Prop) (w : World) (h : vc62 ofA R w) : Calls Tryz.prog 62 #[ofA] w R :=
  calls_of_vc (A := { loops := [], pars := [] }) (Eq.mpr (show FnVc Tryz.prog { loops := [], pars := [] } 5 62 [ofA] R w = vc62 ofA R w by kernel_rfl) h)

/-- loupe/code.kinds$6 -/
def vc63 (ofA : Value) (R : Ending → World → Prop) (w : World) : Prop :=
 kAlloc (cR Tryz.prog R) w 77 fun v2 w_1 =>
 kBuild (cR Tryz.prog R) w_1 77 #[(0, ofA), (1, (.int .i64 0)), (2, (.int .i64 31)), (3, (.bool false))] fun v4 w_2 =>
 kStore (cR Tryz.prog R) w_2 77 v2 v4 fun w_3 =>
 RetK Tryz.prog [.cell v2 77] R w_3
theorem c63 (ofA : Value) (R : Ending → World → Prop) (w : World) (h : vc63 ofA R w) : Calls Tryz.prog 63 #[ofA] w R :=
  calls_of_vc (A := { loops := [], pars := [] }) (Eq.mpr (show FnVc Tryz.prog { loops := [], pars := [] } 5 63 [ofA] R w = vc63 ofA R w by kernel_rfl) h)

/-- loupe/code.kinds$7 -/
def vc64 (ofA : Value) (R : Ending → World → Prop) (w : World) : Prop :=
 kAlloc (cR Tryz.prog R) w 77 fun v2 w_1 =>
 kBuild (cR Tryz.prog R) w_1 77 #[(0, ofA), (1, (.int .i64 0)), (2, (.int .i64 400)), (3, (.bool false))] fun v4 w_2 =>
 kStore (cR Tryz.prog R) w_2 77 v2 v4 fun w_3 =>
 RetK Tryz.prog [.cell v2 77] R w_3
theorem c64 (ofA : Value) (R : Ending → World → Prop) (w : World) (h : vc64 ofA R w) : Calls Tryz.prog 64 #[ofA] w R :=
  calls_of_vc (A := { loops := [], pars := [] }) (Eq.mpr (show FnVc Tryz.prog { loops := [], pars := [] } 5 64 [ofA] R w = vc64 ofA R w by kernel_rfl) h)

/-- loupe/code.kinds$8 -/
def vc65 (ofA : Value) (R : Ending → World → Prop) (w : World) : Prop :=
 kAlloc (cR Tryz.prog R) w 77 fun v2 w_1 =>
 kBuild (cR Tryz.prog R) w_1 77 #[(0, ofA), (1, (.int .i64 0)), (2, (.int .i64 0)), (3, (.bool true))] fun v4 w_2 =>
 kStore (cR Tryz.prog R) w_2 77 v2 v4 fun w_3 =>
 RetK Tryz.prog [.cell v2 77] R w_3
theorem c65 (ofA : Value) (R : Ending → World → Prop) (w : World) (h : vc65 ofA R w) : Calls Tryz.prog 65 #[ofA] w R :=
  calls_of_vc (A := { loops := [], pars := [] }) (Eq.mpr (show FnVc Tryz.prog { loops := [], pars := [] } 5 65 [ofA] R w = vc65 ofA R w by kernel_rfl) h)

/-- loupe/code.kinds$9 -/
def vc66 (ofA : Value) (R : Ending → World → Prop) (w : World) : Prop :=
 kAlloc (cR Tryz.prog R) w 77 fun v2 w_1 =>
 kBuild (cR Tryz.prog R) w_1 77 #[(0, ofA), (1, (.int .i64 (-1))), (2, (.int .i64 2147483647)), (3, (.bool false))] fun v4 w_2 =>
 kStore (cR Tryz.prog R) w_2 77 v2 v4 fun w_3 =>
 RetK Tryz.prog [.cell v2 77] R w_3
theorem c66 (ofA : Value) (R : Ending → World → Prop) (w : World) (h : vc66 ofA R w) : Calls Tryz.prog 66 #[ofA] w R :=
  calls_of_vc (A := { loops := [], pars := [] }) (Eq.mpr (show FnVc Tryz.prog { loops := [], pars := [] } 5 66 [ofA] R w = vc66 ofA R w by kernel_rfl) h)

/-- loupe/code.nothing -/
def vc67 (a0 : Int) (a1 : Int) (a2 : Int) (a3 : Int) (a4 : Int) (a5 : Int) (a6 : Int) (a7 : ByteArray) (a8 : ByteArray) (a9 : Option Addr) (a9n : Nat) (a9c : Nat) (R : Ending → World → Prop) (w : World) : Prop :=
 kBox (cR Tryz.prog R) w 62 (.agg #[(.int .i64 a0), (.int .i64 a1), (.int .i64 a2), (.int .i64 a3), (.int .i64 a4), (.int .i64 a5), (.int .i64 a6), (.string a7), (.string a8), (.slice a9 a9n a9c)]) fun v1 w_1 =>
 kAlloc (cR Tryz.prog R) w_1 62 fun v2 w_2 =>
 kBuild (cR Tryz.prog R) w_2 62 #[] fun v4 w_3 =>
 kStore (cR Tryz.prog R) w_3 62 v2 v4 fun w_4 =>
 RetK Tryz.prog [.cell v2 62, .val (.bool true)] R w_4
theorem c67 (a0 : Int) (a1 : Int) (a2 : Int) (a3 : Int) (a4 : Int) (a5 : Int) (a6 : Int) (a7 : ByteArray) (a8 : ByteArray) (a9 : Option Addr) (a9n : Nat) (a9c : Nat) (R : Ending → World → Prop) (w : World) (h : vc67 a0 a1 a2 a3 a4 a5 a6 a7 a8 a9 a9n a9c R w) : Calls Tryz.prog 67 #[(.agg #[(.int .i64 a0), (.int .i64 a1), (.int .i64 a2), (.int .i64 a3), (.int .i64 a4), (.int .i64 a5), (.int .i64 a6), (.string a7), (.string a8), (.slice a9 a9n a9c)])] w R :=
  calls_of_vc (A := { loops := [], pars := [] }) (Eq.mpr (show FnVc Tryz.prog { loops := [], pars := [] } 5 67 [(.agg #[(.int .i64 a0), (.int .i64 a1), (.int .i64 a2), (.int .i64 a3), (.int .i64 a4), (.int .i64 a5), (.int .i64 a6), (.string a7), (.string a8), (.slice a9 a9n a9c)])] R w = vc67 a0 a1 a2 a3 a4 a5 a6 a7 a8 a9 a9n a9c R w by kernel_rfl) h)

/-- loupe/code.valued -/
def vc68 (x0 : Int) (x1 : Int) (x2 : Int) (x3 : Int) (x4 : Int) (x5 : Int) (x6 : Int) (x7 : ByteArray) (x8 : ByteArray) (x9 : Option Addr) (x9n : Nat) (x9c : Nat) (R : Ending → World → Prop) (w : World) : Prop :=
 kBox (cR Tryz.prog R) w 62 (.agg #[(.int .i64 x0), (.int .i64 x1), (.int .i64 x2), (.int .i64 x3), (.int .i64 x4), (.int .i64 x5), (.int .i64 x6), (.string x7), (.string x8), (.slice x9 x9n x9c)]) fun v1 w_1 =>
 kAlloc (cR Tryz.prog R) w_1 62 fun v2 w_2 =>
 kDrawn true (
 kDrawn true (
 kFa (cQ Tryz.prog) w_2 62 v1 5 fun v4 w_3 =>
 kLoad (cQ Tryz.prog) w_3 59 v4 fun v5 w_4 =>
 kBuild (cQ Tryz.prog) w_4 62 #[(5, v5)] fun v6 w_5 =>
 kFa (cQ Tryz.prog) w_5 62 v1 5 fun v7 w_6 =>
 kLoad (cQ Tryz.prog) w_6 59 v7 fun v8 w_7 =>
 kDrew w_7 fun w_8 =>
 (fun (c : Cx) =>
 kCall c w_8 104 #[v8] fun v9 w_9 =>
 kFa (cQ Tryz.prog) w_9 62 v1 5 fun v4_1 w_10 =>
 kSame v4_1 v4 (
 kLoad (cQ Tryz.prog) w_9 59 v4 fun v5_1 w_11 =>
 kSame v5_1 v5 (
 kBuild (cQ Tryz.prog) w_9 62 #[(5, v5)] fun v6_1 w_12 =>
 kSame v6_1 v6 (
 kEq (cQ Tryz.prog) w_9 .eql 26 (.tmp 9) (.const (.int .i64 0)) v9 (.int .i64 0) fun v10 w_13 =>
 kDrew w_13 fun w_14 =>
 kStore c w_14 62 v2 v6 fun w_15 =>
 kEq (cQ Tryz.prog) w_15 .eql 26 (.tmp 9) (.const (.int .i64 0)) v9 (.int .i64 0) fun v10_1 w_16 =>
 kSame v10_1 v10 (
 kDrew w_15 fun w_17 =>
 RetK Tryz.prog [.cell v2 62, .val v10] R w_17))))) ⟨Tryz.prog, fun ch w => ∀ _ : List Value, R (.panicked ch) w, false⟩))
theorem c68 (x0 : Int) (x1 : Int) (x2 : Int) (x3 : Int) (x4 : Int) (x5 : Int) (x6 : Int) (x7 : ByteArray) (x8 : ByteArray) (x9 : Option Addr) (x9n : Nat) (x9c : Nat) (R : Ending → World → Prop) (w : World) (h : vc68 x0 x1 x2 x3 x4 x5 x6 x7 x8 x9 x9n x9c R w) : Calls Tryz.prog 68 #[(.agg #[(.int .i64 x0), (.int .i64 x1), (.int .i64 x2), (.int .i64 x3), (.int .i64 x4), (.int .i64 x5), (.int .i64 x6), (.string x7), (.string x8), (.slice x9 x9n x9c)])] w R :=
  calls_of_vc (A := { loops := [], pars := [], chs := [(1, (.q 0 (.q 1 (.q 2 (.q 3 (.q 4 (.e 5 (.q 6 (.e 7 .done)))))))))] }) (Eq.mpr (show FnVc Tryz.prog { loops := [], pars := [], chs := [(1, (.q 0 (.q 1 (.q 2 (.q 3 (.q 4 (.e 5 (.q 6 (.e 7 .done)))))))))] } 11 68 [(.agg #[(.int .i64 x0), (.int .i64 x1), (.int .i64 x2), (.int .i64 x3), (.int .i64 x4), (.int .i64 x5), (.int .i64 x6), (.string x7), (.string x8), (.slice x9 x9n x9c)])] R w = vc68 x0 x1 x2 x3 x4 x5 x6 x7 x8 x9 x9n x9c R w by kernel_rfl) h)

/-- loupe/code.operated -/
def vc69 (x0 : Int) (x1 : Int) (x2 : Int) (x3 : Int) (x4 : Int) (x5 : Int) (x6 : Int) (x7 : ByteArray) (x8 : ByteArray) (x9 : Option Addr) (x9n : Nat) (x9c : Nat) (R : Ending → World → Prop) (w : World) : Prop :=
 kBox (cR Tryz.prog R) w 62 (.agg #[(.int .i64 x0), (.int .i64 x1), (.int .i64 x2), (.int .i64 x3), (.int .i64 x4), (.int .i64 x5), (.int .i64 x6), (.string x7), (.string x8), (.slice x9 x9n x9c)]) fun v1 w_1 =>
 kAlloc (cR Tryz.prog R) w_1 62 fun v2 w_2 =>
 kFa (cR Tryz.prog R) w_2 62 v1 4 fun v9 w_3 =>
 kLoad (cR Tryz.prog R) w_3 56 v9 fun v10 w_4 =>
 kCall (cR Tryz.prog R) w_4 29 #[v10] fun v11 w_5 =>
 kExt v11 0 fun v12 =>
 kExt v11 1 fun v13 =>
 kAlloc (cR Tryz.prog R) w_5 82 fun v4 w_6 =>
 kStore (cR Tryz.prog R) w_6 82 v4 v12 fun w_7 =>
 kDrawn true (
 kDrawn true (
 kJn (fun J =>
 kLoad (cQ Tryz.prog) w_7 62 v1 fun v16 w_8 =>
 kBoth (
 kDrew w_8 fun w_9 =>
 (fun (c : Cx) =>
 kCall c w_9 70 #[(.int .i64 0)] fun v15 w_10 =>
 kLoad (cQ Tryz.prog) w_10 62 v1 fun v16_1 w_11 =>
 kSame v16_1 v16 (
 kBoth (
 kDrew w_10 fun w_12 =>
 kCallV c w_12 v15 #[v16] fun v17 w_13 =>
 kExt v17 0 fun v18 =>
 kExt v17 1 fun v19 =>
 kDrew w_13 fun w_14 =>
 kAlloc c w_14 62 fun v6 w_15 =>
 kDrew w_15 fun w_16 =>
 kStore c w_16 62 v6 v18 fun w_17 =>
 kDrew w_17 fun w_18 => J [v15, v16, v17, v17, v18, v19, v6, undef] w_18) (
 kDrew w_10 fun w_19 =>
 kAlloc c w_19 62 fun v6_1 w_20 =>
 kLoad (cQ Tryz.prog) w_20 62 v1 fun v16_2 w_21 =>
 kSame v16_2 v16 (
 kDrew w_20 fun w_22 =>
 kCallV c w_22 v15 #[v16] fun v17_1 w_23 =>
 kExt v17_1 0 fun v18_1 =>
 kExt v17_1 1 fun v19_1 =>
 kDrew w_23 fun w_24 =>
 kStore c w_24 62 v6_1 v18_1 fun w_25 =>
 kDrew w_25 fun w_26 => J [v15, v16, v17_1, v17_1, v18_1, v19_1, v6_1, undef] w_26)))) ⟨Tryz.prog, fun ch w => ∀ _ : List Value, R (.panicked ch) w, false⟩) (
 kDrew w_8 fun w_27 =>
 (fun (c_1 : Cx) =>
 kAlloc c_1 w_27 62 fun v6_2 w_28 =>
 kLoad (cQ Tryz.prog) w_28 62 v1 fun v16_3 w_29 =>
 kSame v16_3 v16 (
 kDrew w_28 fun w_30 =>
 kCall c_1 w_30 70 #[(.int .i64 0)] fun v15_1 w_31 =>
 kLoad (cQ Tryz.prog) w_31 62 v1 fun v16_4 w_32 =>
 kSame v16_4 v16 (
 kDrew w_31 fun w_33 =>
 kCallV c_1 w_33 v15_1 #[v16] fun v17_2 w_34 =>
 kExt v17_2 0 fun v18_2 =>
 kExt v17_2 1 fun v19_2 =>
 kDrew w_34 fun w_35 =>
 kStore c_1 w_35 62 v6_2 v18_2 fun w_36 =>
 kDrew w_36 fun w_37 => J [v15_1, v16, v17_2, v17_2, v18_2, v19_2, v6_2, undef] w_37))) ⟨Tryz.prog, fun ch w => ∀ _ : List Value, R (.panicked ch) w, false⟩)) (fun cs w_38 =>
 (fun g5 g6 =>
 kFa (cR Tryz.prog R) w_38 62 v1 4 fun v20 w_39 =>
 kLoad (cR Tryz.prog R) w_39 56 v20 fun v21 w_40 =>
 kFa (cR Tryz.prog R) w_40 62 g6 4 fun v22 w_41 =>
 kStore (cR Tryz.prog R) w_41 56 v22 v21 fun w_42 =>
 kDrawn true (
 kDrawn true (
 kLoad (cQ Tryz.prog) w_42 62 g6 fun v23 w_43 =>
 kIf v13 (
 kIf g5 (
 kFa (cQ Tryz.prog) w_43 62 v1 7 fun v29 w_44 =>
 kLoad (cQ Tryz.prog) w_44 60 v29 fun v30 w_45 =>
 kBlt (cQ Tryz.prog) w_45 .len #[60] 3 #[false] #[v30] fun v31 w_46 =>
 kFa (cQ Tryz.prog) w_46 82 v4 1 fun v32 w_47 =>
 kLoad (cQ Tryz.prog) w_47 3 v32 fun v33 w_48 =>
 kEq (cQ Tryz.prog) w_48 .eql 3 (.tmp 31) (.tmp 33) v31 v33 fun v34 w_49 =>
 kDrew w_49 fun w_50 =>
 (fun (c_2 : Cx) =>
 kStore c_2 w_50 62 v2 v23 fun w_51 =>
 kFa (cQ Tryz.prog) w_51 62 v1 7 fun v29_1 w_52 =>
 kSame v29_1 v29 (
 kLoad (cQ Tryz.prog) w_51 60 v29 fun v30_1 w_53 =>
 kSame v30_1 v30 (
 kBlt (cQ Tryz.prog) w_51 .len #[60] 3 #[false] #[v30] fun v31_1 w_54 =>
 kSame v31_1 v31 (
 kFa (cQ Tryz.prog) w_51 82 v4 1 fun v32_1 w_55 =>
 kSame v32_1 v32 (
 kLoad (cQ Tryz.prog) w_51 3 v32 fun v33_1 w_56 =>
 kSame v33_1 v33 (
 kEq (cQ Tryz.prog) w_51 .eql 3 (.tmp 31) (.tmp 33) v31 v33 fun v34_1 w_57 =>
 kSame v34_1 v34 (
 kDrew w_51 fun w_58 =>
 RetK Tryz.prog [.cell v2 62, .val v34] R w_58))))))) ⟨Tryz.prog, fun ch w => ∀ _ : List Value, R (.panicked ch) w, false⟩) (
 kDrew w_43 fun w_59 =>
 (fun (c_3 : Cx) =>
 kStore c_3 w_59 62 v2 v23 fun w_60 =>
 kDrew w_60 fun w_61 =>
 RetK Tryz.prog [.cell v2 62, .val (.bool false)] R w_61) ⟨Tryz.prog, fun ch w => ∀ _ : List Value, R (.panicked ch) w, false⟩)) (
 kDrew w_43 fun w_62 =>
 (fun (c_4 : Cx) =>
 kStore c_4 w_62 62 v2 v23 fun w_63 =>
 kDrew w_63 fun w_64 =>
 RetK Tryz.prog [.cell v2 62, .val (.bool false)] R w_64) ⟨Tryz.prog, fun ch w => ∀ _ : List Value, R (.panicked ch) w, false⟩)))) (cs.getD 5 undef) (cs.getD 6 undef))))
theorem c69 (x0 : Int) (x1 : Int) (x2 : Int) (x3 : Int) (x4 : Int) (x5 : Int) (x6 : Int) (x7 : ByteArray) (x8 : ByteArray) (x9 : Option Addr) (x9n : Nat) (x9c : Nat) (R : Ending → World → Prop) (w : World) (h : vc69 x0 x1 x2 x3 x4 x5 x6 x7 x8 x9 x9n x9c R w) : Calls Tryz.prog 69 #[(.agg #[(.int .i64 x0), (.int .i64 x1), (.int .i64 x2), (.int .i64 x3), (.int .i64 x4), (.int .i64 x5), (.int .i64 x6), (.string x7), (.string x8), (.slice x9 x9n x9c)])] w R :=
  calls_of_vc (A := { loops := [], pars := [], chs := [(2, (.q 1 (.or 0 (.or 2 (.q 3 (.q 4 (.q 5 (.e 6 (.e 7 .done))))) (.e 6 (.e 2 (.q 3 (.q 4 (.q 5 (.e 7 .done))))))) (.e 6 (.e 0 (.e 2 (.q 3 (.q 4 (.q 5 (.e 7 .done)))))))))), (4, (.q 0 (.q 1 (.q 2 (.q 3 (.q 4 (.q 5 (.q 6 (.q 7 (.q 8 (.q 9 (.q 10 (.q 11 (.q 12 (.e 13 .done)))))))))))))))] }) (Eq.mpr (show FnVc Tryz.prog { loops := [], pars := [], chs := [(2, (.q 1 (.or 0 (.or 2 (.q 3 (.q 4 (.q 5 (.e 6 (.e 7 .done))))) (.e 6 (.e 2 (.q 3 (.q 4 (.q 5 (.e 7 .done))))))) (.e 6 (.e 0 (.e 2 (.q 3 (.q 4 (.q 5 (.e 7 .done)))))))))), (4, (.q 0 (.q 1 (.q 2 (.q 3 (.q 4 (.q 5 (.q 6 (.q 7 (.q 8 (.q 9 (.q 10 (.q 11 (.q 12 (.e 13 .done)))))))))))))))] } 36 69 [(.agg #[(.int .i64 x0), (.int .i64 x1), (.int .i64 x2), (.int .i64 x3), (.int .i64 x4), (.int .i64 x5), (.int .i64 x6), (.string x7), (.string x8), (.slice x9 x9n x9c)])] R w = vc69 x0 x1 x2 x3 x4 x5 x6 x7 x8 x9 x9n x9c R w by kernel_rfl) h)

/-- loupe/code.args -/
def vc70 (least : Int) (R : Ending → World → Prop) (w : World) : Prop :=
 kBox (cR Tryz.prog R) w 3 (.int .i64 least) fun v1 w_1 =>
 R (.returned (.func (.func 105) #[] #[v1])) w_1
theorem c70 (least : Int) (R : Ending → World → Prop) (w : World) (h : vc70 least R w) : Calls Tryz.prog 70 #[(.int .i64 least)] w R :=
  calls_of_vc (A := { loops := [], pars := [] }) (Eq.mpr (show FnVc Tryz.prog { loops := [], pars := [] } 4 70 [(.int .i64 least)] R w = vc70 least R w by kernel_rfl) h)

/-- loupe/code.named -/
def vc71 (x0 : Int) (x1 : Int) (x2 : Int) (x3 : Int) (x4 : Int) (x5 : Int) (x6 : Int) (x7 : ByteArray) (x8 : ByteArray) (x9 : Option Addr) (x9n : Nat) (x9c : Nat) (R : Ending → World → Prop) (w : World) : Prop :=
 kBox (cR Tryz.prog R) w 62 (.agg #[(.int .i64 x0), (.int .i64 x1), (.int .i64 x2), (.int .i64 x3), (.int .i64 x4), (.int .i64 x5), (.int .i64 x6), (.string x7), (.string x8), (.slice x9 x9n x9c)]) fun v1 w_1 =>
 kAlloc (cR Tryz.prog R) w_1 62 fun v2 w_2 =>
 kDrawn true (
 kDrawn true (
 kFa (cQ Tryz.prog) w_2 62 v1 6 fun v4 w_3 =>
 kLoad (cQ Tryz.prog) w_3 9 v4 fun v5 w_4 =>
 kBuild (cQ Tryz.prog) w_4 62 #[(6, v5)] fun v6 w_5 =>
 kFa (cQ Tryz.prog) w_5 62 v1 6 fun v7 w_6 =>
 kLoad (cQ Tryz.prog) w_6 9 v7 fun v8 w_7 =>
 kBlt (cQ Tryz.prog) w_7 .len #[9] 3 #[false] #[v8] fun v9 w_8 =>
 kDrew w_8 fun w_9 =>
 (fun (c : Cx) =>
 kBuildS c w_9 60 1 #[(0, v9)] fun v10 w_10 =>
 kFa (cQ Tryz.prog) w_10 62 v1 6 fun v4_1 w_11 =>
 kSame v4_1 v4 (
 kLoad (cQ Tryz.prog) w_10 9 v4 fun v5_1 w_12 =>
 kSame v5_1 v5 (
 kBuild (cQ Tryz.prog) w_10 62 #[(6, v5)] fun v6_1 w_13 =>
 kSame v6_1 v6 (
 kDrew w_10 fun w_14 =>
 kCall c w_14 36 #[(.int .i64 1), (.int .i64 100), v10] fun v11 w_15 =>
 kFa (cQ Tryz.prog) w_15 62 v1 6 fun v4_2 w_16 =>
 kSame v4_2 v4 (
 kLoad (cQ Tryz.prog) w_15 9 v4 fun v5_2 w_17 =>
 kSame v5_2 v5 (
 kBuild (cQ Tryz.prog) w_15 62 #[(6, v5)] fun v6_2 w_18 =>
 kSame v6_2 v6 (
 kDrew w_15 fun w_19 =>
 kStore c w_19 62 v2 v6 fun w_20 =>
 kDrew w_20 fun w_21 =>
 RetK Tryz.prog [.cell v2 62, .val v11] R w_21))))))) ⟨Tryz.prog, fun ch w => ∀ _ : List Value, R (.panicked ch) w, false⟩))
theorem c71 (x0 : Int) (x1 : Int) (x2 : Int) (x3 : Int) (x4 : Int) (x5 : Int) (x6 : Int) (x7 : ByteArray) (x8 : ByteArray) (x9 : Option Addr) (x9n : Nat) (x9c : Nat) (R : Ending → World → Prop) (w : World) (h : vc71 x0 x1 x2 x3 x4 x5 x6 x7 x8 x9 x9n x9c R w) : Calls Tryz.prog 71 #[(.agg #[(.int .i64 x0), (.int .i64 x1), (.int .i64 x2), (.int .i64 x3), (.int .i64 x4), (.int .i64 x5), (.int .i64 x6), (.string x7), (.string x8), (.slice x9 x9n x9c)])] w R :=
  calls_of_vc (A := { loops := [], pars := [], chs := [(1, (.q 0 (.q 1 (.q 2 (.q 3 (.q 4 (.q 5 (.e 6 (.e 7 (.e 8 .done))))))))))] }) (Eq.mpr (show FnVc Tryz.prog { loops := [], pars := [], chs := [(1, (.q 0 (.q 1 (.q 2 (.q 3 (.q 4 (.q 5 (.e 6 (.e 7 (.e 8 .done))))))))))] } 12 71 [(.agg #[(.int .i64 x0), (.int .i64 x1), (.int .i64 x2), (.int .i64 x3), (.int .i64 x4), (.int .i64 x5), (.int .i64 x6), (.string x7), (.string x8), (.slice x9 x9n x9c)])] R w = vc71 x0 x1 x2 x3 x4 x5 x6 x7 x8 x9 x9n x9c R w by kernel_rfl) h)

/-- loupe/code.summed -/
def vc72 (x0 : Int) (x1 : Int) (x2 : Int) (x3 : Int) (x4 : Int) (x5 : Int) (x6 : Int) (x7 : ByteArray) (x8 : ByteArray) (x9 : Option Addr) (x9n : Nat) (x9c : Nat) (R : Ending → World → Prop) (w : World) : Prop :=
 kBox (cR Tryz.prog R) w 62 (.agg #[(.int .i64 x0), (.int .i64 x1), (.int .i64 x2), (.int .i64 x3), (.int .i64 x4), (.int .i64 x5), (.int .i64 x6), (.string x7), (.string x8), (.slice x9 x9n x9c)]) fun v1 w_1 =>
 kAlloc (cR Tryz.prog R) w_1 62 fun v2 w_2 =>
 kDrawn true (
 kDrawn true (
 kFa (cQ Tryz.prog) w_2 62 v1 6 fun v4 w_3 =>
 kLoad (cQ Tryz.prog) w_3 9 v4 fun v5 w_4 =>
 kBuild (cQ Tryz.prog) w_4 62 #[(6, v5)] fun v6 w_5 =>
 kFa (cQ Tryz.prog) w_5 62 v1 6 fun v8 w_6 =>
 kLoad (cQ Tryz.prog) w_6 9 v8 fun v9 w_7 =>
 kDrew w_7 fun w_8 =>
 (fun (c : Cx) =>
 kBuildS c w_8 74 4 #[(0, (.string ⟨#[99, 111, 117, 110, 116]⟩)), (1, (.string ⟨#[115, 117, 109]⟩)), (2, (.string ⟨#[109, 105, 110]⟩)), (3, (.string ⟨#[109, 97, 120]⟩))] fun v7 w_9 =>
 kFa (cQ Tryz.prog) w_9 62 v1 6 fun v4_1 w_10 =>
 kSame v4_1 v4 (
 kLoad (cQ Tryz.prog) w_9 9 v4 fun v5_1 w_11 =>
 kSame v5_1 v5 (
 kBuild (cQ Tryz.prog) w_9 62 #[(6, v5)] fun v6_1 w_12 =>
 kSame v6_1 v6 (
 kFa (cQ Tryz.prog) w_9 62 v1 6 fun v8_1 w_13 =>
 kSame v8_1 v8 (
 kLoad (cQ Tryz.prog) w_9 9 v8 fun v9_1 w_14 =>
 kSame v9_1 v9 (
 kDrew w_9 fun w_15 =>
 kCall c w_15 106 #[v7, v9] fun v10 w_16 =>
 kFa (cQ Tryz.prog) w_16 62 v1 6 fun v4_2 w_17 =>
 kSame v4_2 v4 (
 kLoad (cQ Tryz.prog) w_16 9 v4 fun v5_2 w_18 =>
 kSame v5_2 v5 (
 kBuild (cQ Tryz.prog) w_16 62 #[(6, v5)] fun v6_2 w_19 =>
 kSame v6_2 v6 (
 kDrew w_16 fun w_20 =>
 kStore c w_20 62 v2 v6 fun w_21 =>
 kDrew w_21 fun w_22 =>
 RetK Tryz.prog [.cell v2 62, .val v10] R w_22))))))))) ⟨Tryz.prog, fun ch w => ∀ _ : List Value, R (.panicked ch) w, false⟩))
theorem c72 (x0 : Int) (x1 : Int) (x2 : Int) (x3 : Int) (x4 : Int) (x5 : Int) (x6 : Int) (x7 : ByteArray) (x8 : ByteArray) (x9 : Option Addr) (x9n : Nat) (x9c : Nat) (R : Ending → World → Prop) (w : World) (h : vc72 x0 x1 x2 x3 x4 x5 x6 x7 x8 x9 x9n x9c R w) : Calls Tryz.prog 72 #[(.agg #[(.int .i64 x0), (.int .i64 x1), (.int .i64 x2), (.int .i64 x3), (.int .i64 x4), (.int .i64 x5), (.int .i64 x6), (.string x7), (.string x8), (.slice x9 x9n x9c)])] w R :=
  calls_of_vc (A := { loops := [], pars := [], chs := [(1, (.q 0 (.q 1 (.q 2 (.q 4 (.q 5 (.e 3 (.e 6 (.e 7 .done)))))))))] }) (Eq.mpr (show FnVc Tryz.prog { loops := [], pars := [], chs := [(1, (.q 0 (.q 1 (.q 2 (.q 4 (.q 5 (.e 3 (.e 6 (.e 7 .done)))))))))] } 11 72 [(.agg #[(.int .i64 x0), (.int .i64 x1), (.int .i64 x2), (.int .i64 x3), (.int .i64 x4), (.int .i64 x5), (.int .i64 x6), (.string x7), (.string x8), (.slice x9 x9n x9c)])] R w = vc72 x0 x1 x2 x3 x4 x5 x6 x7 x8 x9 x9n x9c R w by kernel_rfl) h)

/-- loupe/code.sorted -/
def vc73 (x0 : Int) (x1 : Int) (x2 : Int) (x3 : Int) (x4 : Int) (x5 : Int) (x6 : Int) (x7 : ByteArray) (x8 : ByteArray) (x9 : Option Addr) (x9n : Nat) (x9c : Nat) (R : Ending → World → Prop) (w : World) : Prop :=
 kBox (cR Tryz.prog R) w 62 (.agg #[(.int .i64 x0), (.int .i64 x1), (.int .i64 x2), (.int .i64 x3), (.int .i64 x4), (.int .i64 x5), (.int .i64 x6), (.string x7), (.string x8), (.slice x9 x9n x9c)]) fun v1 w_1 =>
 kAlloc (cR Tryz.prog R) w_1 62 fun v2 w_2 =>
 kDrawn true (
 kDrawn true (
 kFa (cQ Tryz.prog) w_2 62 v1 7 fun v4 w_3 =>
 kLoad (cQ Tryz.prog) w_3 60 v4 fun v5 w_4 =>
 kBuild (cQ Tryz.prog) w_4 62 #[(7, v5)] fun v6 w_5 =>
 kFa (cQ Tryz.prog) w_5 62 v1 7 fun v7 w_6 =>
 kLoad (cQ Tryz.prog) w_6 60 v7 fun v8 w_7 =>
 kBlt (cQ Tryz.prog) w_7 .len #[60] 3 #[false] #[v8] fun v9 w_8 =>
 kBin (cQ Tryz.prog) w_8 .leq 3 v9 (.int .i64 200) fun v10 w_9 =>
 kIf v10 (
 kFa (cQ Tryz.prog) w_9 62 v1 7 fun v12 w_10 =>
 kLoad (cQ Tryz.prog) w_10 60 v12 fun v13 w_11 =>
 kDrew w_11 fun w_12 =>
 (fun (c : Cx) =>
 kCall c w_12 36 #[(.int .i64 0), (.int .i64 1), v13] fun v14 w_13 =>
 kFa (cQ Tryz.prog) w_13 62 v1 7 fun v4_1 w_14 =>
 kSame v4_1 v4 (
 kLoad (cQ Tryz.prog) w_13 60 v4 fun v5_1 w_15 =>
 kSame v5_1 v5 (
 kBuild (cQ Tryz.prog) w_13 62 #[(7, v5)] fun v6_1 w_16 =>
 kSame v6_1 v6 (
 kDrew w_13 fun w_17 =>
 kStore c w_17 62 v2 v6 fun w_18 =>
 kDrew w_18 fun w_19 =>
 RetK Tryz.prog [.cell v2 62, .val v14] R w_19)))) ⟨Tryz.prog, fun ch w => ∀ _ : List Value, R (.panicked ch) w, false⟩) (
 kDrew w_9 fun w_20 =>
 (fun (c_1 : Cx) =>
 kStore c_1 w_20 62 v2 v6 fun w_21 =>
 kDrew w_21 fun w_22 =>
 RetK Tryz.prog [.cell v2 62, .val (.bool false)] R w_22) ⟨Tryz.prog, fun ch w => ∀ _ : List Value, R (.panicked ch) w, false⟩)))
theorem c73 (x0 : Int) (x1 : Int) (x2 : Int) (x3 : Int) (x4 : Int) (x5 : Int) (x6 : Int) (x7 : ByteArray) (x8 : ByteArray) (x9 : Option Addr) (x9n : Nat) (x9c : Nat) (R : Ending → World → Prop) (w : World) (h : vc73 x0 x1 x2 x3 x4 x5 x6 x7 x8 x9 x9n x9c R w) : Calls Tryz.prog 73 #[(.agg #[(.int .i64 x0), (.int .i64 x1), (.int .i64 x2), (.int .i64 x3), (.int .i64 x4), (.int .i64 x5), (.int .i64 x6), (.string x7), (.string x8), (.slice x9 x9n x9c)])] w R :=
  calls_of_vc (A := { loops := [], pars := [], chs := [(1, (.q 0 (.q 1 (.q 2 (.q 3 (.q 4 (.q 5 (.q 6 (.q 7 (.q 8 (.q 9 (.e 10 (.q 11 (.e 12 .done))))))))))))))] }) (Eq.mpr (show FnVc Tryz.prog { loops := [], pars := [], chs := [(1, (.q 0 (.q 1 (.q 2 (.q 3 (.q 4 (.q 5 (.q 6 (.q 7 (.q 8 (.q 9 (.e 10 (.q 11 (.e 12 .done))))))))))))))] } 16 73 [(.agg #[(.int .i64 x0), (.int .i64 x1), (.int .i64 x2), (.int .i64 x3), (.int .i64 x4), (.int .i64 x5), (.int .i64 x6), (.string x7), (.string x8), (.slice x9 x9n x9c)])] R w = vc73 x0 x1 x2 x3 x4 x5 x6 x7 x8 x9 x9n x9c R w by kernel_rfl) h)

/-- loupe/sum.rows -/
def vc75  (R : Ending → World → Prop) (w : World) : Prop :=
 kAlloc (cR Tryz.prog R) w 127 fun v0 w_1 =>
 kBuild (cR Tryz.prog R) w_1 82 #[(0, (.string ⟨#[43]⟩)), (1, (.int .i64 2)), (2, (.int .i64 2)), (3, (.int .i64 2))] fun v5 w_2 =>
 kBuild (cR Tryz.prog R) w_2 82 #[(0, (.string ⟨#[45]⟩)), (1, (.int .i64 2)), (2, (.int .i64 2)), (3, (.int .i64 2))] fun v8 w_3 =>
 kBuild (cR Tryz.prog R) w_3 82 #[(0, (.string ⟨#[42]⟩)), (1, (.int .i64 2)), (2, (.int .i64 2)), (3, (.int .i64 2))] fun v11 w_4 =>
 kBuild (cR Tryz.prog R) w_4 82 #[(0, (.string ⟨#[47]⟩)), (1, (.int .i64 2)), (2, (.int .i64 2)), (3, (.int .i64 2))] fun v14 w_5 =>
 kBuild (cR Tryz.prog R) w_5 82 #[(0, (.string ⟨#[37]⟩)), (1, (.int .i64 2)), (2, (.int .i64 2)), (3, (.int .i64 2))] fun v17 w_6 =>
 kBuild (cR Tryz.prog R) w_6 82 #[(0, (.string ⟨#[124, 124]⟩)), (1, (.int .i64 2))] fun v18 w_7 =>
 kBuild (cR Tryz.prog R) w_7 82 #[(0, (.string ⟨#[61]⟩)), (1, (.int .i64 2)), (3, (.int .i64 1))] fun v20 w_8 =>
 kBuild (cR Tryz.prog R) w_8 82 #[(0, (.string ⟨#[60, 62]⟩)), (1, (.int .i64 2)), (3, (.int .i64 1))] fun v22 w_9 =>
 kBuild (cR Tryz.prog R) w_9 82 #[(0, (.string ⟨#[60]⟩)), (1, (.int .i64 2)), (3, (.int .i64 1))] fun v24 w_10 =>
 kBuild (cR Tryz.prog R) w_10 82 #[(0, (.string ⟨#[60, 61]⟩)), (1, (.int .i64 2)), (3, (.int .i64 1))] fun v26 w_11 =>
 kBuild (cR Tryz.prog R) w_11 82 #[(0, (.string ⟨#[62]⟩)), (1, (.int .i64 2)), (3, (.int .i64 1))] fun v28 w_12 =>
 kBuild (cR Tryz.prog R) w_12 82 #[(0, (.string ⟨#[62, 61]⟩)), (1, (.int .i64 2)), (3, (.int .i64 1))] fun v30 w_13 =>
 kBuild (cR Tryz.prog R) w_13 82 #[(0, (.string ⟨#[97, 110, 100]⟩)), (1, (.int .i64 2)), (2, (.int .i64 1)), (3, (.int .i64 1))] fun v33 w_14 =>
 kBuild (cR Tryz.prog R) w_14 82 #[(0, (.string ⟨#[111, 114]⟩)), (1, (.int .i64 2)), (2, (.int .i64 1)), (3, (.int .i64 1))] fun v36 w_15 =>
 kBuild (cR Tryz.prog R) w_15 82 #[(0, (.string ⟨#[45]⟩)), (1, (.int .i64 1)), (2, (.int .i64 2)), (3, (.int .i64 2))] fun v39 w_16 =>
 kBuild (cR Tryz.prog R) w_16 82 #[(0, (.string ⟨#[110, 111, 116]⟩)), (1, (.int .i64 1)), (2, (.int .i64 1)), (3, (.int .i64 1))] fun v42 w_17 =>
 kBuild (cR Tryz.prog R) w_17 82 #[(0, (.string ⟨#[105, 115, 32, 110, 117, 108, 108]⟩)), (1, (.int .i64 1)), (3, (.int .i64 1))] fun v44 w_18 =>
 kBuild (cR Tryz.prog R) w_18 82 #[(0, (.string ⟨#[105, 115, 32, 110, 111, 116, 32, 110, 117, 108, 108]⟩)), (1, (.int .i64 1)), (3, (.int .i64 1))] fun v46 w_19 =>
 kBuild (cR Tryz.prog R) w_19 82 #[(0, (.string ⟨#[108, 101, 110, 103, 116, 104]⟩)), (1, (.int .i64 1)), (3, (.int .i64 2))] fun v48 w_20 =>
 kBuild (cR Tryz.prog R) w_20 82 #[(0, (.string ⟨#[97, 98, 115]⟩)), (1, (.int .i64 1)), (2, (.int .i64 2)), (3, (.int .i64 2))] fun v51 w_21 =>
 kBuild (cR Tryz.prog R) w_21 127 #[(1, v5), (2, v8), (3, v11), (4, v14), (5, v17), (6, v18), (7, v20), (8, v22), (9, v24), (10, v26), (11, v28), (12, v30), (13, v33), (14, v36), (15, v39), (16, v42), (17, v44), (18, v46), (19, v48), (20, v51)] fun v52 w_22 =>
 kStore (cR Tryz.prog R) w_22 127 v0 v52 fun w_23 =>
 RetK Tryz.prog [.cell v0 127] R w_23
theorem c75  (R : Ending → World → Prop) (w : World) (h : vc75  R w) : Calls Tryz.prog 75 #[] w R :=
  calls_of_vc (A := { loops := [], pars := [] }) (Eq.mpr (show FnVc Tryz.prog { loops := [], pars := [] } 53 75 [] R w = vc75  R w by kernel_rfl) h)

/-- loupe/value.right -/
def vc78 (v0 : Int) (v1 : Int) (v2 : ByteArray) (R : Ending → World → Prop) (w : World) : Prop :=
 kBox (cR Tryz.prog R) w 59 (.agg #[(.int .i64 v0), (.int .i64 v1), (.string v2)]) fun v1_1 w_1 =>
 kFa (cR Tryz.prog R) w_1 59 v1_1 2 fun v3 w_2 =>
 kLoad (cR Tryz.prog R) w_2 9 v3 fun v4 w_3 =>
 kBlt (cR Tryz.prog R) w_3 .len #[9] 3 #[false] #[v4] fun v5 w_4 =>
 kBin (cR Tryz.prog R) w_4 .leq 3 v5 (.int .i64 1000) fun v6 w_5 =>
 kCall (cR Tryz.prog R) w_5 108 #[v6, (.int .i64 3)] fun v7 w_6 =>
 kFa (cR Tryz.prog R) w_6 59 v1_1 0 fun v8 w_7 =>
 kLoad (cR Tryz.prog R) w_7 57 v8 fun v9 w_8 =>
 kBuild (cR Tryz.prog R) w_8 59 #[(0, v9)] fun v10 w_9 =>
 kAlloc (cR Tryz.prog R) w_9 59 fun v2_1 w_10 =>
 kStore (cR Tryz.prog R) w_10 59 v2_1 v10 fun w_11 =>
 kJn (fun J =>
 kFa (cR Tryz.prog R) w_11 59 v1_1 0 fun v11 w_25 =>
 kLoad (cR Tryz.prog R) w_25 57 v11 fun v12 w_26 =>
 kEq (cR Tryz.prog R) w_26 .eql 57 (.tmp 12) (.const (.int .i64 1)) v12 (.int .i64 1) fun v14 w_27 =>
 kIf v14 (
 kFa (cR Tryz.prog R) w_27 59 v1_1 1 fun v15 w_28 =>
 kLoad (cR Tryz.prog R) w_28 2 v15 fun v16 w_29 =>
 kBin (cR Tryz.prog R) w_29 .and 2 v16 (.int .i64 1) fun v17 w_30 =>
 kFa (cR Tryz.prog R) w_30 59 v2_1 1 fun v18 w_31 =>
 kStore (cR Tryz.prog R) w_31 2 v18 v17 fun w_32 =>
 kD [] [] (J [] w_32)) (
 kEq (cR Tryz.prog R) w_27 .eql 57 (.tmp 12) (.const (.int .i64 2)) v12 (.int .i64 2) fun v20 w_33 =>
 kIf v20 (
 kFa (cR Tryz.prog R) w_33 59 v1_1 1 fun v21 w_34 =>
 kLoad (cR Tryz.prog R) w_34 2 v21 fun v22 w_35 =>
 kFa (cR Tryz.prog R) w_35 59 v2_1 1 fun v23 w_36 =>
 kStore (cR Tryz.prog R) w_36 2 v23 v22 fun w_37 =>
 kD [] [] (J [] w_37)) (
 kJn (fun J_1 =>
 kEq (cR Tryz.prog R) w_33 .eql 57 (.tmp 12) (.const (.int .i64 3)) v12 (.int .i64 3) fun v25 w_43 =>
 kIf v25 (
 kD [] [] (J_1 [v25] w_43)) (
 kEq (cR Tryz.prog R) w_43 .eql 57 (.tmp 12) (.const (.int .i64 4)) v12 (.int .i64 4) fun v26 w_44 =>
 kD [] [] (J_1 [v26] w_44))) (fun cs_1 w_38 => ∀ ds_1 : List Value,
 (fun j24 =>
 kIf j24 (
 kFa (cR Tryz.prog R) w_38 59 v1_1 2 fun v27 w_39 =>
 kLoad (cR Tryz.prog R) w_39 9 v27 fun v28 w_40 =>
 kFa (cR Tryz.prog R) w_40 59 v2_1 2 fun v29 w_41 =>
 kStore (cR Tryz.prog R) w_41 9 v29 v28 fun w_42 =>
 kD [] [] (J [] w_42)) (
 kD [] [] (J [] w_38))) (cs_1.getD 0 undef))))) (fun cs w_12 => ∀ ds : List Value,
 kLoad (cR Tryz.prog R) w_12 59 v2_1 fun v30 w_13 =>
 kLoad (cR Tryz.prog R) w_13 59 v1_1 fun v31 w_14 =>
 kEq (cR Tryz.prog R) w_14 .eql 59 (.tmp 30) (.tmp 31) v30 v31 fun v32 w_15 =>
 kIf v32 (
 kFa (cR Tryz.prog R) w_15 59 v1_1 0 fun v34 w_16 =>
 kLoad (cR Tryz.prog R) w_16 57 v34 fun v35 w_17 =>
 kBin (cR Tryz.prog R) w_17 .geq 57 v35 (.int .i64 0) fun v36 w_18 =>
 kIf v36 (
 kFa (cR Tryz.prog R) w_18 59 v1_1 0 fun v39 w_19 =>
 kLoad (cR Tryz.prog R) w_19 57 v39 fun v40 w_20 =>
 kBin (cR Tryz.prog R) w_20 .leq 57 v40 (.int .i64 4) fun v41 w_21 =>
 kCall (cR Tryz.prog R) w_21 108 #[v41, (.int .i64 2)] fun v43 w_22 =>
 R (.returned (.tuple #[])) w_22) (
 kCall (cR Tryz.prog R) w_18 108 #[(.bool false), (.int .i64 2)] fun v43_1 w_23 =>
 R (.returned (.tuple #[])) w_23)) (
 kCall (cR Tryz.prog R) w_15 108 #[(.bool false), (.int .i64 2)] fun v43_2 w_24 =>
 R (.returned (.tuple #[])) w_24))
theorem c78 (v0 : Int) (v1 : Int) (v2 : ByteArray) (R : Ending → World → Prop) (w : World) (h : vc78 v0 v1 v2 R w) : Calls Tryz.prog 78 #[(.agg #[(.int .i64 v0), (.int .i64 v1), (.string v2)])] w R :=
  calls_of_vc (A := { loops := [(1000011, []), (1000010, [24])], pars := [] }) (Eq.mpr (show FnVc Tryz.prog { loops := [(1000011, []), (1000010, [24])], pars := [] } 44 78 [(.agg #[(.int .i64 v0), (.int .i64 v1), (.string v2)])] R w = vc78 v0 v1 v2 R w by kernel_rfl) h)

/-- loupe/value.laid -/
def vc79  (R : Ending → World → Prop) (w : World) : Prop :=
 kMkMap (cR Tryz.prog R) w 131 none fun v1 w_1 =>
 kUpd (cR Tryz.prog R) w_1 131 v1 (.int .i64 0) (.func (.func 109) #[] #[]) fun w_2 =>
 kUpd (cR Tryz.prog R) w_2 131 v1 (.int .i64 1) (.func (.func 110) #[] #[]) fun w_3 =>
 kUpd (cR Tryz.prog R) w_3 131 v1 (.int .i64 2) (.func (.func 112) #[] #[]) fun w_4 =>
 kUpd (cR Tryz.prog R) w_4 131 v1 (.int .i64 3) (.func (.func 114) #[] #[]) fun w_5 =>
 kUpd (cR Tryz.prog R) w_5 131 v1 (.int .i64 4) (.func (.func 117) #[] #[]) fun w_6 =>
 R (.returned v1) w_6
theorem c79  (R : Ending → World → Prop) (w : World) (h : vc79  R w) : Calls Tryz.prog 79 #[] w R :=
  calls_of_vc (A := { loops := [], pars := [] }) (Eq.mpr (show FnVc Tryz.prog { loops := [], pars := [] } 3 79 [] R w = vc79  R w by kernel_rfl) h)

/-- (*strings.Builder).copyCheck -/
def vc80 (b : Value) (R : Ending → World → Prop) (w : World) : Prop :=
 kNil (cR Tryz.prog R) w b fun v3 w_1 =>
 kFa (cR Tryz.prog R) w_1 67 v3 0 fun v4 w_2 =>
 kLoad (cR Tryz.prog R) w_2 65 v4 fun v5 w_3 =>
 kEq (cR Tryz.prog R) w_3 .eql 65 (.tmp 5) (.const (.pointer none)) v5 (.pointer none) fun v6 w_4 =>
 kIf v6 (
 kConv (cR Tryz.prog R) w_4 65 169 b fun v9 w_5 =>
 kCall (cR Tryz.prog R) w_5 119 #[v9] fun v10 w_6 =>
 kConv (cR Tryz.prog R) w_6 169 65 v10 fun v11 w_7 =>
 kNil (cR Tryz.prog R) w_7 b fun v12 w_8 =>
 kFa (cR Tryz.prog R) w_8 67 v12 0 fun v13 w_9 =>
 kStore (cR Tryz.prog R) w_9 65 v13 v11 fun w_10 =>
 R (.returned (.tuple #[])) w_10) (
 kNil (cR Tryz.prog R) w_4 b fun v15 w_11 =>
 kFa (cR Tryz.prog R) w_11 67 v15 0 fun v16 w_12 =>
 kLoad (cR Tryz.prog R) w_12 65 v16 fun v17 w_13 =>
 kEq (cR Tryz.prog R) w_13 .neq 65 (.tmp 17) (.tmp 18) v17 b fun v19 w_14 =>
 kIf v19 (
 False) (
 R (.returned (.tuple #[])) w_14))
theorem c80 (b : Value) (R : Ending → World → Prop) (w : World) (h : vc80 b R w) : Calls Tryz.prog 80 #[b] w R :=
  calls_of_vc (A := { loops := [], pars := [] }) (Eq.mpr (show FnVc Tryz.prog { loops := [], pars := [] } 20 80 [b] R w = vc80 b R w by kernel_rfl) h)

/-- slices.ContainsFunc[[]int,int] -/
def vc83 (s : Option Addr) (sn : Nat) (sc : Nat) (f : Value) (R : Ending → World → Prop) (w : World) : Prop :=
 kCall (cR Tryz.prog R) w 122 #[(.slice s sn sc), f] fun v7 w_1 =>
 kBin (cR Tryz.prog R) w_1 .geq 3 v7 (.int .i64 0) fun v8 w_2 =>
 R (.returned v8) w_2
theorem c83 (s : Option Addr) (sn : Nat) (sc : Nat) (f : Value) (R : Ending → World → Prop) (w : World) (h : vc83 s sn sc f R w) : Calls Tryz.prog 83 #[(.slice s sn sc), f] w R :=
  calls_of_vc (A := { loops := [], pars := [] }) (Eq.mpr (show FnVc Tryz.prog { loops := [], pars := [] } 9 83 [(.slice s sn sc), f] R w = vc83 s sn sc f R w by kernel_rfl) h)

/-- loupe/code.in$1 -/
def vc84 (n : Int) (f0 : Value) (f1 : Value) (R : Ending → World → Prop) (w : World) : Prop :=
 kLoad (cR Tryz.prog R) w 3 f0 fun v6 w_1 =>
 kBin (cR Tryz.prog R) w_1 .lss 3 (.int .i64 n) v6 fun v7 w_2 =>
 kIf v7 (
 R (.returned (.bool true)) w_2) (
 kLoad (cR Tryz.prog R) w_2 3 f1 fun v10 w_3 =>
 kBin (cR Tryz.prog R) w_3 .gtr 3 (.int .i64 n) v10 fun v11 w_4 =>
 R (.returned v11) w_4)
theorem c84 (n : Int) (f0 : Value) (f1 : Value) (R : Ending → World → Prop) (w : World) (h : vc84 n f0 f1 R w) : Calls Tryz.prog 84 #[(.int .i64 n), f0, f1] w R :=
  calls_of_vc (A := { loops := [], pars := [] }) (Eq.mpr (show FnVc Tryz.prog { loops := [], pars := [] } 13 84 [(.int .i64 n), f0, f1] R w = vc84 n f0 f1 R w by kernel_rfl) h)

/-- slices.Equal[[]int,int] -/
def vc85 (s1 : Option Addr) (s1n : Nat) (s1c : Nat) (s2 : Option Addr) (s2n : Nat) (s2c : Nat) (R : Ending → World → Prop) (w : World) : Prop :=
 kBlt (cR Tryz.prog R) w .len #[60] 3 #[false] #[(.slice s1 s1n s1c)] fun v7 w_1 =>
 kBlt (cR Tryz.prog R) w_1 .len #[60] 3 #[false] #[(.slice s2 s2n s2c)] fun v9 w_2 =>
 kEq (cR Tryz.prog R) w_2 .neq 3 (.tmp 7) (.tmp 9) v7 v9 fun v10 w_3 =>
 kIf v10 (
 R (.returned (.bool false)) w_3) (
 kBlt (cR Tryz.prog R) w_3 .len #[60] 3 #[false] #[(.slice s1 s1n s1c)] fun v12 w_4 =>
 kLoopF [(.int .i64 0)] w_4 fun cs ds w_5 N =>
 (fun x13 =>
 kBin (cR Tryz.prog R) w_5 .lss 3 x13 v12 fun v14 w_6 =>
 kIf v14 (
 kDrawn true (
 kIa (cQ Tryz.prog) w_6 60 (.slice s1 s1n s1c) x13 fun v18 w_7 =>
 kLoad (cQ Tryz.prog) w_7 3 v18 fun v19 w_8 =>
 kIa (cQ Tryz.prog) w_8 60 (.slice s2 s2n s2c) x13 fun v22 w_9 =>
 kLoad (cQ Tryz.prog) w_9 3 v22 fun v23 w_10 =>
 kEq (cQ Tryz.prog) w_10 .neq 3 (.tmp 19) (.tmp 23) v19 v23 fun v24 w_11 =>
 kDrew w_6 fun w_12 =>
 kIf v24 (
 R (.returned (.bool false)) w_12) (
 kBin (cR Tryz.prog R) w_12 .add 3 x13 (.int .i64 1) fun v25 w_13 =>
 kD [] [] (N [v25] w_13)))) (
 R (.returned (.bool true)) w_6)) (cs.getD 0 undef))
theorem c85 (s1 : Option Addr) (s1n : Nat) (s1c : Nat) (s2 : Option Addr) (s2n : Nat) (s2c : Nat) (R : Ending → World → Prop) (w : World) (h : vc85 s1 s1n s1c s2 s2n s2c R w) : Calls Tryz.prog 85 #[(.slice s1 s1n s1c), (.slice s2 s2n s2c)] w R :=
  calls_of_vc (A := { loops := [(0, [13])], pars := [] }) (Eq.mpr (show FnVc Tryz.prog { loops := [(0, [13])], pars := [] } 26 85 [(.slice s1 s1n s1c), (.slice s2 s2n s2c)] R w = vc85 s1 s1n s1c s2 s2n s2c R w by kernel_rfl) h)

/-- loupe/row.Decode$1 -/
def vc87 (f0 : Value) (R : Ending → World → Prop) (w : World) : Prop :=
 kStore (cR Tryz.prog R) w 104 f0 (.slice none 0 0) fun w_1 =>
 R (.returned (.tuple #[])) w_1
theorem c87 (f0 : Value) (R : Ending → World → Prop) (w : World) (h : vc87 f0 R w) : Calls Tryz.prog 87 #[f0] w R :=
  calls_of_vc (A := { loops := [], pars := [] }) (Eq.mpr (show FnVc Tryz.prog { loops := [], pars := [] } 1 87 [f0] R w = vc87 f0 R w by kernel_rfl) h)

/-- (*loupe/row.reader).number -/
def vc88 (r : Value) (R : Ending → World → Prop) (w : World) : Prop :=
 kNil (cR Tryz.prog R) w r fun v8 w_1 =>
 kFa (cR Tryz.prog R) w_1 144 v8 0 fun v9 w_2 =>
 kFa (cR Tryz.prog R) w_2 142 v9 0 fun v10 w_3 =>
 kLoad (cR Tryz.prog R) w_3 44 v10 fun v11 w_4 =>
 kCall (cR Tryz.prog R) w_4 123 #[v11] fun v12 w_5 =>
 kExt v12 0 fun v13 =>
 kExt v12 1 fun v14 =>
 kExt v12 2 fun v15 =>
 kEq (cR Tryz.prog R) w_5 .eql 26 (.tmp 16) (.const (.int .i64 0)) v15 (.int .i64 0) fun v17 w_6 =>
 kCall (cR Tryz.prog R) w_6 89 #[v17, (.int .i64 210)] fun v18 w_7 =>
 kNil (cR Tryz.prog R) w_7 r fun v20 w_8 =>
 kFa (cR Tryz.prog R) w_8 144 v20 0 fun v21 w_9 =>
 kCall (cR Tryz.prog R) w_9 124 #[v21, v14] fun v23 w_10 =>
 R (.returned v13) w_10
theorem c88 (r : Value) (R : Ending → World → Prop) (w : World) (h : vc88 r R w) : Calls Tryz.prog 88 #[r] w R :=
  calls_of_vc (A := { loops := [], pars := [] }) (Eq.mpr (show FnVc Tryz.prog { loops := [], pars := [] } 25 88 [r] R w = vc88 r R w by kernel_rfl) h)

/-- loupe/row.must -/
def vc89 (fine : Bool) (eA : Int) (R : Ending → World → Prop) (w : World) : Prop :=
 kUn (cR Tryz.prog R) w .not (.bool fine) fun v5 w_1 =>
 kIf v5 (
 kMkI (cR Tryz.prog R) w_1 26 (.int .i64 eA) fun v7 w_2 =>
 kPanic (cR Tryz.prog R) w_2 v7) (
 R (.returned (.tuple #[])) w_1)
theorem c89 (fine : Bool) (eA : Int) (R : Ending → World → Prop) (w : World) (h : vc89 fine eA R w) : Calls Tryz.prog 89 #[(.bool fine), (.int .i64 eA)] w R :=
  calls_of_vc (A := { loops := [], pars := [] }) (Eq.mpr (show FnVc Tryz.prog { loops := [], pars := [] } 8 89 [(.bool fine), (.int .i64 eA)] R w = vc89 fine eA R w by kernel_rfl) h)

/-- (*loupe/row.reader).value -/
def vc90 (r : Value) (R : Ending → World → Prop) (w : World) : Prop :=
 kAlloc (cR Tryz.prog R) w 59 fun v2 w_1 =>
 kNil (cR Tryz.prog R) w_1 r fun v8 w_2 =>
 kFa (cR Tryz.prog R) w_2 144 v8 0 fun v9 w_3 =>
 kCall (cR Tryz.prog R) w_3 124 #[v9, (.int .i64 1)] fun v10 w_4 =>
 kIa (cR Tryz.prog R) w_4 44 v10 (.int .i64 0) fun v11 w_5 =>
 kLoad (cR Tryz.prog R) w_5 5 v11 fun v12 w_6 =>
 kConv (cR Tryz.prog R) w_6 5 57 v12 fun v13 w_7 =>
 kFa (cR Tryz.prog R) w_7 59 v2 0 fun v14 w_8 =>
 kStore (cR Tryz.prog R) w_8 57 v14 v13 fun w_9 =>
 kFa (cR Tryz.prog R) w_9 59 v2 0 fun v15 w_10 =>
 kLoad (cR Tryz.prog R) w_10 57 v15 fun v16 w_11 =>
 kEq (cR Tryz.prog R) w_11 .eql 57 (.tmp 16) (.const (.int .i64 0)) v16 (.int .i64 0) fun v19 w_12 =>
 kIf v19 (
 kLoad (cR Tryz.prog R) w_12 59 v2 fun v66 w_13 =>
 kStore (cR Tryz.prog R) w_13 59 v2 v66 fun w_14 =>
 RetK Tryz.prog [.cell v2 59] R w_14) (
 kEq (cR Tryz.prog R) w_12 .eql 57 (.tmp 16) (.const (.int .i64 1)) v16 (.int .i64 1) fun v21 w_15 =>
 kIf v21 (
 kNil (cR Tryz.prog R) w_15 r fun v23 w_16 =>
 kFa (cR Tryz.prog R) w_16 144 v23 0 fun v24 w_17 =>
 kCall (cR Tryz.prog R) w_17 124 #[v24, (.int .i64 1)] fun v25 w_18 =>
 kIa (cR Tryz.prog R) w_18 44 v25 (.int .i64 0) fun v26 w_19 =>
 kLoad (cR Tryz.prog R) w_19 5 v26 fun v27 w_20 =>
 kConv (cR Tryz.prog R) w_20 5 2 v27 fun v28 w_21 =>
 kFa (cR Tryz.prog R) w_21 59 v2 1 fun v29 w_22 =>
 kStore (cR Tryz.prog R) w_22 2 v29 v28 fun w_23 =>
 kLoad (cR Tryz.prog R) w_23 59 v2 fun v66_1 w_24 =>
 kStore (cR Tryz.prog R) w_24 59 v2 v66_1 fun w_25 =>
 RetK Tryz.prog [.cell v2 59] R w_25) (
 kEq (cR Tryz.prog R) w_15 .eql 57 (.tmp 16) (.const (.int .i64 2)) v16 (.int .i64 2) fun v31 w_26 =>
 kIf v31 (
 kCall (cR Tryz.prog R) w_26 88 #[r] fun v33 w_27 =>
 kBin (cR Tryz.prog R) w_27 .shr 145 v33 (.int .u64 1) fun v35 w_28 =>
 kConv (cR Tryz.prog R) w_28 145 2 v35 fun v36 w_29 =>
 kBin (cR Tryz.prog R) w_29 .and 145 v33 (.int .u64 1) fun v38 w_30 =>
 kConv (cR Tryz.prog R) w_30 145 2 v38 fun v39 w_31 =>
 kUn (cR Tryz.prog R) w_31 .neg v39 fun v40 w_32 =>
 kBin (cR Tryz.prog R) w_32 .xor 2 v36 v40 fun v41 w_33 =>
 kFa (cR Tryz.prog R) w_33 59 v2 1 fun v42 w_34 =>
 kStore (cR Tryz.prog R) w_34 2 v42 v41 fun w_35 =>
 kLoad (cR Tryz.prog R) w_35 59 v2 fun v66_2 w_36 =>
 kStore (cR Tryz.prog R) w_36 59 v2 v66_2 fun w_37 =>
 RetK Tryz.prog [.cell v2 59] R w_37) (
 kJn (fun J =>
 kEq (cR Tryz.prog R) w_26 .eql 57 (.tmp 16) (.const (.int .i64 3)) v16 (.int .i64 3) fun v44 w_54 =>
 kIf v44 (
 kD [] [] (J [v44] w_54)) (
 kEq (cR Tryz.prog R) w_54 .eql 57 (.tmp 16) (.const (.int .i64 4)) v16 (.int .i64 4) fun v45 w_55 =>
 kD [] [] (J [v45] w_55))) (fun cs w_38 => ∀ ds : List Value,
 (fun j43 =>
 kIf j43 (
 kNil (cR Tryz.prog R) w_38 r fun v48 w_39 =>
 kFa (cR Tryz.prog R) w_39 144 v48 0 fun v49 w_40 =>
 kFa (cR Tryz.prog R) w_40 142 v49 0 fun v50 w_41 =>
 kLoad (cR Tryz.prog R) w_41 44 v50 fun v51 w_42 =>
 kCall (cR Tryz.prog R) w_42 125 #[v51] fun v52 w_43 =>
 kExt v52 0 fun v53 =>
 kExt v52 1 fun v54 =>
 kExt v52 2 fun v55 =>
 kEq (cR Tryz.prog R) w_43 .eql 26 (.tmp 56) (.const (.int .i64 0)) v55 (.int .i64 0) fun v57 w_44 =>
 kCall (cR Tryz.prog R) w_44 89 #[v57, (.int .i64 210)] fun v58 w_45 =>
 kNil (cR Tryz.prog R) w_45 r fun v60 w_46 =>
 kFa (cR Tryz.prog R) w_46 144 v60 0 fun v61 w_47 =>
 kCall (cR Tryz.prog R) w_47 124 #[v61, v54] fun v63 w_48 =>
 kFa (cR Tryz.prog R) w_48 59 v2 2 fun v65 w_49 =>
 kStore (cR Tryz.prog R) w_49 9 v65 v53 fun w_50 =>
 kLoad (cR Tryz.prog R) w_50 59 v2 fun v66_3 w_51 =>
 kStore (cR Tryz.prog R) w_51 59 v2 v66_3 fun w_52 =>
 RetK Tryz.prog [.cell v2 59] R w_52) (
 kMkI (cR Tryz.prog R) w_38 26 (.int .i64 210) fun v17 w_53 =>
 kPanic (cR Tryz.prog R) w_53 v17)) (cs.getD 0 undef)))))
theorem c90 (r : Value) (R : Ending → World → Prop) (w : World) (h : vc90 r R w) : Calls Tryz.prog 90 #[r] w R :=
  calls_of_vc (A := { loops := [(1000012, [43])], pars := [] }) (Eq.mpr (show FnVc Tryz.prog { loops := [(1000012, [43])], pars := [] } 67 90 [r] R w = vc90 r R w by kernel_rfl) h)

/-- loupe/row.Encode -/
def vc91 (row : Option Addr) (rown : Nat) (rowc : Nat) (R : Ending → World → Prop) (w : World) : Prop :=
 kAlloc (cR Tryz.prog R) w 44 fun v2 w_1 =>
 kAlloc (cR Tryz.prog R) w_1 26 fun v3 w_2 =>
 (fun (c : Cx) =>
 kCall c w_2 127 #[(.slice row rown rowc)] fun v6 w_3 =>
 kStore c w_3 44 v2 v6 fun w_4 =>
 kStore c w_4 26 v3 (.int .i64 0) fun w_5 =>
 Lv Tryz.prog [.cell v2 44, .cell v3 26] R [{ target := .fn (.func 86) #[], args := #[v3, (.func (.func 126) #[] #[v2])] }] .returning w_5) ⟨Tryz.prog, fun ch w => Lv Tryz.prog [.cell v2 44, .cell v3 26] R [{ target := .fn (.func 86) #[], args := #[v3, (.func (.func 126) #[] #[v2])] }] (.panicking ch) w, false⟩
theorem c91 (row : Option Addr) (rown : Nat) (rowc : Nat) (R : Ending → World → Prop) (w : World) (h : vc91 row rown rowc R w) : Calls Tryz.prog 91 #[(.slice row rown rowc)] w R :=
  calls_of_vc (A := { loops := [], pars := [] }) (Eq.mpr (show FnVc Tryz.prog { loops := [], pars := [] } 7 91 [(.slice row rown rowc)] R w = vc91 row rown rowc R w by kernel_rfl) h)

/-- loupe/code.some[loupe/api.Value,int] -/
def vc92 (l : Option Addr) (ln : Nat) (lc : Nat) (tell : Value) (R : Ending → World → Prop) (w : World) : Prop :=
 kBlt (cR Tryz.prog R) w .len #[104] 3 #[false] #[(.slice l ln lc)] fun v8 w_1 =>
 kLoopF [(.slice none 0 0), (.int .i64 0)] w_1 fun cs ds w_2 N =>
 (fun x4 x9 =>
 kBin (cR Tryz.prog R) w_2 .lss 3 x9 v8 fun v10 w_3 =>
 kIf v10 (
 kIa (cR Tryz.prog R) w_3 104 (.slice l ln lc) x9 fun v11 w_4 =>
 kLoad (cR Tryz.prog R) w_4 59 v11 fun v12 w_5 =>
 kAlloc (cR Tryz.prog R) w_5 59 fun v6 w_6 =>
 kStore (cR Tryz.prog R) w_6 59 v6 v12 fun w_7 =>
 kLoad (cR Tryz.prog R) w_7 59 v6 fun v15 w_8 =>
 kCallV (cR Tryz.prog R) w_8 tell #[v15] fun v16 w_9 =>
 kBuildS (cR Tryz.prog R) w_9 60 1 #[(0, v16)] fun v17 w_10 =>
 kBlt (cR Tryz.prog R) w_10 .append #[60, 60] 60 #[false, false] #[x4, v17] fun v18 w_11 =>
 kBin (cR Tryz.prog R) w_11 .add 3 x9 (.int .i64 1) fun v19 w_12 =>
 kD [] [] (N [v18, v19] w_12)) (
 R (.returned x4) w_3)) (cs.getD 0 undef) (cs.getD 1 undef)
theorem c92 (l : Option Addr) (ln : Nat) (lc : Nat) (tell : Value) (R : Ending → World → Prop) (w : World) (h : vc92 l ln lc tell R w) : Calls Tryz.prog 92 #[(.slice l ln lc), tell] w R :=
  calls_of_vc (A := { loops := [(0, [4, 9])], pars := [] }) (Eq.mpr (show FnVc Tryz.prog { loops := [(0, [4, 9])], pars := [] } 21 92 [(.slice l ln lc), tell] R w = vc92 l ln lc tell R w by kernel_rfl) h)

/-- loupe/code.ins$1 -/
def vc93 (v0 : Int) (v1 : Int) (v2 : ByteArray) (R : Ending → World → Prop) (w : World) : Prop :=
 kBox (cR Tryz.prog R) w 59 (.agg #[(.int .i64 v0), (.int .i64 v1), (.string v2)]) fun v1_1 w_1 =>
 kFa (cR Tryz.prog R) w_1 59 v1_1 0 fun v3 w_2 =>
 kLoad (cR Tryz.prog R) w_2 57 v3 fun v4 w_3 =>
 kEq (cR Tryz.prog R) w_3 .eql 57 (.tmp 4) (.const (.int .i64 2)) v4 (.int .i64 2) fun v5 w_4 =>
 kIf v5 (
 kFa (cR Tryz.prog R) w_4 59 v1_1 1 fun v7 w_5 =>
 kLoad (cR Tryz.prog R) w_5 2 v7 fun v8 w_6 =>
 kBin (cR Tryz.prog R) w_6 .geq 2 v8 (.int .i64 (-1)) fun v9 w_7 =>
 kIf v9 (
 kFa (cR Tryz.prog R) w_7 59 v1_1 1 fun v12 w_8 =>
 kLoad (cR Tryz.prog R) w_8 2 v12 fun v13 w_9 =>
 kBin (cR Tryz.prog R) w_9 .leq 2 v13 (.int .i64 2147483647) fun v14 w_10 =>
 kCall (cR Tryz.prog R) w_10 43 #[v14, (.int .i64 390)] fun v16 w_11 =>
 kFa (cR Tryz.prog R) w_11 59 v1_1 1 fun v17 w_12 =>
 kLoad (cR Tryz.prog R) w_12 2 v17 fun v18 w_13 =>
 R (.returned v18) w_13) (
 kCall (cR Tryz.prog R) w_7 43 #[(.bool false), (.int .i64 390)] fun v16_1 w_14 =>
 kFa (cR Tryz.prog R) w_14 59 v1_1 1 fun v17_1 w_15 =>
 kLoad (cR Tryz.prog R) w_15 2 v17_1 fun v18_1 w_16 =>
 R (.returned v18_1) w_16)) (
 kCall (cR Tryz.prog R) w_4 43 #[(.bool false), (.int .i64 390)] fun v16_2 w_17 =>
 kFa (cR Tryz.prog R) w_17 59 v1_1 1 fun v17_2 w_18 =>
 kLoad (cR Tryz.prog R) w_18 2 v17_2 fun v18_2 w_19 =>
 R (.returned v18_2) w_19)
theorem c93 (v0 : Int) (v1 : Int) (v2 : ByteArray) (R : Ending → World → Prop) (w : World) (h : vc93 v0 v1 v2 R w) : Calls Tryz.prog 93 #[(.agg #[(.int .i64 v0), (.int .i64 v1), (.string v2)])] w R :=
  calls_of_vc (A := { loops := [], pars := [] }) (Eq.mpr (show FnVc Tryz.prog { loops := [], pars := [] } 19 93 [(.agg #[(.int .i64 v0), (.int .i64 v1), (.string v2)])] R w = vc93 v0 v1 v2 R w by kernel_rfl) h)

/-- loupe/code.some[int,loupe/api.Value] -/
def vc96 (l : Option Addr) (ln : Nat) (lc : Nat) (tell : Value) (R : Ending → World → Prop) (w : World) : Prop :=
 kBlt (cR Tryz.prog R) w .len #[60] 3 #[false] #[(.slice l ln lc)] fun v8 w_1 =>
 kLoopF [(.slice none 0 0), (.int .i64 0)] w_1 fun cs ds w_2 N =>
 (fun x4 x9 =>
 kBin (cR Tryz.prog R) w_2 .lss 3 x9 v8 fun v10 w_3 =>
 kIf v10 (
 kIa (cR Tryz.prog R) w_3 60 (.slice l ln lc) x9 fun v11 w_4 =>
 kLoad (cR Tryz.prog R) w_4 3 v11 fun v12 w_5 =>
 kCallV (cR Tryz.prog R) w_5 tell #[v12] fun v16 w_6 =>
 kBuildS (cR Tryz.prog R) w_6 104 1 #[(0, v16)] fun v17 w_7 =>
 kBlt (cR Tryz.prog R) w_7 .append #[104, 104] 104 #[false, false] #[x4, v17] fun v18 w_8 =>
 kBin (cR Tryz.prog R) w_8 .add 3 x9 (.int .i64 1) fun v19 w_9 =>
 kD [] [] (N [v18, v19] w_9)) (
 R (.returned x4) w_3)) (cs.getD 0 undef) (cs.getD 1 undef)
theorem c96 (l : Option Addr) (ln : Nat) (lc : Nat) (tell : Value) (R : Ending → World → Prop) (w : World) (h : vc96 l ln lc tell R w) : Calls Tryz.prog 96 #[(.slice l ln lc), tell] w R :=
  calls_of_vc (A := { loops := [(0, [4, 9])], pars := [] }) (Eq.mpr (show FnVc Tryz.prog { loops := [(0, [4, 9])], pars := [] } 21 96 [(.slice l ln lc), tell] R w = vc96 l ln lc tell R w by kernel_rfl) h)

/-- (*loupe/code.writer).put$1 -/
def vc97 (n : Int) (R : Ending → World → Prop) (w : World) : Prop :=
 kAlloc (cR Tryz.prog R) w 59 fun v2 w_1 =>
 kBuild (cR Tryz.prog R) w_1 59 #[(0, (.int .i64 2)), (1, (.int .i64 n))] fun v4 w_2 =>
 kStore (cR Tryz.prog R) w_2 59 v2 v4 fun w_3 =>
 RetK Tryz.prog [.cell v2 59] R w_3
theorem c97 (n : Int) (R : Ending → World → Prop) (w : World) (h : vc97 n R w) : Calls Tryz.prog 97 #[(.int .i64 n)] w R :=
  calls_of_vc (A := { loops := [], pars := [] }) (Eq.mpr (show FnVc Tryz.prog { loops := [], pars := [] } 5 97 [(.int .i64 n)] R w = vc97 n R w by kernel_rfl) h)

/-- slices.Chunk[[]int,int] -/
def vc98 (s : Option Addr) (sn : Nat) (sc : Nat) (n : Int) (R : Ending → World → Prop) (w : World) : Prop :=
 kBox (cR Tryz.prog R) w 60 (.slice s sn sc) fun v2 w_1 =>
 kBox (cR Tryz.prog R) w_1 3 (.int .i64 n) fun v3 w_2 =>
 kLoad (cR Tryz.prog R) w_2 3 v3 fun v5 w_3 =>
 kBin (cR Tryz.prog R) w_3 .lss 3 v5 (.int .i64 1) fun v6 w_4 =>
 kIf v6 (
 kMkI (cR Tryz.prog R) w_4 9 (.string ⟨#[99, 97, 110, 110, 111, 116, 32, 98, 101, 32, 108, 101, 115, 115, 32, 116, 104, 97, 110, 32, 49]⟩) fun v7 w_5 =>
 kPanic (cR Tryz.prog R) w_5 v7) (
 R (.returned (.func (.func 129) #[] #[v2, v3])) w_4)
theorem c98 (s : Option Addr) (sn : Nat) (sc : Nat) (n : Int) (R : Ending → World → Prop) (w : World) (h : vc98 s sn sc n R w) : Calls Tryz.prog 98 #[(.slice s sn sc), (.int .i64 n)] w R :=
  calls_of_vc (A := { loops := [], pars := [] }) (Eq.mpr (show FnVc Tryz.prog { loops := [], pars := [] } 9 98 [(.slice s sn sc), (.int .i64 n)] R w = vc98 s sn sc n R w by kernel_rfl) h)

/-- (*loupe/code.writer).put$2 -/
def vc99 (n : Int) (R : Ending → World → Prop) (w : World) : Prop :=
 kBin (cR Tryz.prog R) w .shr 3 (.int .i64 n) (.int .u64 8) fun v4 w_1 =>
 kConv (cR Tryz.prog R) w_1 3 5 v4 fun v5 w_2 =>
 kConv (cR Tryz.prog R) w_2 3 5 (.int .i64 n) fun v7 w_3 =>
 kBuildS (cR Tryz.prog R) w_3 44 2 #[(0, v5), (1, v7)] fun v8 w_4 =>
 kConv (cR Tryz.prog R) w_4 44 9 v8 fun v9 w_5 =>
 R (.returned v9) w_5
theorem c99 (n : Int) (R : Ending → World → Prop) (w : World) (h : vc99 n R w) : Calls Tryz.prog 99 #[(.int .i64 n)] w R :=
  calls_of_vc (A := { loops := [], pars := [] }) (Eq.mpr (show FnVc Tryz.prog { loops := [], pars := [] } 10 99 [(.int .i64 n)] R w = vc99 n R w by kernel_rfl) h)

/-- loupe/value.Check -/
def vc104 (v0 : Int) (v1 : Int) (v2 : ByteArray) (R : Ending → World → Prop) (w : World) : Prop :=
 kBox (cR Tryz.prog R) w 59 (.agg #[(.int .i64 v0), (.int .i64 v1), (.string v2)]) fun v1_1 w_1 =>
 kAlloc (cR Tryz.prog R) w_1 26 fun v2_1 w_2 =>
 (fun (c : Cx) =>
 kLoad c w_2 59 v1_1 fun v3 w_3 =>
 kCall c w_3 78 #[v3] fun v4 w_4 =>
 kStore c w_4 26 v2_1 (.int .i64 0) fun w_5 =>
 Lv Tryz.prog [.cell v2_1 26] R [{ target := .fn (.func 76) #[], args := #[v2_1, (.func (.func 130) #[] #[])] }] .returning w_5) ⟨Tryz.prog, fun ch w => Lv Tryz.prog [.cell v2_1 26] R [{ target := .fn (.func 76) #[], args := #[v2_1, (.func (.func 130) #[] #[])] }] (.panicking ch) w, false⟩
theorem c104 (v0 : Int) (v1 : Int) (v2 : ByteArray) (R : Ending → World → Prop) (w : World) (h : vc104 v0 v1 v2 R w) : Calls Tryz.prog 104 #[(.agg #[(.int .i64 v0), (.int .i64 v1), (.string v2)])] w R :=
  calls_of_vc (A := { loops := [], pars := [] }) (Eq.mpr (show FnVc Tryz.prog { loops := [], pars := [] } 5 104 [(.agg #[(.int .i64 v0), (.int .i64 v1), (.string v2)])] R w = vc104 v0 v1 v2 R w by kernel_rfl) h)

/-- loupe/code.args$1 -/
def vc105 (x0 : Int) (x1 : Int) (x2 : Int) (x3 : Int) (x4 : Int) (x5 : Int) (x6 : Int) (x7 : ByteArray) (x8 : ByteArray) (x9 : Option Addr) (x9n : Nat) (x9c : Nat) (f0 : Value) (R : Ending → World → Prop) (w : World) : Prop :=
 kBox (cR Tryz.prog R) w 62 (.agg #[(.int .i64 x0), (.int .i64 x1), (.int .i64 x2), (.int .i64 x3), (.int .i64 x4), (.int .i64 x5), (.int .i64 x6), (.string x7), (.string x8), (.slice x9 x9n x9c)]) fun v2 w_1 =>
 kAlloc (cR Tryz.prog R) w_1 62 fun v3 w_2 =>
 kDrawn true (
 kDrawn true (
 kFa (cQ Tryz.prog) w_2 62 v2 7 fun v5 w_3 =>
 kLoad (cQ Tryz.prog) w_3 60 v5 fun v6 w_4 =>
 kBuild (cQ Tryz.prog) w_4 62 #[(7, v6)] fun v7 w_5 =>
 kFa (cQ Tryz.prog) w_5 62 v2 7 fun v8 w_6 =>
 kLoad (cQ Tryz.prog) w_6 60 v8 fun v9 w_7 =>
 kBlt (cQ Tryz.prog) w_7 .len #[60] 3 #[false] #[v9] fun v10 w_8 =>
 kLoad (cQ Tryz.prog) w_8 3 f0 fun v11 w_9 =>
 kBin (cQ Tryz.prog) w_9 .geq 3 v10 v11 fun v12 w_10 =>
 kIf v12 (
 kFa (cQ Tryz.prog) w_10 62 v2 7 fun v14 w_11 =>
 kLoad (cQ Tryz.prog) w_11 60 v14 fun v15 w_12 =>
 kBlt (cQ Tryz.prog) w_12 .len #[60] 3 #[false] #[v15] fun v16 w_13 =>
 kBin (cQ Tryz.prog) w_13 .leq 3 v16 (.int .i64 200) fun v17 w_14 =>
 kIf v17 (
 kFa (cQ Tryz.prog) w_14 62 v2 7 fun v20 w_15 =>
 kLoad (cQ Tryz.prog) w_15 60 v20 fun v21 w_16 =>
 kDrew w_16 fun w_17 =>
 (fun (c : Cx) =>
 kCall c w_17 36 #[(.int .i64 0), (.int .i64 399), v21] fun v22 w_18 =>
 kFa (cQ Tryz.prog) w_18 62 v2 7 fun v5_1 w_19 =>
 kSame v5_1 v5 (
 kLoad (cQ Tryz.prog) w_18 60 v5 fun v6_1 w_20 =>
 kSame v6_1 v6 (
 kBuild (cQ Tryz.prog) w_18 62 #[(7, v6)] fun v7_1 w_21 =>
 kSame v7_1 v7 (
 kDrew w_18 fun w_22 =>
 kStore c w_22 62 v3 v7 fun w_23 =>
 kDrew w_23 fun w_24 =>
 RetK Tryz.prog [.cell v3 62, .val v22] R w_24)))) ⟨Tryz.prog, fun ch w => ∀ _ : List Value, R (.panicked ch) w, false⟩) (
 kDrew w_14 fun w_25 =>
 (fun (c_1 : Cx) =>
 kStore c_1 w_25 62 v3 v7 fun w_26 =>
 kDrew w_26 fun w_27 =>
 RetK Tryz.prog [.cell v3 62, .val (.bool false)] R w_27) ⟨Tryz.prog, fun ch w => ∀ _ : List Value, R (.panicked ch) w, false⟩)) (
 kDrew w_10 fun w_28 =>
 (fun (c_2 : Cx) =>
 kStore c_2 w_28 62 v3 v7 fun w_29 =>
 kDrew w_29 fun w_30 =>
 RetK Tryz.prog [.cell v3 62, .val (.bool false)] R w_30) ⟨Tryz.prog, fun ch w => ∀ _ : List Value, R (.panicked ch) w, false⟩)))
theorem c105 (x0 : Int) (x1 : Int) (x2 : Int) (x3 : Int) (x4 : Int) (x5 : Int) (x6 : Int) (x7 : ByteArray) (x8 : ByteArray) (x9 : Option Addr) (x9n : Nat) (x9c : Nat) (f0 : Value) (R : Ending → World → Prop) (w : World) (h : vc105 x0 x1 x2 x3 x4 x5 x6 x7 x8 x9 x9n x9c f0 R w) : Calls Tryz.prog 105 #[(.agg #[(.int .i64 x0), (.int .i64 x1), (.int .i64 x2), (.int .i64 x3), (.int .i64 x4), (.int .i64 x5), (.int .i64 x6), (.string x7), (.string x8), (.slice x9 x9n x9c)]), f0] w R :=
  calls_of_vc (A := { loops := [], pars := [], chs := [(1, (.q 0 (.q 1 (.q 2 (.q 3 (.q 4 (.q 5 (.q 6 (.q 7 (.q 8 (.q 9 (.q 10 (.q 11 (.q 12 (.q 13 (.q 14 (.q 15 (.q 16 (.e 17 (.q 18 (.e 19 .done)))))))))))))))))))))] }) (Eq.mpr (show FnVc Tryz.prog { loops := [], pars := [], chs := [(1, (.q 0 (.q 1 (.q 2 (.q 3 (.q 4 (.q 5 (.q 6 (.q 7 (.q 8 (.q 9 (.q 10 (.q 11 (.q 12 (.q 13 (.q 14 (.q 15 (.q 16 (.e 17 (.q 18 (.e 19 .done)))))))))))))))))))))] } 24 105 [(.agg #[(.int .i64 x0), (.int .i64 x1), (.int .i64 x2), (.int .i64 x3), (.int .i64 x4), (.int .i64 x5), (.int .i64 x6), (.string x7), (.string x8), (.slice x9 x9n x9c)]), f0] R w = vc105 x0 x1 x2 x3 x4 x5 x6 x7 x8 x9 x9n x9c f0 R w by kernel_rfl) h)

/-- slices.Contains[[]string,string] -/
def vc106 (s : Option Addr) (sn : Nat) (sc : Nat) (v : ByteArray) (R : Ending → World → Prop) (w : World) : Prop :=
 kCall (cR Tryz.prog R) w 131 #[(.slice s sn sc), (.string v)] fun v7 w_1 =>
 kBin (cR Tryz.prog R) w_1 .geq 3 v7 (.int .i64 0) fun v8 w_2 =>
 R (.returned v8) w_2
theorem c106 (s : Option Addr) (sn : Nat) (sc : Nat) (v : ByteArray) (R : Ending → World → Prop) (w : World) (h : vc106 s sn sc v R w) : Calls Tryz.prog 106 #[(.slice s sn sc), (.string v)] w R :=
  calls_of_vc (A := { loops := [], pars := [] }) (Eq.mpr (show FnVc Tryz.prog { loops := [], pars := [] } 9 106 [(.slice s sn sc), (.string v)] R w = vc106 s sn sc v R w by kernel_rfl) h)

/-- loupe/value.must -/
def vc108 (fine : Bool) (eA : Int) (R : Ending → World → Prop) (w : World) : Prop :=
 kUn (cR Tryz.prog R) w .not (.bool fine) fun v5 w_1 =>
 kIf v5 (
 kMkI (cR Tryz.prog R) w_1 26 (.int .i64 eA) fun v7 w_2 =>
 kPanic (cR Tryz.prog R) w_2 v7) (
 R (.returned (.tuple #[])) w_1)
theorem c108 (fine : Bool) (eA : Int) (R : Ending → World → Prop) (w : World) (h : vc108 fine eA R w) : Calls Tryz.prog 108 #[(.bool fine), (.int .i64 eA)] w R :=
  calls_of_vc (A := { loops := [], pars := [] }) (Eq.mpr (show FnVc Tryz.prog { loops := [], pars := [] } 8 108 [(.bool fine), (.int .i64 eA)] R w = vc108 fine eA R w by kernel_rfl) h)

/-- loupe/value.laid$3 -/
def vc112 (v0 : Int) (v1 : Int) (v2 : ByteArray) (R : Ending → World → Prop) (w : World) : Prop :=
 kBox (cR Tryz.prog R) w 59 (.agg #[(.int .i64 v0), (.int .i64 v1), (.string v2)]) fun v1_1 w_1 =>
 kFa (cR Tryz.prog R) w_1 59 v1_1 1 fun v3 w_2 =>
 kLoad (cR Tryz.prog R) w_2 2 v3 fun v4 w_3 =>
 kCall (cR Tryz.prog R) w_3 113 #[v4, (.int .i64 10)] fun v5 w_4 =>
 R (.returned v5) w_4
theorem c112 (v0 : Int) (v1 : Int) (v2 : ByteArray) (R : Ending → World → Prop) (w : World) (h : vc112 v0 v1 v2 R w) : Calls Tryz.prog 112 #[(.agg #[(.int .i64 v0), (.int .i64 v1), (.string v2)])] w R :=
  calls_of_vc (A := { loops := [], pars := [] }) (Eq.mpr (show FnVc Tryz.prog { loops := [], pars := [] } 6 112 [(.agg #[(.int .i64 v0), (.int .i64 v1), (.string v2)])] R w = vc112 v0 v1 v2 R w by kernel_rfl) h)

/-- strconv.FormatInt -/
def vc113 (i : Int) (base : Int) (R : Ending → World → Prop) (w : World) : Prop :=
 kCall (cR Tryz.prog R) w 107 #[(.int .i64 i), (.int .i64 base)] fun v7 w_1 =>
 R (.returned v7) w_1
theorem c113 (i : Int) (base : Int) (R : Ending → World → Prop) (w : World) (h : vc113 i base R w) : Calls Tryz.prog 113 #[(.int .i64 i), (.int .i64 base)] w R :=
  calls_of_vc (A := { loops := [], pars := [] }) (Eq.mpr (show FnVc Tryz.prog { loops := [], pars := [] } 8 113 [(.int .i64 i), (.int .i64 base)] R w = vc113 i base R w by kernel_rfl) h)

end Go.L
