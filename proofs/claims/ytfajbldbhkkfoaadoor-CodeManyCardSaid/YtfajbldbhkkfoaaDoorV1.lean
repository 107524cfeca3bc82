/- What is to be shown of single functions, printed by a program and compared with the translation by the kernel: no condition. -/
import Derived.Test.YtfajbldbhkkfoaaDoorA1
import Derived.Test.YtfajbldbhkkfoaaDoorProg
set_option linter.unusedVariables false
set_option linter.unusedSimpArgs false
namespace Go.L
open Go Go.RowKit Go.Proofs
set_option maxRecDepth 100000
set_option linter.unusedVariables false

/-- loupe/loupelaw29.CodeMany -/
def vc5 (many : Int) (args : Int) (R : Ending → World → Prop) (w : World) : Prop :=
 kJn (fun J =>
 kBin (cR Tryd.prog R) w .lss 3 (.int .i64 many) (.int .i64 0) fun v9 w_26 =>
 kIf v9 (
 kIf (.bool true) (
 kCall (cR Tryd.prog R) w_26 17 #[] fun v22 w_27 =>
 R (.returned v22) w_27) (
 kD [] [] (J [] w_26))) (
 kBin (cR Tryd.prog R) w_26 .gtr 3 (.int .i64 many) (.int .i64 2010) fun v12 w_28 =>
 kIf v12 (
 kIf (.bool true) (
 kCall (cR Tryd.prog R) w_28 17 #[] fun v22_1 w_29 =>
 R (.returned v22_1) w_29) (
 kD [] [] (J [] w_28))) (
 kBin (cR Tryd.prog R) w_28 .lss 3 (.int .i64 args) (.int .i64 1) fun v16 w_30 =>
 kIf v16 (
 kIf (.bool true) (
 kCall (cR Tryd.prog R) w_30 17 #[] fun v22_2 w_31 =>
 R (.returned v22_2) w_31) (
 kD [] [] (J [] w_30))) (
 kBin (cR Tryd.prog R) w_30 .gtr 3 (.int .i64 args) (.int .i64 210) fun v20 w_32 =>
 kIf v20 (
 kCall (cR Tryd.prog R) w_32 17 #[] fun v22_3 w_33 =>
 R (.returned v22_3) w_33) (
 kD [] [] (J [] w_32)))))) (fun cs w_1 => ∀ ds : List Value,
 kMkSl (cR Tryd.prog R) w_1 45 (.int .i64 many) (.int .i64 many) fun v24 w_2 =>
 kLoopF [(.int .i64 0)] w_2 fun cs_1 ds_1 w_3 N =>
 (fun x6 =>
 kBin (cR Tryd.prog R) w_3 .lss 3 x6 (.int .i64 many) fun v27 w_4 =>
 kIf v27 (
 kBuild (cR Tryd.prog R) w_4 50 #[(0, (.int .i64 10)), (2, x6)] fun v33 w_5 =>
 kIa (cR Tryd.prog R) w_5 45 v24 x6 fun v34 w_6 =>
 kStore (cR Tryd.prog R) w_6 50 v34 v33 fun w_7 =>
 kBin (cR Tryd.prog R) w_7 .add 3 x6 (.int .i64 1) fun v29 w_8 =>
 kD [] [] (N [v29] w_8)) (
 kMkSl (cR Tryd.prog R) w_4 48 (.int .i64 args) (.int .i64 args) fun v36 w_9 =>
 kBuild (cR Tryd.prog R) w_9 50 #[(0, (.int .i64 4)), (7, v36)] fun v37 w_10 =>
 kAlloc (cR Tryd.prog R) w_10 50 fun v7 w_11 =>
 kStore (cR Tryd.prog R) w_11 50 v7 v37 fun w_12 =>
 kCall (cR Tryd.prog R) w_12 19 #[v24] fun v39 w_13 =>
 kCall (cR Tryd.prog R) w_13 18 #[v39] fun v40 w_14 =>
 kEq (cR Tryd.prog R) w_14 .eql 3 (.tmp 40) (.const (.int .i64 0)) v40 (.int .i64 0) fun v41 w_15 =>
 kBin (cR Tryd.prog R) w_15 .leq 3 (.int .i64 many) (.int .i64 2000) fun v43 w_16 =>
 kEq (cR Tryd.prog R) w_16 .eql 4 (.tmp 41) (.tmp 43) v41 v43 fun v44 w_17 =>
 kIf v44 (
 kLoad (cR Tryd.prog R) w_17 50 v7 fun v46 w_18 =>
 kBuildS (cR Tryd.prog R) w_18 45 1 #[(0, v46)] fun v47 w_19 =>
 kCall (cR Tryd.prog R) w_19 19 #[v47] fun v48 w_20 =>
 kCall (cR Tryd.prog R) w_20 18 #[v48] fun v49 w_21 =>
 kEq (cR Tryd.prog R) w_21 .eql 3 (.tmp 49) (.const (.int .i64 0)) v49 (.int .i64 0) fun v50 w_22 =>
 kBin (cR Tryd.prog R) w_22 .leq 3 (.int .i64 args) (.int .i64 200) fun v52 w_23 =>
 kEq (cR Tryd.prog R) w_23 .eql 4 (.tmp 50) (.tmp 52) v50 v52 fun v53 w_24 =>
 kIf v53 (
 kCall (cR Tryd.prog R) w_24 17 #[] fun v56 w_25 =>
 R (.returned v56) w_25) (
 R (.returned (.bool false)) w_24)) (
 R (.returned (.bool false)) w_17))) (cs_1.getD 0 undef))
theorem c5 (many : Int) (args : Int) (R : Ending → World → Prop) (w : World) (h : vc5 many args R w) : Calls Tryd.prog 5 #[(.int .i64 many), (.int .i64 args)] w R :=
  calls_of_vc (A := { loops := [(0, [6]), (1000003, [])], pars := [] }) (Eq.mpr (show FnVc Tryd.prog { loops := [(0, [6]), (1000003, [])], pars := [] } 58 5 [(.int .i64 many), (.int .i64 args)] R w = vc5 many args R w by kernel_rfl) h)

/-- loupe/loupelaw10.few -/
def vc6 (l : Option Addr) (ln : Nat) (lc : Nat) (R : Ending → World → Prop) (w : World) : Prop :=
 kLoopF [(.int .i64 0)] w fun cs ds w_1 N =>
 (fun x3 =>
 kBlt (cR Tryd.prog R) w_1 .len #[22] 3 #[false] #[(.slice l ln lc)] fun v6 w_2 =>
 kBin (cR Tryd.prog R) w_2 .lss 3 x3 v6 fun v7 w_3 =>
 kIf v7 (
 kIa (cR Tryd.prog R) w_3 22 (.slice l ln lc) x3 fun v12 w_4 =>
 kFa (cR Tryd.prog R) w_4 41 v12 2 fun v13 w_5 =>
 kLoad (cR Tryd.prog R) w_5 9 v13 fun v14 w_6 =>
 kBlt (cR Tryd.prog R) w_6 .len #[9] 3 #[false] #[v14] fun v15 w_7 =>
 kBin (cR Tryd.prog R) w_7 .gtr 3 v15 (.int .i64 200) fun v16 w_8 =>
 kIf v16 (
 R (.returned (.bool false)) w_8) (
 kBin (cR Tryd.prog R) w_8 .add 3 x3 (.int .i64 1) fun v9 w_9 =>
 kD [] [] (N [v9] w_9))) (
 kBlt (cR Tryd.prog R) w_3 .len #[22] 3 #[false] #[(.slice l ln lc)] fun v18 w_10 =>
 kBin (cR Tryd.prog R) w_10 .leq 3 v18 (.int .i64 8) fun v19 w_11 =>
 R (.returned v19) w_11)) (cs.getD 0 undef)
theorem c6 (l : Option Addr) (ln : Nat) (lc : Nat) (R : Ending → World → Prop) (w : World) (h : vc6 l ln lc R w) : Calls Tryd.prog 6 #[(.slice l ln lc)] w R :=
  calls_of_vc (A := { loops := [(0, [3])], pars := [] }) (Eq.mpr (show FnVc Tryd.prog { loops := [(0, [3])], pars := [] } 20 6 [(.slice l ln lc)] R w = vc6 l ln lc R w by kernel_rfl) h)

/-- loupe/loupelaw10.num -/
def vc10 (eA : Int) (R : Ending → World → Prop) (w : World) : Prop :=
 R (.returned (.int .i64 eA)) w
theorem c10 (eA : Int) (R : Ending → World → Prop) (w : World) (h : vc10 eA R w) : Calls Tryd.prog 10 #[(.int .i64 eA)] w R :=
  calls_of_vc (A := { loops := [], pars := [] }) (Eq.mpr (show FnVc Tryd.prog { loops := [], pars := [] } 4 10 [(.int .i64 eA)] R w = vc10 eA R w by kernel_rfl) h)

/-- loupe/louperef10.Same -/
def vc11 (a : Option Addr) (an : Nat) (ac : Nat) (b : Option Addr) (bn : Nat) (bc : Nat) (R : Ending → World → Prop) (w : World) : Prop :=
 kCall (cR Tryd.prog R) w 26 #[(.slice a an ac), (.slice b bn bc)] fun v7 w_1 =>
 kEq (cR Tryd.prog R) w_1 .eql 3 (.tmp 7) (.const (.int .i64 0)) v7 (.int .i64 0) fun v8 w_2 =>
 R (.returned v8) w_2
theorem c11 (a : Option Addr) (an : Nat) (ac : Nat) (b : Option Addr) (bn : Nat) (bc : Nat) (R : Ending → World → Prop) (w : World) (h : vc11 a an ac b bn bc R w) : Calls Tryd.prog 11 #[(.slice a an ac), (.slice b bn bc)] w R :=
  calls_of_vc (A := { loops := [], pars := [] }) (Eq.mpr (show FnVc Tryd.prog { loops := [], pars := [] } 9 11 [(.slice a an ac), (.slice b bn bc)] R w = vc11 a an ac b bn bc R w by kernel_rfl) h)

/-- loupe/key.Order -/
def vc12 (a : Option Addr) (an : Nat) (ac : Nat) (b : Option Addr) (bn : Nat) (bc : Nat) (R : Ending → World → Prop) (w : World) : Prop :=
 kCall (cR Tryd.prog R) w 27 #[(.slice a an ac), (.slice b bn bc), (.func (.func 28) #[] #[])] fun v7 w_1 =>
 R (.returned v7) w_1
theorem c12 (a : Option Addr) (an : Nat) (ac : Nat) (b : Option Addr) (bn : Nat) (bc : Nat) (R : Ending → World → Prop) (w : World) (h : vc12 a an ac b bn bc R w) : Calls Tryd.prog 12 #[(.slice a an ac), (.slice b bn bc)] w R :=
  calls_of_vc (A := { loops := [], pars := [] }) (Eq.mpr (show FnVc Tryd.prog { loops := [], pars := [] } 8 12 [(.slice a an ac), (.slice b bn bc)] R w = vc12 a an ac b bn bc R w by kernel_rfl) h)

/-- loupe/key.Decode -/
def vc13 (b : Option Addr) (bn : Nat) (bc : Nat) (R : Ending → World → Prop) (w : World) : Prop :=
 kAlloc (cR Tryd.prog R) w 22 fun v2 w_1 =>
 kAlloc (cR Tryd.prog R) w_1 26 fun v3 w_2 =>
 (fun (c : Cx) =>
 kBuild c w_2 62 #[(0, (.slice b bn bc))] fun v7 w_3 =>
 kBuild c w_3 64 #[(0, v7)] fun v8 w_4 =>
 kBox c w_4 64 v8 fun v9 w_5 =>
 kLoopF [] w_5 fun cs ds w_6 N =>
 kNil c w_6 v9 fun v11 w_7 =>
 kFa c w_7 64 v11 0 fun v12 w_8 =>
 kFa c w_8 62 v12 0 fun v13 w_9 =>
 kLoad c w_9 25 v13 fun v14 w_10 =>
 kBlt c w_10 .len #[25] 3 #[false] #[v14] fun v15 w_11 =>
 kBin c w_11 .gtr 3 v15 (.int .i64 0) fun v16 w_12 =>
 kIf v16 (
 kDrawn true (
 kDrawn true (
 kLoad (cQ Tryd.prog) w_12 22 v2 fun v17 w_13 =>
 kDrew w_13 fun w_14 =>
 (fun (c_1 : Cx) =>
 kCall c_1 w_14 30 #[v9] fun v19 w_15 =>
 kLoad (cQ Tryd.prog) w_15 22 v2 fun v17_1 w_16 =>
 kSame v17_1 v17 (
 kDrew w_15 fun w_17 =>
 kBuildS c_1 w_17 22 1 #[(0, v19)] fun v20 w_18 =>
 kLoad (cQ Tryd.prog) w_18 22 v2 fun v17_2 w_19 =>
 kSame v17_2 v17 (
 kDrew w_18 fun w_20 =>
 kBlt c_1 w_20 .append #[22, 22] 22 #[false, false] #[v17, v20] fun v21 w_21 =>
 kDrew w_21 fun w_22 =>
 kStore c w_22 22 v2 v21 fun w_23 =>
 kD [{ target := .fn (.func 22) #[], args := #[v3, (.func (.func 29) #[] #[v2])] }] [{ target := .fn (.func 22) #[], args := #[v3, (.func (.func 29) #[] #[v2])] }] (N [] w_23)))) ⟨Tryd.prog, fun ch w => ∀ _ : List Value, Lv Tryd.prog [.cell v2 22, .cell v3 26] R [{ target := .fn (.func 22) #[], args := #[v3, (.func (.func 29) #[] #[v2])] }] (.panicking ch) w, false⟩))) (
 kBlt c w_12 .len #[25] 3 #[false] #[(.slice b bn bc)] fun v23 w_24 =>
 kBin c w_24 .leq 3 v23 (.int .i64 80) fun v24 w_25 =>
 kCall c w_25 31 #[v24, (.int .i64 3)] fun v25 w_26 =>
 kLoad c w_26 22 v2 fun v26 w_27 =>
 kStore c w_27 22 v2 v26 fun w_28 =>
 kStore c w_28 26 v3 (.int .i64 0) fun w_29 =>
 Lv Tryd.prog [.cell v2 22, .cell v3 26] R [{ target := .fn (.func 22) #[], args := #[v3, (.func (.func 29) #[] #[v2])] }] .returning w_29)) ⟨Tryd.prog, fun ch w => Lv Tryd.prog [.cell v2 22, .cell v3 26] R [{ target := .fn (.func 22) #[], args := #[v3, (.func (.func 29) #[] #[v2])] }] (.panicking ch) w, false⟩
theorem c13 (b : Option Addr) (bn : Nat) (bc : Nat) (R : Ending → World → Prop) (w : World) (h : vc13 b bn bc R w) : Calls Tryd.prog 13 #[(.slice b bn bc)] w R :=
  calls_of_vc (A := { loops := [(0, [])], pars := [], chs := [(4, (.q 0 (.q 1 (.e 2 (.e 3 (.e 4 .done))))))] }) (Eq.mpr (show FnVc Tryd.prog { loops := [(0, [])], pars := [], chs := [(4, (.q 0 (.q 1 (.e 2 (.e 3 (.e 4 .done))))))] } 27 13 [(.slice b bn bc)] R w = vc13 b bn bc R w by kernel_rfl) h)

/-- loupe/key.Each -/
def vc15 (b : Option Addr) (bn : Nat) (bc : Nat) (R : Ending → World → Prop) (w : World) : Prop :=
 kCall (cR Tryd.prog R) w 32 #[(.slice b bn bc)] fun v5 w_1 =>
 kAlloc (cR Tryd.prog R) w_1 25 fun v3 w_2 =>
 kStore (cR Tryd.prog R) w_2 25 v3 v5 fun w_3 =>
 R (.returned (.func (.func 33) #[] #[v3])) w_3
theorem c15 (b : Option Addr) (bn : Nat) (bc : Nat) (R : Ending → World → Prop) (w : World) (h : vc15 b bn bc R w) : Calls Tryd.prog 15 #[(.slice b bn bc)] w R :=
  calls_of_vc (A := { loops := [], pars := [] }) (Eq.mpr (show FnVc Tryd.prog { loops := [], pars := [] } 7 15 [(.slice b bn bc)] R w = vc15 b bn bc R w by kernel_rfl) h)

/-- loupe/louperef10.Read -/
def vc16 (b : Option Addr) (bn : Nat) (bc : Nat) (R : Ending → World → Prop) (w : World) : Prop :=
 kAlloc (cR Tryd.prog R) w 41 fun v2 w_1 =>
 kBlt (cR Tryd.prog R) w_1 .len #[25] 3 #[false] #[(.slice b bn bc)] fun v10 w_2 =>
 kEq (cR Tryd.prog R) w_2 .eql 3 (.tmp 10) (.const (.int .i64 0)) v10 (.int .i64 0) fun v11 w_3 =>
 kIf v11 (
 kBuild (cR Tryd.prog R) w_3 41 #[] fun v12 w_4 =>
 kStore (cR Tryd.prog R) w_4 41 v2 v12 fun w_5 =>
 RetK Tryd.prog [.cell v2 41, .val (.int .i64 0)] R w_5) (
 kIa (cR Tryd.prog R) w_3 25 (.slice b bn bc) (.int .i64 0) fun v14 w_6 =>
 kLoad (cR Tryd.prog R) w_6 5 v14 fun v15 w_7 =>
 kConv (cR Tryd.prog R) w_7 5 3 v15 fun v16 w_8 =>
 kBuild (cR Tryd.prog R) w_8 41 #[(0, v16)] fun v17 w_9 =>
 kAlloc (cR Tryd.prog R) w_9 41 fun v4 w_10 =>
 kStore (cR Tryd.prog R) w_10 41 v4 v17 fun w_11 =>
 kJn (fun J =>
 kIa (cR Tryd.prog R) w_11 25 (.slice b bn bc) (.int .i64 0) fun v19 w_15 =>
 kLoad (cR Tryd.prog R) w_15 5 v19 fun v20 w_16 =>
 kEq (cR Tryd.prog R) w_16 .eql 5 (.tmp 20) (.const (.int .u8 0)) v20 (.int .u8 0) fun v23 w_17 =>
 kIf v23 (
 kD [] [] (J [(.int .i64 1)] w_17)) (
 kEq (cR Tryd.prog R) w_17 .eql 5 (.tmp 20) (.const (.int .u8 1)) v20 (.int .u8 1) fun v25 w_18 =>
 kIf v25 (
 kJn (fun J_1 =>
 kBlt (cR Tryd.prog R) w_18 .len #[25] 3 #[false] #[(.slice b bn bc)] fun v27 w_25 =>
 kBin (cR Tryd.prog R) w_25 .lss 3 v27 (.int .i64 2) fun v28 w_26 =>
 kIf v28 (
 kIf (.bool true) (
 kBuild (cR Tryd.prog R) w_26 41 #[] fun v35 w_27 =>
 kStore (cR Tryd.prog R) w_27 41 v2 v35 fun w_28 =>
 RetK Tryd.prog [.cell v2 41, .val (.int .i64 0)] R w_28) (
 kD [] [] (J_1 [] w_26))) (
 kIa (cR Tryd.prog R) w_26 25 (.slice b bn bc) (.int .i64 1) fun v31 w_29 =>
 kLoad (cR Tryd.prog R) w_29 5 v31 fun v32 w_30 =>
 kBin (cR Tryd.prog R) w_30 .gtr 5 v32 (.int .u8 1) fun v33 w_31 =>
 kIf v33 (
 kBuild (cR Tryd.prog R) w_31 41 #[] fun v35_1 w_32 =>
 kStore (cR Tryd.prog R) w_32 41 v2 v35_1 fun w_33 =>
 RetK Tryd.prog [.cell v2 41, .val (.int .i64 0)] R w_33) (
 kD [] [] (J_1 [] w_31)))) (fun cs_1 w_19 => ∀ ds_1 : List Value,
 kIa (cR Tryd.prog R) w_19 25 (.slice b bn bc) (.int .i64 1) fun v37 w_20 =>
 kLoad (cR Tryd.prog R) w_20 5 v37 fun v38 w_21 =>
 kConv (cR Tryd.prog R) w_21 5 2 v38 fun v39 w_22 =>
 kFa (cR Tryd.prog R) w_22 41 v4 1 fun v40 w_23 =>
 kStore (cR Tryd.prog R) w_23 2 v40 v39 fun w_24 =>
 kD [] [] (J [(.int .i64 2)] w_24))) (
 kEq (cR Tryd.prog R) w_18 .eql 5 (.tmp 20) (.const (.int .u8 2)) v20 (.int .u8 2) fun v42 w_34 =>
 kIf v42 (
 kBlt (cR Tryd.prog R) w_34 .len #[25] 3 #[false] #[(.slice b bn bc)] fun v44 w_35 =>
 kBin (cR Tryd.prog R) w_35 .lss 3 v44 (.int .i64 9) fun v45 w_36 =>
 kIf v45 (
 kBuild (cR Tryd.prog R) w_36 41 #[] fun v46 w_37 =>
 kStore (cR Tryd.prog R) w_37 41 v2 v46 fun w_38 =>
 RetK Tryd.prog [.cell v2 41, .val (.int .i64 0)] R w_38) (
 kLoopF [(.int .u64 0), (.int .i64 1)] w_36 fun cs_2 ds_2 w_39 N =>
 (fun x6 x7 =>
 kBin (cR Tryd.prog R) w_39 .lss 3 x7 (.int .i64 9) fun v48 w_40 =>
 kIf v48 (
 kBin (cR Tryd.prog R) w_40 .shl 71 x6 (.int .u64 8) fun v52 w_41 =>
 kIa (cR Tryd.prog R) w_41 25 (.slice b bn bc) x7 fun v55 w_42 =>
 kLoad (cR Tryd.prog R) w_42 5 v55 fun v56 w_43 =>
 kConv (cR Tryd.prog R) w_43 5 71 v56 fun v57 w_44 =>
 kBin (cR Tryd.prog R) w_44 .or 71 v52 v57 fun v58 w_45 =>
 kBin (cR Tryd.prog R) w_45 .add 3 x7 (.int .i64 1) fun v50 w_46 =>
 kD [] [] (N [v58, v50] w_46)) (
 kBin (cR Tryd.prog R) w_40 .xor 71 x6 (.int .u64 9223372036854775808) fun v60 w_47 =>
 kConv (cR Tryd.prog R) w_47 71 2 v60 fun v61 w_48 =>
 kFa (cR Tryd.prog R) w_48 41 v4 1 fun v62 w_49 =>
 kStore (cR Tryd.prog R) w_49 2 v62 v61 fun w_50 =>
 kD [] [] (J [(.int .i64 9)] w_50))) (cs_2.getD 0 undef) (cs_2.getD 1 undef))) (
 kJn (fun J_2 =>
 kEq (cR Tryd.prog R) w_34 .eql 5 (.tmp 20) (.const (.int .u8 3)) v20 (.int .u8 3) fun v64 w_93 =>
 kIf v64 (
 kD [] [] (J_2 [v64] w_93)) (
 kEq (cR Tryd.prog R) w_93 .eql 5 (.tmp 20) (.const (.int .u8 4)) v20 (.int .u8 4) fun v65 w_94 =>
 kD [] [] (J_2 [v65] w_94))) (fun cs_3 w_51 => ∀ ds_3 : List Value,
 (fun j63 =>
 kIf j63 (
 kLoopF [(.int .i64 1)] w_51 fun cs_4 ds_4 w_52 N_1 =>
 (fun x5 =>
 kBlt (cR Tryd.prog R) w_52 .len #[25] 3 #[false] #[(.slice b bn bc)] fun v68 w_53 =>
 kBin (cR Tryd.prog R) w_53 .geq 3 x5 v68 fun v69 w_54 =>
 kIf v69 (
 kBuild (cR Tryd.prog R) w_54 41 #[] fun v70 w_55 =>
 kStore (cR Tryd.prog R) w_55 41 v2 v70 fun w_56 =>
 RetK Tryd.prog [.cell v2 41, .val (.int .i64 0)] R w_56) (
 kIa (cR Tryd.prog R) w_54 25 (.slice b bn bc) x5 fun v73 w_57 =>
 kLoad (cR Tryd.prog R) w_57 5 v73 fun v74 w_58 =>
 kBin (cR Tryd.prog R) w_58 .add 3 x5 (.int .i64 1) fun v76 w_59 =>
 kJn (fun J_3 =>
 kEq (cR Tryd.prog R) w_59 .eql 5 (.tmp 77) (.const (.int .u8 0)) v74 (.int .u8 0) fun v78 w_68 =>
 kIf v78 (
 kJn (fun J_4 =>
 kBlt (cR Tryd.prog R) w_68 .len #[25] 3 #[false] #[(.slice b bn bc)] fun v81 w_77 =>
 kBin (cR Tryd.prog R) w_77 .geq 3 v76 v81 fun v82 w_78 =>
 kIf v82 (
 kIf (.bool true) (
 kBuild (cR Tryd.prog R) w_78 41 #[] fun v97 w_79 =>
 kStore (cR Tryd.prog R) w_79 41 v2 v97 fun w_80 =>
 RetK Tryd.prog [.cell v2 41, .val (.int .i64 0)] R w_80) (
 kD [] [] (J_4 [] w_78))) (
 kIa (cR Tryd.prog R) w_78 25 (.slice b bn bc) v76 fun v86 w_81 =>
 kLoad (cR Tryd.prog R) w_81 5 v86 fun v87 w_82 =>
 kEq (cR Tryd.prog R) w_82 .neq 5 (.tmp 87) (.const (.int .u8 1)) v87 (.int .u8 1) fun v88 w_83 =>
 kIf v88 (
 kIa (cR Tryd.prog R) w_83 25 (.slice b bn bc) v76 fun v92 w_84 =>
 kLoad (cR Tryd.prog R) w_84 5 v92 fun v93 w_85 =>
 kEq (cR Tryd.prog R) w_85 .neq 5 (.tmp 93) (.const (.int .u8 255)) v93 (.int .u8 255) fun v94 w_86 =>
 kIf v94 (
 kBuild (cR Tryd.prog R) w_86 41 #[] fun v97_1 w_87 =>
 kStore (cR Tryd.prog R) w_87 41 v2 v97_1 fun w_88 =>
 RetK Tryd.prog [.cell v2 41, .val (.int .i64 0)] R w_88) (
 kD [] [] (J_4 [] w_86))) (
 kIf (.bool false) (
 kBuild (cR Tryd.prog R) w_83 41 #[] fun v97_2 w_89 =>
 kStore (cR Tryd.prog R) w_89 41 v2 v97_2 fun w_90 =>
 RetK Tryd.prog [.cell v2 41, .val (.int .i64 0)] R w_90) (
 kD [] [] (J_4 [] w_83))))) (fun cs_6 w_69 => ∀ ds_6 : List Value,
 kBin (cR Tryd.prog R) w_69 .add 3 v76 (.int .i64 1) fun v99 w_70 =>
 kBin (cR Tryd.prog R) w_70 .sub 3 v99 (.int .i64 1) fun v102 w_71 =>
 kIa (cR Tryd.prog R) w_71 25 (.slice b bn bc) v102 fun v103 w_72 =>
 kLoad (cR Tryd.prog R) w_72 5 v103 fun v104 w_73 =>
 kEq (cR Tryd.prog R) w_73 .eql 5 (.tmp 104) (.const (.int .u8 1)) v104 (.int .u8 1) fun v105 w_74 =>
 kIf v105 (
 kLoad (cR Tryd.prog R) w_74 41 v4 fun v106 w_75 =>
 kStore (cR Tryd.prog R) w_75 41 v2 v106 fun w_76 =>
 RetK Tryd.prog [.cell v2 41, .val v99] R w_76) (
 kD [] [] (J_3 [v99] w_74)))) (
 kD [] [] (J_3 [v76] w_68))) (fun cs_5 w_60 => ∀ ds_5 : List Value,
 (fun j5_1 =>
 kFa (cR Tryd.prog R) w_60 41 v4 2 fun v108 w_61 =>
 kLoad (cR Tryd.prog R) w_61 9 v108 fun v109 w_62 =>
 kBuildS (cR Tryd.prog R) w_62 25 1 #[(0, v74)] fun v111 w_63 =>
 kConv (cR Tryd.prog R) w_63 25 9 v111 fun v112 w_64 =>
 kBin (cR Tryd.prog R) w_64 .add 9 v109 v112 fun v113 w_65 =>
 kFa (cR Tryd.prog R) w_65 41 v4 2 fun v114 w_66 =>
 kStore (cR Tryd.prog R) w_66 9 v114 v113 fun w_67 =>
 kD [] [] (N_1 [j5_1] w_67)) (cs_5.getD 0 undef)))) (cs_4.getD 0 undef)) (
 kBuild (cR Tryd.prog R) w_51 41 #[] fun v21 w_91 =>
 kStore (cR Tryd.prog R) w_91 41 v2 v21 fun w_92 =>
 RetK Tryd.prog [.cell v2 41, .val (.int .i64 0)] R w_92)) (cs_3.getD 0 undef)))))) (fun cs w_12 => ∀ ds : List Value,
 (fun j5 =>
 kLoad (cR Tryd.prog R) w_12 41 v4 fun v115 w_13 =>
 kStore (cR Tryd.prog R) w_13 41 v2 v115 fun w_14 =>
 RetK Tryd.prog [.cell v2 41, .val j5] R w_14) (cs.getD 0 undef)))
theorem c16 (b : Option Addr) (bn : Nat) (bc : Nat) (R : Ending → World → Prop) (w : World) (h : vc16 b bn bc R w) : Calls Tryd.prog 16 #[(.slice b bn bc)] w R :=
  calls_of_vc (A := { loops := [(1000034, [5]), (1000011, []), (1, [6, 7]), (1000033, [5]), (1000030, []), (3, [5]), (1000023, [63])], pars := [] }) (Eq.mpr (show FnVc Tryd.prog { loops := [(1000034, [5]), (1000011, []), (1, [6, 7]), (1000033, [5]), (1000030, []), (3, [5]), (1000023, [63])], pars := [] } 117 16 [(.slice b bn bc)] R w = vc16 b bn bc R w by kernel_rfl) h)

/-- loupe/loupelaw29.works -/
def vc17  (R : Ending → World → Prop) (w : World) : Prop :=
 kAlloc (cR Tryd.prog R) w 4 fun v0 w_1 =>
 kCall (cR Tryd.prog R) w_1 36 #[] fun v8 w_2 =>
 kCall (cR Tryd.prog R) w_2 35 #[v8] fun v9 w_3 =>
 kExt v9 0 fun v10 =>
 kExt v9 1 fun v11 =>
 kCall (cR Tryd.prog R) w_3 36 #[] fun v12 w_4 =>
 kCall (cR Tryd.prog R) w_4 37 #[v12] fun v13 w_5 =>
 kEq (cR Tryd.prog R) w_5 .eql 77 (.tmp 14) (.const .nilFunc) v13 .nilFunc fun v15 w_6 =>
 kIf v15 (
 kStore (cR Tryd.prog R) w_6 4 v0 (.bool false) fun w_7 =>
 RetK Tryd.prog [.cell v0 4] R w_7) (
 kAlloc (cR Tryd.prog R) w_6 3 fun v4 w_8 =>
 kStore (cR Tryd.prog R) w_8 3 v4 (.int .i64 0) fun w_9 =>
 kRange Tryd.prog none w_9 v13 2 (fun l D args w_10 Rr =>
 (fun p17 p18 =>
 rndMid l D w_10 w_10 fun lo w_11 =>
 (fun (c : Cx) =>
 kEq c w_11 .neq 3 (.tmp 19) (.const (.int .i64 1)) p17 (.int .i64 1) fun v20 w_12 =>
 kIf v20 (
 kIf (.bool true) (
 kStore c w_12 4 v0 (.bool false) fun w_13 =>
 rndEnd l D lo w_10 Rr .ret [] w_13) (
 kLoad c w_12 3 v4 fun v25 w_14 =>
 kBin c w_14 .add 3 v25 (.int .i64 1) fun v26 w_15 =>
 kStore c w_15 3 v4 v26 fun w_16 =>
 rndEnd l D lo w_10 Rr .normal [] w_16)) (
 kEq c w_12 .neq 3 (.tmp 22) (.const (.int .i64 0)) p18 (.int .i64 0) fun v23 w_17 =>
 kIf v23 (
 kStore c w_17 4 v0 (.bool false) fun w_18 =>
 rndEnd l D lo w_10 Rr .ret [] w_18) (
 kLoad c w_17 3 v4 fun v25_1 w_19 =>
 kBin c w_19 .add 3 v25_1 (.int .i64 1) fun v26_1 w_20 =>
 kStore c w_20 3 v4 v26_1 fun w_21 =>
 rndEnd l D lo w_10 Rr .normal [] w_21))) ⟨Tryd.prog, fun ch w => rndEnd l D lo w_10 Rr (.panic ch) [] w, false⟩) (args.getD 0 undef) (args.getD 1 undef))
  (fun D_1 w_22 =>
 (fun (c_1 : Cx) =>
 kCall c_1 w_22 18 #[v11] fun v28 w_23 =>
 kEq c_1 w_23 .eql 3 (.tmp 28) (.const (.int .i64 0)) v28 (.int .i64 0) fun v29 w_24 =>
 kIf v29 (
 kEq c_1 w_24 .eql 9 (.tmp 31) (.const (.string ⟨#[48, 32, 118, 97, 108, 117, 101, 32, 51, 32, 53, 10, 49, 32, 105, 102, 32, 51, 32, 48, 10, 50, 32, 111, 112, 32, 52, 32, 43, 32, 51, 32, 51, 10, 51, 32, 115, 116, 111, 112, 10]⟩)) v10 (.string ⟨#[48, 32, 118, 97, 108, 117, 101, 32, 51, 32, 53, 10, 49, 32, 105, 102, 32, 51, 32, 48, 10, 50, 32, 111, 112, 32, 52, 32, 43, 32, 51, 32, 51, 10, 51, 32, 115, 116, 111, 112, 10]⟩) fun v32 w_25 =>
 kIf v32 (
 kLoad c_1 w_25 3 v4 fun v35 w_26 =>
 kEq c_1 w_26 .eql 3 (.tmp 35) (.const (.int .i64 1)) v35 (.int .i64 1) fun v36 w_27 =>
 kIf v36 (
 kBuild c_1 w_27 50 #[(0, (.int .i64 10)), (2, (.int .i64 2))] fun v39 w_28 =>
 kBuildS c_1 w_28 45 1 #[(0, v39)] fun v40 w_29 =>
 kCall c_1 w_29 19 #[v40] fun v41 w_30 =>
 kCall c_1 w_30 18 #[v41] fun v42 w_31 =>
 kEq c_1 w_31 .eql 3 (.tmp 42) (.const (.int .i64 2)) v42 (.int .i64 2) fun v43 w_32 =>
 kIf v43 (
 kBuild c_1 w_32 50 #[(0, (.int .i64 10)), (2, (.int .i64 1))] fun v46 w_33 =>
 kBuildS c_1 w_33 45 1 #[(0, v46)] fun v47 w_34 =>
 kCall c_1 w_34 19 #[v47] fun v48 w_35 =>
 kCall c_1 w_35 18 #[v48] fun v49 w_36 =>
 kEq c_1 w_36 .eql 3 (.tmp 49) (.const (.int .i64 0)) v49 (.int .i64 0) fun v50 w_37 =>
 kStore c_1 w_37 4 v0 v50 fun w_38 =>
 Lv Tryd.prog [.cell v0 4] R [markOf D_1] .returning w_38) (
 kStore c_1 w_32 4 v0 (.bool false) fun w_39 =>
 Lv Tryd.prog [.cell v0 4] R [markOf D_1] .returning w_39)) (
 kStore c_1 w_27 4 v0 (.bool false) fun w_40 =>
 Lv Tryd.prog [.cell v0 4] R [markOf D_1] .returning w_40)) (
 kStore c_1 w_25 4 v0 (.bool false) fun w_41 =>
 Lv Tryd.prog [.cell v0 4] R [markOf D_1] .returning w_41)) (
 kStore c_1 w_24 4 v0 (.bool false) fun w_42 =>
 Lv Tryd.prog [.cell v0 4] R [markOf D_1] .returning w_42)) ⟨Tryd.prog, fun ch w => Lv Tryd.prog [.cell v0 4] R [markOf D_1] (.panicking ch) w, false⟩)
  (fun D_1 w_43 =>
 Lv Tryd.prog [.cell v0 4] R [markOf D_1] .returning w_43)
  (fun _ _ _ => False)
  (fun D_1 ch w_45 => (fun ch w => Lv Tryd.prog [.cell v0 4] R [markOf D_1] (.panicking ch) w) ch w_45))
theorem c17  (R : Ending → World → Prop) (w : World) (h : vc17  R w) : Calls Tryd.prog 17 #[] w R :=
  calls_of_vc (A := { loops := [], pars := [] }) (Eq.mpr (show FnVc Tryd.prog { loops := [], pars := [] } 52 17 [] R w = vc17  R w by kernel_rfl) h)

/-- loupe/loupelaw29.num -/
def vc18 (eA : Int) (R : Ending → World → Prop) (w : World) : Prop :=
 R (.returned (.int .i64 eA)) w
theorem c18 (eA : Int) (R : Ending → World → Prop) (w : World) (h : vc18 eA R w) : Calls Tryd.prog 18 #[(.int .i64 eA)] w R :=
  calls_of_vc (A := { loops := [], pars := [] }) (Eq.mpr (show FnVc Tryd.prog { loops := [], pars := [] } 4 18 [(.int .i64 eA)] R w = vc18 eA R w by kernel_rfl) h)

/-- loupe/code.Check -/
def vc19 (l : Option Addr) (ln : Nat) (lc : Nat) (R : Ending → World → Prop) (w : World) : Prop :=
 kCall (cR Tryd.prog R) w 38 #[] fun v14 w_1 =>
 kBlt (cR Tryd.prog R) w_1 .len #[45] 3 #[false] #[(.slice l ln lc)] fun v16 w_2 =>
 kBin (cR Tryd.prog R) w_2 .gtr 3 v16 (.int .i64 2000) fun v17 w_3 =>
 kIf v17 (
 R (.returned (.int .i64 2)) w_3) (
 kBlt (cR Tryd.prog R) w_3 .len #[45] 3 #[false] #[(.slice l ln lc)] fun v19 w_4 =>
 kLoopF [(.int .i64 0)] w_4 fun cs ds w_5 N =>
 (fun x20 =>
 kBin (cR Tryd.prog R) w_5 .lss 3 x20 v19 fun v21 w_6 =>
 kIf v21 (
 kIa (cR Tryd.prog R) w_6 45 (.slice l ln lc) x20 fun v22 w_7 =>
 kLoad (cR Tryd.prog R) w_7 50 v22 fun v23 w_8 =>
 kAlloc (cR Tryd.prog R) w_8 50 fun v5 w_9 =>
 kStore (cR Tryd.prog R) w_9 50 v5 v23 fun w_10 =>
 kFa (cR Tryd.prog R) w_10 50 v5 0 fun v26 w_11 =>
 kLoad (cR Tryd.prog R) w_11 46 v26 fun v27 w_12 =>
 kLook (cR Tryd.prog R) w_12 79 v14 v27 true fun v28 w_13 =>
 kExt v28 0 fun v29 =>
 kExt v28 1 fun v30 =>
 kAlloc (cR Tryd.prog R) w_13 84 fun v6 w_14 =>
 kStore (cR Tryd.prog R) w_14 84 v6 v29 fun w_15 =>
 kUn (cR Tryd.prog R) w_15 .not v30 fun v32 w_16 =>
 kIf v32 (
 R (.returned (.int .i64 2)) w_16) (
 kFa (cR Tryd.prog R) w_16 84 v6 2 fun v34 w_17 =>
 kLoad (cR Tryd.prog R) w_17 82 v34 fun v35 w_18 =>
 kLoad (cR Tryd.prog R) w_18 50 v5 fun v36 w_19 =>
 kCallV (cR Tryd.prog R) w_19 v35 #[v36] fun v37 w_20 =>
 kExt v37 0 fun v38 =>
 kExt v37 1 fun v39 =>
 kAlloc (cR Tryd.prog R) w_20 50 fun v8 w_21 =>
 kStore (cR Tryd.prog R) w_21 50 v8 v38 fun w_22 =>
 kFa (cR Tryd.prog R) w_22 50 v5 0 fun v40 w_23 =>
 kLoad (cR Tryd.prog R) w_23 46 v40 fun v41 w_24 =>
 kFa (cR Tryd.prog R) w_24 50 v8 0 fun v42 w_25 =>
 kStore (cR Tryd.prog R) w_25 46 v42 v41 fun w_26 =>
 kFa (cR Tryd.prog R) w_26 84 v6 1 fun v43 w_27 =>
 kLoad (cR Tryd.prog R) w_27 81 v43 fun v44 w_28 =>
 kBlt (cR Tryd.prog R) w_28 .len #[81] 3 #[false] #[v44] fun v45 w_29 =>
 kLoopF [v39, (.int .i64 0)] w_29 fun cs_1 ds_1 w_30 N_1 =>
 (fun x9 x46 =>
 kBin (cR Tryd.prog R) w_30 .lss 3 x46 v45 fun v47 w_31 =>
 kIf v47 (
 kIa (cR Tryd.prog R) w_31 81 v44 x46 fun v48 w_32 =>
 kLoad (cR Tryd.prog R) w_32 89 v48 fun v49 w_33 =>
 kAlloc (cR Tryd.prog R) w_33 89 fun v11 w_34 =>
 kStore (cR Tryd.prog R) w_34 89 v11 v49 fun w_35 =>
 kFa (cR Tryd.prog R) w_35 89 v11 2 fun v50 w_36 =>
 kLoad (cR Tryd.prog R) w_36 3 v50 fun v51 w_37 =>
 kJn (fun J =>
 kFa (cR Tryd.prog R) w_37 89 v11 3 fun v52 w_55 =>
 kLoad (cR Tryd.prog R) w_55 4 v52 fun v53 w_56 =>
 kIf v53 (
 kBlt (cR Tryd.prog R) w_56 .len #[45] 3 #[false] #[(.slice l ln lc)] fun v55 w_57 =>
 kD [] [] (J [v55] w_57)) (
 kD [] [] (J [v51] w_56))) (fun cs_2 w_38 => ∀ ds_2 : List Value,
 (fun j12 =>
 kFa (cR Tryd.prog R) w_38 89 v11 0 fun v56 w_39 =>
 kLoad (cR Tryd.prog R) w_39 87 v56 fun v57 w_40 =>
 kCallV (cR Tryd.prog R) w_40 v57 #[v5] fun v58 w_41 =>
 kNil (cR Tryd.prog R) w_41 v58 fun v59 w_42 =>
 kLoad (cR Tryd.prog R) w_42 3 v59 fun v60 w_43 =>
 kJn (fun J_1 =>
 kIf x9 (
 kFa (cR Tryd.prog R) w_43 89 v11 1 fun v63 w_51 =>
 kLoad (cR Tryd.prog R) w_51 3 v63 fun v64 w_52 =>
 kBuildS (cR Tryd.prog R) w_52 48 1 #[(0, v60)] fun v67 w_53 =>
 kCall (cR Tryd.prog R) w_53 39 #[v64, j12, v67] fun v68 w_54 =>
 kD [] [] (J_1 [v68] w_54)) (
 kD [] [] (J_1 [(.bool false)] w_43))) (fun cs_3 w_44 => ∀ ds_3 : List Value,
 (fun j9 =>
 kFa (cR Tryd.prog R) w_44 89 v11 0 fun v70 w_45 =>
 kLoad (cR Tryd.prog R) w_45 87 v70 fun v71 w_46 =>
 kCallV (cR Tryd.prog R) w_46 v71 #[v8] fun v72 w_47 =>
 kNil (cR Tryd.prog R) w_47 v72 fun v74 w_48 =>
 kStore (cR Tryd.prog R) w_48 3 v74 v60 fun w_49 =>
 kBin (cR Tryd.prog R) w_49 .add 3 x46 (.int .i64 1) fun v75 w_50 =>
 kD [] [] (N_1 [j9, v75] w_50)) (cs_3.getD 0 undef))) (cs_2.getD 0 undef))) (
 kUn (cR Tryd.prog R) w_31 .not x9 fun v77 w_58 =>
 kIf v77 (
 kIf (.bool true) (
 R (.returned (.int .i64 2)) w_58) (
 kBin (cR Tryd.prog R) w_58 .add 3 x20 (.int .i64 1) fun v84 w_59 =>
 kD [] [] (N [v84] w_59))) (
 kLoad (cR Tryd.prog R) w_58 50 v8 fun v79 w_60 =>
 kLoad (cR Tryd.prog R) w_60 50 v5 fun v80 w_61 =>
 kCall (cR Tryd.prog R) w_61 40 #[v79, v80] fun v81 w_62 =>
 kUn (cR Tryd.prog R) w_62 .not v81 fun v82 w_63 =>
 kIf v82 (
 R (.returned (.int .i64 2)) w_63) (
 kBin (cR Tryd.prog R) w_63 .add 3 x20 (.int .i64 1) fun v84_1 w_64 =>
 kD [] [] (N [v84_1] w_64))))) (cs_1.getD 0 undef) (cs_1.getD 1 undef))) (
 R (.returned (.int .i64 0)) w_6)) (cs.getD 0 undef))
theorem c19 (l : Option Addr) (ln : Nat) (lc : Nat) (R : Ending → World → Prop) (w : World) (h : vc19 l ln lc R w) : Calls Tryd.prog 19 #[(.slice l ln lc)] w R :=
  calls_of_vc (A := { loops := [(1000020, [9]), (1000018, [12]), (2, [9, 46]), (0, [20])], pars := [] }) (Eq.mpr (show FnVc Tryd.prog { loops := [(1000020, [9]), (1000018, [12]), (2, [9, 46]), (0, [20])], pars := [] } 85 19 [(.slice l ln lc)] R w = vc19 l ln lc R w by kernel_rfl) h)

/-- loupe/louperef01.Of -/
def vc20 (t : Int) (R : Ending → World → Prop) (w : World) : Prop :=
 kAlloc (cR Tryd.prog R) w 41 fun v2 w_1 =>
 kEq (cR Tryd.prog R) w_1 .eql 3 (.tmp 3) (.const (.int .i64 0)) (.int .i64 t) (.int .i64 0) fun v4 w_2 =>
 kIf v4 (
 kIf (.bool true) (
 kBuild (cR Tryd.prog R) w_2 41 #[(0, (.int .i64 1)), (1, (.int .i64 t))] fun v10 w_3 =>
 kStore (cR Tryd.prog R) w_3 41 v2 v10 fun w_4 =>
 RetK Tryd.prog [.cell v2 41] R w_4) (
 kBuild (cR Tryd.prog R) w_2 41 #[] fun v11 w_5 =>
 kStore (cR Tryd.prog R) w_5 41 v2 v11 fun w_6 =>
 RetK Tryd.prog [.cell v2 41] R w_6)) (
 kEq (cR Tryd.prog R) w_2 .eql 3 (.tmp 6) (.const (.int .i64 1)) (.int .i64 t) (.int .i64 1) fun v7 w_7 =>
 kIf v7 (
 kBuild (cR Tryd.prog R) w_7 41 #[(0, (.int .i64 1)), (1, (.int .i64 t))] fun v10_1 w_8 =>
 kStore (cR Tryd.prog R) w_8 41 v2 v10_1 fun w_9 =>
 RetK Tryd.prog [.cell v2 41] R w_9) (
 kBuild (cR Tryd.prog R) w_7 41 #[] fun v11_1 w_10 =>
 kStore (cR Tryd.prog R) w_10 41 v2 v11_1 fun w_11 =>
 RetK Tryd.prog [.cell v2 41] R w_11))
theorem c20 (t : Int) (R : Ending → World → Prop) (w : World) (h : vc20 t R w) : Calls Tryd.prog 20 #[(.int .i64 t)] w R :=
  calls_of_vc (A := { loops := [], pars := [] }) (Eq.mpr (show FnVc Tryd.prog { loops := [], pars := [] } 12 20 [(.int .i64 t)] R w = vc20 t R w by kernel_rfl) h)

/-- loupe/loupelaw10.of -/
def vc21 (n : Int) (R : Ending → World → Prop) (w : World) : Prop :=
 kAlloc (cR Tryd.prog R) w 41 fun v2 w_1 =>
 kBuild (cR Tryd.prog R) w_1 41 #[(0, (.int .i64 2)), (1, (.int .i64 n))] fun v4 w_2 =>
 kStore (cR Tryd.prog R) w_2 41 v2 v4 fun w_3 =>
 RetK Tryd.prog [.cell v2 41] R w_3
theorem c21 (n : Int) (R : Ending → World → Prop) (w : World) (h : vc21 n R w) : Calls Tryd.prog 21 #[(.int .i64 n)] w R :=
  calls_of_vc (A := { loops := [], pars := [] }) (Eq.mpr (show FnVc Tryd.prog { loops := [], pars := [] } 5 21 [(.int .i64 n)] R w = vc21 n R w by kernel_rfl) h)

/-- loupe/louperef10.Order -/
def vc26 (a : Option Addr) (an : Nat) (ac : Nat) (b : Option Addr) (bn : Nat) (bc : Nat) (R : Ending → World → Prop) (w : World) : Prop :=
 kLoopF [(.int .i64 0)] w fun cs ds w_1 N =>
 (fun x5 =>
 kJn (fun J =>
 kBlt (cR Tryd.prog R) w_1 .len #[22] 3 #[false] #[(.slice a an ac)] fun v9 w_20 =>
 kBin (cR Tryd.prog R) w_20 .lss 3 x5 v9 fun v10 w_21 =>
 kIf v10 (
 kBlt (cR Tryd.prog R) w_21 .len #[22] 3 #[false] #[(.slice b bn bc)] fun v14 w_22 =>
 kBin (cR Tryd.prog R) w_22 .lss 3 x5 v14 fun v15 w_23 =>
 kIf v15 (
 kD [] [] (J [] w_23)) (
 kBlt (cR Tryd.prog R) w_23 .len #[22] 3 #[false] #[(.slice a an ac)] fun v32 w_24 =>
 kBlt (cR Tryd.prog R) w_24 .len #[22] 3 #[false] #[(.slice b bn bc)] fun v34 w_25 =>
 kBin (cR Tryd.prog R) w_25 .lss 3 v32 v34 fun v35 w_26 =>
 kIf v35 (
 R (.returned (.int .i64 (-1))) w_26) (
 kBlt (cR Tryd.prog R) w_26 .len #[22] 3 #[false] #[(.slice a an ac)] fun v37 w_27 =>
 kBlt (cR Tryd.prog R) w_27 .len #[22] 3 #[false] #[(.slice b bn bc)] fun v39 w_28 =>
 kBin (cR Tryd.prog R) w_28 .gtr 3 v37 v39 fun v40 w_29 =>
 kIf v40 (
 R (.returned (.int .i64 1)) w_29) (
 R (.returned (.int .i64 0)) w_29)))) (
 kIf (.bool false) (
 kD [] [] (J [] w_21)) (
 kBlt (cR Tryd.prog R) w_21 .len #[22] 3 #[false] #[(.slice a an ac)] fun v32_1 w_30 =>
 kBlt (cR Tryd.prog R) w_30 .len #[22] 3 #[false] #[(.slice b bn bc)] fun v34_1 w_31 =>
 kBin (cR Tryd.prog R) w_31 .lss 3 v32_1 v34_1 fun v35_1 w_32 =>
 kIf v35_1 (
 R (.returned (.int .i64 (-1))) w_32) (
 kBlt (cR Tryd.prog R) w_32 .len #[22] 3 #[false] #[(.slice a an ac)] fun v37_1 w_33 =>
 kBlt (cR Tryd.prog R) w_33 .len #[22] 3 #[false] #[(.slice b bn bc)] fun v39_1 w_34 =>
 kBin (cR Tryd.prog R) w_34 .gtr 3 v37_1 v39_1 fun v40_1 w_35 =>
 kIf v40_1 (
 R (.returned (.int .i64 1)) w_35) (
 R (.returned (.int .i64 0)) w_35))))) (fun cs_1 w_2 => ∀ ds_1 : List Value,
 kDrawn true (
 kPar w_2 9 [[], [], [0, 1], [2], [], [], [4, 5], [6], [3, 7], [8, 0, 1, 2, 3, 4, 5, 6, 7]] (fun Inv Cl =>
 (∀ (S : Nat → Bool) (vs : Nat → Value) (w_3 : World), Inv S vs w_3 → Cl S → S 0 = false → (∀ j, j ∈ ([] : List Nat) → S j = true) →
 Inv (inc S 0) (setV vs 0 (.slice a an ac)) w_3) ∧
 (∀ (S_1 : Nat → Bool) (vs_1 : Nat → Value) (w_4 : World), Inv S_1 vs_1 w_4 → Cl S_1 → S_1 1 = false → (∀ j, j ∈ ([] : List Nat) → S_1 j = true) →
 Inv (inc S_1 1) (setV vs_1 1 x5) w_4) ∧
 (∀ (S_2 : Nat → Bool) (vs_2 : Nat → Value) (w_5 : World), Inv S_2 vs_2 w_5 → Cl S_2 → S_2 2 = false → (∀ j, j ∈ ([0, 1] : List Nat) → S_2 j = true) →
 kIa (cN Tryd.prog) w_5 22 (vs_2 0) (vs_2 1) fun v21 w_6 =>
 Inv (inc S_2 2) (setV vs_2 2 v21) w_6) ∧
 (∀ (S_3 : Nat → Bool) (vs_3 : Nat → Value) (w_7 : World), Inv S_3 vs_3 w_7 → Cl S_3 → S_3 3 = false → (∀ j, j ∈ ([2] : List Nat) → S_3 j = true) →
 kLoad (cN Tryd.prog) w_7 41 (vs_3 2) fun v22 w_8 =>
 Inv (inc S_3 3) (setV vs_3 3 v22) w_8) ∧
 (∀ (S_4 : Nat → Bool) (vs_4 : Nat → Value) (w_9 : World), Inv S_4 vs_4 w_9 → Cl S_4 → S_4 4 = false → (∀ j, j ∈ ([] : List Nat) → S_4 j = true) →
 Inv (inc S_4 4) (setV vs_4 4 (.slice b bn bc)) w_9) ∧
 (∀ (S_5 : Nat → Bool) (vs_5 : Nat → Value) (w_10 : World), Inv S_5 vs_5 w_10 → Cl S_5 → S_5 5 = false → (∀ j, j ∈ ([] : List Nat) → S_5 j = true) →
 Inv (inc S_5 5) (setV vs_5 5 x5) w_10) ∧
 (∀ (S_6 : Nat → Bool) (vs_6 : Nat → Value) (w_11 : World), Inv S_6 vs_6 w_11 → Cl S_6 → S_6 6 = false → (∀ j, j ∈ ([4, 5] : List Nat) → S_6 j = true) →
 kIa (cN Tryd.prog) w_11 22 (vs_6 4) (vs_6 5) fun v25 w_12 =>
 Inv (inc S_6 6) (setV vs_6 6 v25) w_12) ∧
 (∀ (S_7 : Nat → Bool) (vs_7 : Nat → Value) (w_13 : World), Inv S_7 vs_7 w_13 → Cl S_7 → S_7 7 = false → (∀ j, j ∈ ([6] : List Nat) → S_7 j = true) →
 kLoad (cN Tryd.prog) w_13 41 (vs_7 6) fun v26 w_14 =>
 Inv (inc S_7 7) (setV vs_7 7 v26) w_14) ∧
 (∀ (S_8 : Nat → Bool) (vs_8 : Nat → Value) (w_15 : World), Inv S_8 vs_8 w_15 → Cl S_8 → S_8 8 = false → (∀ j, j ∈ ([3, 7] : List Nat) → S_8 j = true) →
 kCall (cN Tryd.prog) w_15 44 #[(vs_8 3), (vs_8 7)] fun v27 w_16 =>
 Inv (inc S_8 8) (setV vs_8 8 v27) w_16) ∧
 True) (fun vs_9 w_17 =>
 kEq (cR Tryd.prog R) w_17 .neq 3 (.tmp 28) (.const (.int .i64 0)) (vs_9 8) (.int .i64 0) fun v29 w_18 =>
 kIf v29 (
 R (.returned (vs_9 8)) w_18) (
 kBin (cR Tryd.prog R) w_18 .add 3 x5 (.int .i64 1) fun v18 w_19 =>
 kD [] [] (N [v18] w_19)))))) (cs.getD 0 undef)
theorem c26 (a : Option Addr) (an : Nat) (ac : Nat) (b : Option Addr) (bn : Nat) (bc : Nat) (R : Ending → World → Prop) (w : World) (h : vc26 a an ac b bn bc R w) : Calls Tryd.prog 26 #[(.slice a an ac), (.slice b bn bc)] w R :=
  calls_of_vc (A := { loops := [(1000004, []), (0, [5])], pars := [4] }) (Eq.mpr (show FnVc Tryd.prog { loops := [(1000004, []), (0, [5])], pars := [4] } 41 26 [(.slice a an ac), (.slice b bn bc)] R w = vc26 a an ac b bn bc R w by kernel_rfl) h)

/-- loupe/key.ordered[loupe/api.Value] -/
def vc27 (a : Option Addr) (an : Nat) (ac : Nat) (b : Option Addr) (bn : Nat) (bc : Nat) (byA : Value) (R : Ending → World → Prop) (w : World) : Prop :=
 kCall (cR Tryd.prog R) w 45 #[(.slice a an ac), (.slice b bn bc), byA] fun v10 w_1 =>
 R (.returned v10) w_1
theorem c27 (a : Option Addr) (an : Nat) (ac : Nat) (b : Option Addr) (bn : Nat) (bc : Nat) (byA : Value) (R : Ending → World → Prop) (w : World) (h : vc27 a an ac b bn bc byA R w) : Calls Tryd.prog 27 #[(.slice a an ac), (.slice b bn bc), byA] w R :=
  calls_of_vc (A := { loops := [], pars := [] }) (Eq.mpr (show FnVc Tryd.prog { loops := [], pars := [] } 11 27 [(.slice a an ac), (.slice b bn bc), byA] R w = vc27 a an ac b bn bc byA R w by kernel_rfl) h)

/-- loupe/value.Order -/
def vc28 (a0 : Int) (a1 : Int) (a2 : ByteArray) (b0 : Int) (b1 : Int) (b2 : ByteArray) (R : Ending → World → Prop) (w : World) : Prop :=
 kBox (cR Tryd.prog R) w 41 (.agg #[(.int .i64 a0), (.int .i64 a1), (.string a2)]) fun v2 w_1 =>
 kBox (cR Tryd.prog R) w_1 41 (.agg #[(.int .i64 b0), (.int .i64 b1), (.string b2)]) fun v3 w_2 =>
 kDrawn true (
 kDrawn true (
 kFa (cQ Tryd.prog) w_2 41 v2 0 fun v5 w_3 =>
 kLoad (cQ Tryd.prog) w_3 39 v5 fun v6 w_4 =>
 kFa (cQ Tryd.prog) w_4 41 v3 0 fun v7 w_5 =>
 kLoad (cQ Tryd.prog) w_5 39 v7 fun v8 w_6 =>
 kFa (cQ Tryd.prog) w_6 41 v2 1 fun v10 w_7 =>
 kLoad (cQ Tryd.prog) w_7 2 v10 fun v11 w_8 =>
 kFa (cQ Tryd.prog) w_8 41 v3 1 fun v12 w_9 =>
 kLoad (cQ Tryd.prog) w_9 2 v12 fun v13 w_10 =>
 kFa (cQ Tryd.prog) w_10 41 v2 2 fun v15 w_11 =>
 kLoad (cQ Tryd.prog) w_11 9 v15 fun v16 w_12 =>
 kFa (cQ Tryd.prog) w_12 41 v3 2 fun v17 w_13 =>
 kLoad (cQ Tryd.prog) w_13 9 v17 fun v18 w_14 =>
 kDrew w_14 fun w_15 =>
 (fun (c : Cx) =>
 kCall c w_15 47 #[v6, v8] fun v9 w_16 =>
 kFa (cQ Tryd.prog) w_16 41 v2 1 fun v10_1 w_17 =>
 kSame v10_1 v10 (
 kLoad (cQ Tryd.prog) w_16 2 v10 fun v11_1 w_18 =>
 kSame v11_1 v11 (
 kFa (cQ Tryd.prog) w_16 41 v3 1 fun v12_1 w_19 =>
 kSame v12_1 v12 (
 kLoad (cQ Tryd.prog) w_16 2 v12 fun v13_1 w_20 =>
 kSame v13_1 v13 (
 kFa (cQ Tryd.prog) w_16 41 v2 2 fun v15_1 w_21 =>
 kSame v15_1 v15 (
 kLoad (cQ Tryd.prog) w_16 9 v15 fun v16_1 w_22 =>
 kSame v16_1 v16 (
 kFa (cQ Tryd.prog) w_16 41 v3 2 fun v17_1 w_23 =>
 kSame v17_1 v17 (
 kLoad (cQ Tryd.prog) w_16 9 v17 fun v18_1 w_24 =>
 kSame v18_1 v18 (
 kDrew w_16 fun w_25 =>
 kCall c w_25 48 #[v11, v13] fun v14 w_26 =>
 kFa (cQ Tryd.prog) w_26 41 v2 2 fun v15_2 w_27 =>
 kSame v15_2 v15 (
 kLoad (cQ Tryd.prog) w_26 9 v15 fun v16_2 w_28 =>
 kSame v16_2 v16 (
 kFa (cQ Tryd.prog) w_26 41 v3 2 fun v17_2 w_29 =>
 kSame v17_2 v17 (
 kLoad (cQ Tryd.prog) w_26 9 v17 fun v18_2 w_30 =>
 kSame v18_2 v18 (
 kDrew w_26 fun w_31 =>
 kCall c w_31 49 #[v16, v18] fun v19 w_32 =>
 kDrew w_32 fun w_33 =>
 kBuildS c w_33 48 3 #[(0, v9), (1, v14), (2, v19)] fun v20 w_34 =>
 kDrew w_34 fun w_35 =>
 kCall c w_35 46 #[v20] fun v21 w_36 =>
 kDrew w_36 fun w_37 =>
 R (.returned v21) w_37))))))))))))) ⟨Tryd.prog, fun ch w => ∀ _ : List Value, R (.panicked ch) w, false⟩))
theorem c28 (a0 : Int) (a1 : Int) (a2 : ByteArray) (b0 : Int) (b1 : Int) (b2 : ByteArray) (R : Ending → World → Prop) (w : World) (h : vc28 a0 a1 a2 b0 b1 b2 R w) : Calls Tryd.prog 28 #[(.agg #[(.int .i64 a0), (.int .i64 a1), (.string a2)]), (.agg #[(.int .i64 b0), (.int .i64 b1), (.string b2)])] w R :=
  calls_of_vc (A := { loops := [], pars := [], chs := [(1, (.q 0 (.q 1 (.q 2 (.q 3 (.q 5 (.q 6 (.q 7 (.q 8 (.q 10 (.q 11 (.q 12 (.q 13 (.e 4 (.e 9 (.e 14 (.e 15 (.e 16 .done))))))))))))))))))] }) (Eq.mpr (show FnVc Tryd.prog { loops := [], pars := [], chs := [(1, (.q 0 (.q 1 (.q 2 (.q 3 (.q 5 (.q 6 (.q 7 (.q 8 (.q 10 (.q 11 (.q 12 (.q 13 (.e 4 (.e 9 (.e 14 (.e 15 (.e 16 .done))))))))))))))))))] } 22 28 [(.agg #[(.int .i64 a0), (.int .i64 a1), (.string a2)]), (.agg #[(.int .i64 b0), (.int .i64 b1), (.string b2)])] R w = vc28 a0 a1 a2 b0 b1 b2 R w by kernel_rfl) h)

/-- loupe/key.Decode$1 -/
def vc29 (f0 : Value) (R : Ending → World → Prop) (w : World) : Prop :=
 kStore (cR Tryd.prog R) w 22 f0 (.slice none 0 0) fun w_1 =>
 R (.returned (.tuple #[])) w_1
theorem c29 (f0 : Value) (R : Ending → World → Prop) (w : World) (h : vc29 f0 R w) : Calls Tryd.prog 29 #[f0] w R :=
  calls_of_vc (A := { loops := [], pars := [] }) (Eq.mpr (show FnVc Tryd.prog { loops := [], pars := [] } 1 29 [f0] R w = vc29 f0 R w by kernel_rfl) h)

/-- (*loupe/key.reader).value -/
def vc30 (r : Value) (R : Ending → World → Prop) (w : World) : Prop :=
 kAlloc (cR Tryd.prog R) w 41 fun v2 w_1 =>
 kNil (cR Tryd.prog R) w_1 r fun v8 w_2 =>
 kFa (cR Tryd.prog R) w_2 64 v8 0 fun v9 w_3 =>
 kCall (cR Tryd.prog R) w_3 50 #[v9, (.int .i64 1)] fun v10 w_4 =>
 kIa (cR Tryd.prog R) w_4 25 v10 (.int .i64 0) fun v11 w_5 =>
 kLoad (cR Tryd.prog R) w_5 5 v11 fun v12 w_6 =>
 kConv (cR Tryd.prog R) w_6 5 39 v12 fun v13 w_7 =>
 kFa (cR Tryd.prog R) w_7 41 v2 0 fun v14 w_8 =>
 kStore (cR Tryd.prog R) w_8 39 v14 v13 fun w_9 =>
 kFa (cR Tryd.prog R) w_9 41 v2 0 fun v15 w_10 =>
 kLoad (cR Tryd.prog R) w_10 39 v15 fun v16 w_11 =>
 kEq (cR Tryd.prog R) w_11 .eql 39 (.tmp 16) (.const (.int .i64 0)) v16 (.int .i64 0) fun v19 w_12 =>
 kIf v19 (
 kLoad (cR Tryd.prog R) w_12 41 v2 fun v61 w_13 =>
 kStore (cR Tryd.prog R) w_13 41 v2 v61 fun w_14 =>
 RetK Tryd.prog [.cell v2 41] R w_14) (
 kEq (cR Tryd.prog R) w_12 .eql 39 (.tmp 16) (.const (.int .i64 1)) v16 (.int .i64 1) fun v21 w_15 =>
 kIf v21 (
 kNil (cR Tryd.prog R) w_15 r fun v23 w_16 =>
 kFa (cR Tryd.prog R) w_16 64 v23 0 fun v24 w_17 =>
 kCall (cR Tryd.prog R) w_17 50 #[v24, (.int .i64 1)] fun v25 w_18 =>
 kIa (cR Tryd.prog R) w_18 25 v25 (.int .i64 0) fun v26 w_19 =>
 kLoad (cR Tryd.prog R) w_19 5 v26 fun v27 w_20 =>
 kBin (cR Tryd.prog R) w_20 .leq 5 v27 (.int .u8 1) fun v29 w_21 =>
 kCall (cR Tryd.prog R) w_21 31 #[v29, (.int .i64 200)] fun v30 w_22 =>
 kConv (cR Tryd.prog R) w_22 5 2 v27 fun v32 w_23 =>
 kFa (cR Tryd.prog R) w_23 41 v2 1 fun v33 w_24 =>
 kStore (cR Tryd.prog R) w_24 2 v33 v32 fun w_25 =>
 kLoad (cR Tryd.prog R) w_25 41 v2 fun v61_1 w_26 =>
 kStore (cR Tryd.prog R) w_26 41 v2 v61_1 fun w_27 =>
 RetK Tryd.prog [.cell v2 41] R w_27) (
 kEq (cR Tryd.prog R) w_15 .eql 39 (.tmp 16) (.const (.int .i64 2)) v16 (.int .i64 2) fun v35 w_28 =>
 kIf v35 (
 kNil (cR Tryd.prog R) w_28 r fun v37 w_29 =>
 kFa (cR Tryd.prog R) w_29 64 v37 0 fun v38 w_30 =>
 kCall (cR Tryd.prog R) w_30 50 #[v38, (.int .i64 8)] fun v39 w_31 =>
 kBlt (cR Tryd.prog R) w_31 .len #[25] 3 #[false] #[v39] fun v40 w_32 =>
 kLoopF [(.int .u64 0), (.int .i64 0)] w_32 fun cs ds w_33 N =>
 (fun x4 x41 =>
 kBin (cR Tryd.prog R) w_33 .lss 3 x41 v40 fun v42 w_34 =>
 kIf v42 (
 kIa (cR Tryd.prog R) w_34 25 v39 x41 fun v43 w_35 =>
 kLoad (cR Tryd.prog R) w_35 5 v43 fun v44 w_36 =>
 kBin (cR Tryd.prog R) w_36 .shl 71 x4 (.int .u64 8) fun v46 w_37 =>
 kConv (cR Tryd.prog R) w_37 5 71 v44 fun v48 w_38 =>
 kBin (cR Tryd.prog R) w_38 .or 71 v46 v48 fun v49 w_39 =>
 kBin (cR Tryd.prog R) w_39 .add 3 x41 (.int .i64 1) fun v50 w_40 =>
 kD [] [] (N [v49, v50] w_40)) (
 kBin (cR Tryd.prog R) w_34 .xor 71 x4 (.int .u64 9223372036854775808) fun v52 w_41 =>
 kConv (cR Tryd.prog R) w_41 71 2 v52 fun v53 w_42 =>
 kFa (cR Tryd.prog R) w_42 41 v2 1 fun v54 w_43 =>
 kStore (cR Tryd.prog R) w_43 2 v54 v53 fun w_44 =>
 kLoad (cR Tryd.prog R) w_44 41 v2 fun v61_2 w_45 =>
 kStore (cR Tryd.prog R) w_45 41 v2 v61_2 fun w_46 =>
 RetK Tryd.prog [.cell v2 41] R w_46)) (cs.getD 0 undef) (cs.getD 1 undef)) (
 kJn (fun J =>
 kEq (cR Tryd.prog R) w_28 .eql 39 (.tmp 16) (.const (.int .i64 3)) v16 (.int .i64 3) fun v56 w_54 =>
 kIf v56 (
 kD [] [] (J [v56] w_54)) (
 kEq (cR Tryd.prog R) w_54 .eql 39 (.tmp 16) (.const (.int .i64 4)) v16 (.int .i64 4) fun v57 w_55 =>
 kD [] [] (J [v57] w_55))) (fun cs_1 w_47 => ∀ ds_1 : List Value,
 (fun j55 =>
 kIf j55 (
 kCall (cR Tryd.prog R) w_47 51 #[r] fun v59 w_48 =>
 kFa (cR Tryd.prog R) w_48 41 v2 2 fun v60 w_49 =>
 kStore (cR Tryd.prog R) w_49 9 v60 v59 fun w_50 =>
 kLoad (cR Tryd.prog R) w_50 41 v2 fun v61_3 w_51 =>
 kStore (cR Tryd.prog R) w_51 41 v2 v61_3 fun w_52 =>
 RetK Tryd.prog [.cell v2 41] R w_52) (
 kMkI (cR Tryd.prog R) w_47 26 (.int .i64 200) fun v17 w_53 =>
 kPanic (cR Tryd.prog R) w_53 v17)) (cs_1.getD 0 undef)))))
theorem c30 (r : Value) (R : Ending → World → Prop) (w : World) (h : vc30 r R w) : Calls Tryd.prog 30 #[r] w R :=
  calls_of_vc (A := { loops := [(1, [4, 41]), (1000019, [55])], pars := [] }) (Eq.mpr (show FnVc Tryd.prog { loops := [(1, [4, 41]), (1000019, [55])], pars := [] } 62 30 [r] R w = vc30 r R w by kernel_rfl) h)

/-- loupe/key.must -/
def vc31 (fine : Bool) (eA : Int) (R : Ending → World → Prop) (w : World) : Prop :=
 kUn (cR Tryd.prog R) w .not (.bool fine) fun v5 w_1 =>
 kIf v5 (
 kMkI (cR Tryd.prog R) w_1 26 (.int .i64 eA) fun v7 w_2 =>
 kPanic (cR Tryd.prog R) w_2 v7) (
 R (.returned (.tuple #[])) w_1)
theorem c31 (fine : Bool) (eA : Int) (R : Ending → World → Prop) (w : World) (h : vc31 fine eA R w) : Calls Tryd.prog 31 #[(.bool fine), (.int .i64 eA)] w R :=
  calls_of_vc (A := { loops := [], pars := [] }) (Eq.mpr (show FnVc Tryd.prog { loops := [], pars := [] } 8 31 [(.bool fine), (.int .i64 eA)] R w = vc31 fine eA R w by kernel_rfl) h)

/-- slices.Clone[[]byte,byte] -/
def vc32 (s : Option Addr) (sn : Nat) (sc : Nat) (R : Ending → World → Prop) (w : World) : Prop :=
 kEq (cR Tryd.prog R) w .eql 25 (.tmp 3) (.const (.slice none 0 0)) (.slice s sn sc) (.slice none 0 0) fun v4 w_1 =>
 kIf v4 (
 R (.returned (.slice none 0 0)) w_1) (
 kBuildS (cR Tryd.prog R) w_1 25 0 #[] fun v5 w_2 =>
 kBlt (cR Tryd.prog R) w_2 .append #[25, 25] 25 #[false, false] #[v5, (.slice s sn sc)] fun v7 w_3 =>
 R (.returned v7) w_3)
theorem c32 (s : Option Addr) (sn : Nat) (sc : Nat) (R : Ending → World → Prop) (w : World) (h : vc32 s sn sc R w) : Calls Tryd.prog 32 #[(.slice s sn sc)] w R :=
  calls_of_vc (A := { loops := [], pars := [] }) (Eq.mpr (show FnVc Tryd.prog { loops := [], pars := [] } 8 32 [(.slice s sn sc)] R w = vc32 s sn sc R w by kernel_rfl) h)

/-- loupe/key.Each$1 -/
def vc33 (yield : Value) (f0 : Value) (R : Ending → World → Prop) (w : World) : Prop :=
 kLoad (cR Tryd.prog R) w 25 f0 fun v7 w_1 =>
 kBuild (cR Tryd.prog R) w_1 62 #[(0, v7)] fun v8 w_2 =>
 kBuild (cR Tryd.prog R) w_2 64 #[(0, v8)] fun v9 w_3 =>
 kBox (cR Tryd.prog R) w_3 64 v9 fun v10 w_4 =>
 kLoopF [] w_4 fun cs ds w_5 N =>
 kNil (cR Tryd.prog R) w_5 v10 fun v12 w_6 =>
 kFa (cR Tryd.prog R) w_6 64 v12 0 fun v13 w_7 =>
 kFa (cR Tryd.prog R) w_7 62 v13 0 fun v14 w_8 =>
 kLoad (cR Tryd.prog R) w_8 25 v14 fun v15 w_9 =>
 kBlt (cR Tryd.prog R) w_9 .len #[25] 3 #[false] #[v15] fun v16 w_10 =>
 kBin (cR Tryd.prog R) w_10 .gtr 3 v16 (.int .i64 0) fun v17 w_11 =>
 kIf v17 (
 kDrawn true (
 kLoad (cQ Tryd.prog) w_11 25 f0 fun v18 w_12 =>
 kBlt (cQ Tryd.prog) w_12 .len #[25] 3 #[false] #[v18] fun v19 w_13 =>
 kNil (cQ Tryd.prog) w_13 v10 fun v21 w_14 =>
 kFa (cQ Tryd.prog) w_14 64 v21 0 fun v22 w_15 =>
 kFa (cQ Tryd.prog) w_15 62 v22 0 fun v23 w_16 =>
 kLoad (cQ Tryd.prog) w_16 25 v23 fun v24 w_17 =>
 kBlt (cQ Tryd.prog) w_17 .len #[25] 3 #[false] #[v24] fun v25 w_18 =>
 kBin (cQ Tryd.prog) w_18 .sub 3 v19 v25 fun v26 w_19 =>
 kDrew w_11 fun w_20 =>
 kCall (cR Tryd.prog R) w_20 34 #[v10] fun v29 w_21 =>
 kExt v29 0 fun v30 =>
 kExt v29 1 fun v31 =>
 kAlloc (cR Tryd.prog R) w_21 41 fun v5 w_22 =>
 kStore (cR Tryd.prog R) w_22 41 v5 v30 fun w_23 =>
 kEq (cR Tryd.prog R) w_23 .neq 26 (.tmp 32) (.const (.int .i64 0)) v31 (.int .i64 0) fun v33 w_24 =>
 kIf v33 (
 kIf (.bool true) (
 R (.returned (.tuple #[])) w_24) (
 kD [] [] (N [] w_24))) (
 kLoad (cR Tryd.prog R) w_24 41 v5 fun v37 w_25 =>
 kCallV (cR Tryd.prog R) w_25 yield #[v26, v37] fun v38 w_26 =>
 kUn (cR Tryd.prog R) w_26 .not v38 fun v39 w_27 =>
 kIf v39 (
 R (.returned (.tuple #[])) w_27) (
 kD [] [] (N [] w_27))))) (
 R (.returned (.tuple #[])) w_11)
theorem c33 (yield : Value) (f0 : Value) (R : Ending → World → Prop) (w : World) (h : vc33 yield f0 R w) : Calls Tryd.prog 33 #[yield, f0] w R :=
  calls_of_vc (A := { loops := [(0, [])], pars := [] }) (Eq.mpr (show FnVc Tryd.prog { loops := [(0, [])], pars := [] } 41 33 [yield, f0] R w = vc33 yield f0 R w by kernel_rfl) h)

/-- (*loupe/key.reader).next -/
def vc34 (r : Value) (R : Ending → World → Prop) (w : World) : Prop :=
 kAlloc (cR Tryd.prog R) w 41 fun v2 w_1 =>
 kAlloc (cR Tryd.prog R) w_1 26 fun v3 w_2 =>
 (fun (c : Cx) =>
 kCall c w_2 30 #[r] fun v6 w_3 =>
 kStore c w_3 41 v2 v6 fun w_4 =>
 kStore c w_4 26 v3 (.int .i64 0) fun w_5 =>
 Lv Tryd.prog [.cell v2 41, .cell v3 26] R [{ target := .fn (.func 22) #[], args := #[v3, (.func (.func 52) #[] #[v2])] }] .returning w_5) ⟨Tryd.prog, fun ch w => Lv Tryd.prog [.cell v2 41, .cell v3 26] R [{ target := .fn (.func 22) #[], args := #[v3, (.func (.func 52) #[] #[v2])] }] (.panicking ch) w, false⟩
theorem c34 (r : Value) (R : Ending → World → Prop) (w : World) (h : vc34 r R w) : Calls Tryd.prog 34 #[r] w R :=
  calls_of_vc (A := { loops := [], pars := [] }) (Eq.mpr (show FnVc Tryd.prog { loops := [], pars := [] } 7 34 [r] R w = vc34 r R w by kernel_rfl) h)

/-- loupe/code.Text -/
def vc35 (l : Option Addr) (ln : Nat) (lc : Nat) (R : Ending → World → Prop) (w : World) : Prop :=
 kCall (cR Tryd.prog R) w 19 #[(.slice l ln lc)] fun v17 w_1 =>
 kEq (cR Tryd.prog R) w_1 .neq 26 (.tmp 18) (.const (.int .i64 0)) v17 (.int .i64 0) fun v19 w_2 =>
 kIf v19 (
 R (.returned (.tuple #[(.string ⟨#[]⟩), v17])) w_2) (
 kAlloc (cR Tryd.prog R) w_2 109 fun v5 w_3 =>
 kCall (cR Tryd.prog R) w_3 38 #[] fun v21 w_4 =>
 kBlt (cR Tryd.prog R) w_4 .len #[45] 3 #[false] #[(.slice l ln lc)] fun v23 w_5 =>
 kLoopF [(.int .i64 0)] w_5 fun cs ds w_6 N =>
 (fun x24 =>
 kBin (cR Tryd.prog R) w_6 .lss 3 x24 v23 fun v25 w_7 =>
 kIf v25 (
 kIa (cR Tryd.prog R) w_7 45 (.slice l ln lc) x24 fun v27 w_8 =>
 kLoad (cR Tryd.prog R) w_8 50 v27 fun v28 w_9 =>
 kAlloc (cR Tryd.prog R) w_9 50 fun v8 w_10 =>
 kStore (cR Tryd.prog R) w_10 50 v8 v28 fun w_11 =>
 kDrawn true (
 kDrawn true (
 kFa (cQ Tryd.prog) w_11 50 v8 0 fun v32 w_12 =>
 kLoad (cQ Tryd.prog) w_12 46 v32 fun v33 w_13 =>
 kLook (cQ Tryd.prog) w_13 79 v21 v33 false fun v34 w_14 =>
 kFd (cQ Tryd.prog) w_14 84 v34 0 fun v35 w_15 =>
 kDrew w_15 fun w_16 =>
 (fun (c : Cx) =>
 kCall c w_16 53 #[x24] fun v30 w_17 =>
 kFa (cQ Tryd.prog) w_17 50 v8 0 fun v32_1 w_18 =>
 kSame v32_1 v32 (
 kLoad (cQ Tryd.prog) w_17 46 v32 fun v33_1 w_19 =>
 kSame v33_1 v33 (
 kLook (cQ Tryd.prog) w_17 79 v21 v33 false fun v34_1 w_20 =>
 kSame v34_1 v34 (
 kFd (cQ Tryd.prog) w_17 84 v34 0 fun v35_1 w_21 =>
 kSame v35_1 v35 (
 kDrew w_17 fun w_22 =>
 kBuildS c w_22 111 2 #[(0, v30), (1, v35)] fun v36 w_23 =>
 kDrew w_23 fun w_24 =>
 kFa (cR Tryd.prog R) w_24 50 v8 0 fun v38 w_25 =>
 kLoad (cR Tryd.prog R) w_25 46 v38 fun v39 w_26 =>
 kLook (cR Tryd.prog R) w_26 79 v21 v39 false fun v40 w_27 =>
 kFd (cR Tryd.prog R) w_27 84 v40 1 fun v41 w_28 =>
 kBlt (cR Tryd.prog R) w_28 .len #[81] 3 #[false] #[v41] fun v42 w_29 =>
 kLoopF [v36, (.int .i64 0)] w_29 fun cs_1 ds_1 w_30 N_1 =>
 (fun x9 x43 =>
 kBin (cR Tryd.prog R) w_30 .lss 3 x43 v42 fun v44 w_31 =>
 kIf v44 (
 kIa (cR Tryd.prog R) w_31 81 v41 x43 fun v45 w_32 =>
 kLoad (cR Tryd.prog R) w_32 89 v45 fun v46 w_33 =>
 kAlloc (cR Tryd.prog R) w_33 89 fun v11 w_34 =>
 kStore (cR Tryd.prog R) w_34 89 v11 v46 fun w_35 =>
 kFa (cR Tryd.prog R) w_35 89 v11 0 fun v48 w_36 =>
 kLoad (cR Tryd.prog R) w_36 87 v48 fun v49 w_37 =>
 kCallV (cR Tryd.prog R) w_37 v49 #[v8] fun v50 w_38 =>
 kNil (cR Tryd.prog R) w_38 v50 fun v51 w_39 =>
 kLoad (cR Tryd.prog R) w_39 3 v51 fun v52 w_40 =>
 kCall (cR Tryd.prog R) w_40 53 #[v52] fun v53 w_41 =>
 kBuildS (cR Tryd.prog R) w_41 111 1 #[(0, v53)] fun v54 w_42 =>
 kBlt (cR Tryd.prog R) w_42 .append #[111, 111] 111 #[false, false] #[x9, v54] fun v55 w_43 =>
 kBin (cR Tryd.prog R) w_43 .add 3 x43 (.int .i64 1) fun v56 w_44 =>
 kD [] [] (N_1 [v55, v56] w_44)) (
 kJn (fun J =>
 kFa (cR Tryd.prog R) w_31 50 v8 4 fun v58 w_71 =>
 kLoad (cR Tryd.prog R) w_71 47 v58 fun v59 w_72 =>
 kCall (cR Tryd.prog R) w_72 54 #[v59] fun v60 w_73 =>
 kExt v60 0 fun v61 =>
 kExt v60 1 fun v62 =>
 kAlloc (cR Tryd.prog R) w_73 114 fun v12 w_74 =>
 kStore (cR Tryd.prog R) w_74 114 v12 v61 fun w_75 =>
 kIf v62 (
 kFa (cR Tryd.prog R) w_75 114 v12 0 fun v65 w_76 =>
 kLoad (cR Tryd.prog R) w_76 9 v65 fun v66 w_77 =>
 kBuildS (cR Tryd.prog R) w_77 111 1 #[(0, v66)] fun v67 w_78 =>
 kBlt (cR Tryd.prog R) w_78 .append #[111, 111] 111 #[false, false] #[x9, v67] fun v68 w_79 =>
 kD [] [] (J [v68] w_79)) (
 kD [] [] (J [x9] w_75))) (fun cs_2 w_45 => ∀ ds_2 : List Value,
 (fun j9 =>
 kJn (fun J_1 =>
 kFa (cR Tryd.prog R) w_45 50 v8 0 fun v69 w_63 =>
 kLoad (cR Tryd.prog R) w_63 46 v69 fun v70 w_64 =>
 kEq (cR Tryd.prog R) w_64 .eql 46 (.tmp 70) (.const (.int .i64 2)) v70 (.int .i64 2) fun v71 w_65 =>
 kIf v71 (
 kFa (cR Tryd.prog R) w_65 50 v8 5 fun v73 w_66 =>
 kLoad (cR Tryd.prog R) w_66 41 v73 fun v74 w_67 =>
 kCall (cR Tryd.prog R) w_67 55 #[v74] fun v75 w_68 =>
 kExt v75 0 fun v76 =>
 kExt v75 1 fun v77 =>
 kBuildS (cR Tryd.prog R) w_68 111 1 #[(0, v76)] fun v80 w_69 =>
 kBlt (cR Tryd.prog R) w_69 .append #[111, 111] 111 #[false, false] #[j9, v80] fun v81 w_70 =>
 kD [] [] (J_1 [v81] w_70)) (
 kD [] [] (J_1 [j9] w_65))) (fun cs_3 w_46 => ∀ ds_3 : List Value,
 (fun j9_1 =>
 kJn (fun J_2 =>
 kFa (cR Tryd.prog R) w_46 50 v8 6 fun v82 w_56 =>
 kLoad (cR Tryd.prog R) w_56 9 v82 fun v83 w_57 =>
 kEq (cR Tryd.prog R) w_57 .neq 9 (.tmp 83) (.const (.string ⟨#[]⟩)) v83 (.string ⟨#[]⟩) fun v84 w_58 =>
 kIf v84 (
 kFa (cR Tryd.prog R) w_58 50 v8 6 fun v86 w_59 =>
 kLoad (cR Tryd.prog R) w_59 9 v86 fun v87 w_60 =>
 kBuildS (cR Tryd.prog R) w_60 111 1 #[(0, v87)] fun v88 w_61 =>
 kBlt (cR Tryd.prog R) w_61 .append #[111, 111] 111 #[false, false] #[j9_1, v88] fun v89 w_62 =>
 kD [] [] (J_2 [v89] w_62)) (
 kD [] [] (J_2 [j9_1] w_58))) (fun cs_4 w_47 => ∀ ds_4 : List Value,
 (fun j9_2 =>
 kFa (cR Tryd.prog R) w_47 50 v8 7 fun v91 w_48 =>
 kLoad (cR Tryd.prog R) w_48 48 v91 fun v92 w_49 =>
 kCall (cR Tryd.prog R) w_49 58 #[v92, (.func (.func 53) #[] #[])] fun v93 w_50 =>
 kBlt (cR Tryd.prog R) w_50 .append #[111, 111] 111 #[false, false] #[j9_2, v93] fun v94 w_51 =>
 kCall (cR Tryd.prog R) w_51 57 #[v94, (.string ⟨#[32]⟩)] fun v95 w_52 =>
 kBin (cR Tryd.prog R) w_52 .add 9 v95 (.string ⟨#[10]⟩) fun v96 w_53 =>
 kCall (cR Tryd.prog R) w_53 56 #[v5, v96] fun v97 w_54 =>
 kBin (cR Tryd.prog R) w_54 .add 3 x24 (.int .i64 1) fun v98 w_55 =>
 kD [] [] (N [v98] w_55)) (cs_4.getD 0 undef))) (cs_3.getD 0 undef))) (cs_2.getD 0 undef)))) (cs_1.getD 0 undef) (cs_1.getD 1 undef)))))) ⟨Tryd.prog, fun ch w => ∀ _ : List Value, R (.panicked ch) w, false⟩))) (
 kCall (cR Tryd.prog R) w_7 59 #[v5] fun v99 w_80 =>
 R (.returned (.tuple #[v99, (.int .i64 0)])) w_80)) (cs.getD 0 undef))
theorem c35 (l : Option Addr) (ln : Nat) (lc : Nat) (R : Ending → World → Prop) (w : World) (h : vc35 l ln lc R w) : Calls Tryd.prog 35 #[(.slice l ln lc)] w R :=
  calls_of_vc (A := { loops := [(1000023, [9]), (1000021, [9]), (1000018, [9]), (2, [9, 43]), (0, [24])], pars := [], chs := [(9, (.q 0 (.q 2 (.q 3 (.q 4 (.q 5 (.q 6 (.e 1 (.e 7 .done)))))))))] }) (Eq.mpr (show FnVc Tryd.prog { loops := [(1000023, [9]), (1000021, [9]), (1000018, [9]), (2, [9, 43]), (0, [24])], pars := [], chs := [(9, (.q 0 (.q 2 (.q 3 (.q 4 (.q 5 (.q 6 (.e 1 (.e 7 .done)))))))))] } 100 35 [(.slice l ln lc)] R w = vc35 l ln lc R w by kernel_rfl) h)

/-- loupe/loupelaw29.row -/
def vc36  (R : Ending → World → Prop) (w : World) : Prop :=
 kBuild (cR Tryd.prog R) w 41 #[(0, (.int .i64 2)), (1, (.int .i64 5))] fun v1 w_1 =>
 kBuild (cR Tryd.prog R) w_1 50 #[(0, (.int .i64 2)), (1, (.int .i64 3)), (5, v1)] fun v2 w_2 =>
 kBuild (cR Tryd.prog R) w_2 50 #[(0, (.int .i64 9)), (1, (.int .i64 3))] fun v3 w_3 =>
 kBuildS (cR Tryd.prog R) w_3 48 2 #[(0, (.int .i64 3)), (1, (.int .i64 3))] fun v4 w_4 =>
 kBuild (cR Tryd.prog R) w_4 50 #[(0, (.int .i64 3)), (1, (.int .i64 4)), (4, (.int .i64 1)), (7, v4)] fun v5 w_5 =>
 kBuild (cR Tryd.prog R) w_5 50 #[(0, (.int .i64 1))] fun v6 w_6 =>
 kBuildS (cR Tryd.prog R) w_6 45 4 #[(0, v2), (1, v3), (2, v5), (3, v6)] fun v7 w_7 =>
 R (.returned v7) w_7
theorem c36  (R : Ending → World → Prop) (w : World) (h : vc36  R w) : Calls Tryd.prog 36 #[] w R :=
  calls_of_vc (A := { loops := [], pars := [] }) (Eq.mpr (show FnVc Tryd.prog { loops := [], pars := [] } 8 36 [] R w = vc36  R w by kernel_rfl) h)

/-- loupe/code.Targets -/
def vc37 (l : Option Addr) (ln : Nat) (lc : Nat) (R : Ending → World → Prop) (w : World) : Prop :=
 kBox (cR Tryd.prog R) w 45 (.slice l ln lc) fun v1 w_1 =>
 kCall (cR Tryd.prog R) w_1 38 #[] fun v5 w_2 =>
 kAlloc (cR Tryd.prog R) w_2 79 fun v3 w_3 =>
 kStore (cR Tryd.prog R) w_3 79 v3 v5 fun w_4 =>
 kLoad (cR Tryd.prog R) w_4 45 v1 fun v6 w_5 =>
 kCall (cR Tryd.prog R) w_5 19 #[v6] fun v7 w_6 =>
 kEq (cR Tryd.prog R) w_6 .eql 26 (.tmp 7) (.const (.int .i64 0)) v7 (.int .i64 0) fun v8 w_7 =>
 kAlloc (cR Tryd.prog R) w_7 4 fun v4 w_8 =>
 kStore (cR Tryd.prog R) w_8 4 v4 v8 fun w_9 =>
 kLoad (cR Tryd.prog R) w_9 45 v1 fun v9 w_10 =>
 kCall (cR Tryd.prog R) w_10 60 #[v9] fun v10 w_11 =>
 kStore (cR Tryd.prog R) w_11 45 v1 v10 fun w_12 =>
 R (.returned (.func (.func 61) #[] #[v1, v3, v4])) w_12
theorem c37 (l : Option Addr) (ln : Nat) (lc : Nat) (R : Ending → World → Prop) (w : World) (h : vc37 l ln lc R w) : Calls Tryd.prog 37 #[(.slice l ln lc)] w R :=
  calls_of_vc (A := { loops := [], pars := [] }) (Eq.mpr (show FnVc Tryd.prog { loops := [], pars := [] } 12 37 [(.slice l ln lc)] R w = vc37 l ln lc R w by kernel_rfl) h)

/-- loupe/code.kinds -/
def vc38  (R : Ending → World → Prop) (w : World) : Prop :=
 kMkMap (cR Tryd.prog R) w 79 none fun v10 w_1 =>
 kBuild (cR Tryd.prog R) w_1 84 #[(0, (.string ⟨#[115, 116, 111, 112]⟩)), (1, (.slice none 0 0)), (2, (.func (.func 71) #[] #[]))] fun v11 w_2 =>
 kUpd (cR Tryd.prog R) w_2 79 v10 (.int .i64 1) v11 fun w_3 =>
 kCallV (cR Tryd.prog R) w_3 (.func (.func 65) #[] #[]) #[(.func (.func 62) #[] #[])] fun v14 w_4 =>
 kBuildS (cR Tryd.prog R) w_4 81 1 #[(0, v14)] fun v15 w_5 =>
 kBuild (cR Tryd.prog R) w_5 84 #[(0, (.string ⟨#[118, 97, 108, 117, 101]⟩)), (1, v15), (2, (.func (.func 72) #[] #[]))] fun v16 w_6 =>
 kUpd (cR Tryd.prog R) w_6 79 v10 (.int .i64 2) v16 fun w_7 =>
 kCallV (cR Tryd.prog R) w_7 (.func (.func 65) #[] #[]) #[(.func (.func 62) #[] #[])] fun v19 w_8 =>
 kBuildS (cR Tryd.prog R) w_8 81 1 #[(0, v19)] fun v20 w_9 =>
 kBuild (cR Tryd.prog R) w_9 84 #[(0, (.string ⟨#[111, 112]⟩)), (1, v20), (2, (.func (.func 73) #[] #[]))] fun v21 w_10 =>
 kUpd (cR Tryd.prog R) w_10 79 v10 (.int .i64 3) v21 fun w_11 =>
 kCallV (cR Tryd.prog R) w_11 (.func (.func 65) #[] #[]) #[(.func (.func 62) #[] #[])] fun v24 w_12 =>
 kBuildS (cR Tryd.prog R) w_12 81 1 #[(0, v24)] fun v25 w_13 =>
 kCall (cR Tryd.prog R) w_13 74 #[(.int .i64 1)] fun v26 w_14 =>
 kBuild (cR Tryd.prog R) w_14 84 #[(0, (.string ⟨#[112, 105, 99, 107]⟩)), (1, v25), (2, v26)] fun v27 w_15 =>
 kUpd (cR Tryd.prog R) w_15 79 v10 (.int .i64 4) v27 fun w_16 =>
 kCallV (cR Tryd.prog R) w_16 (.func (.func 66) #[] #[]) #[(.func (.func 62) #[] #[])] fun v30 w_17 =>
 kBuildS (cR Tryd.prog R) w_17 81 1 #[(0, v30)] fun v31 w_18 =>
 kBuild (cR Tryd.prog R) w_18 84 #[(0, (.string ⟨#[115, 99, 97, 110]⟩)), (1, v31), (2, (.func (.func 75) #[] #[]))] fun v32 w_19 =>
 kUpd (cR Tryd.prog R) w_19 79 v10 (.int .i64 5) v32 fun w_20 =>
 kCallV (cR Tryd.prog R) w_20 (.func (.func 66) #[] #[]) #[(.func (.func 62) #[] #[])] fun v35 w_21 =>
 kCallV (cR Tryd.prog R) w_21 (.func (.func 69) #[] #[]) #[(.func (.func 63) #[] #[])] fun v38 w_22 =>
 kBuildS (cR Tryd.prog R) w_22 81 2 #[(0, v35), (1, v38)] fun v39 w_23 =>
 kBuild (cR Tryd.prog R) w_23 84 #[(0, (.string ⟨#[102, 105, 114, 115, 116]⟩)), (1, v39), (2, (.func (.func 71) #[] #[]))] fun v40 w_24 =>
 kUpd (cR Tryd.prog R) w_24 79 v10 (.int .i64 6) v40 fun w_25 =>
 kCallV (cR Tryd.prog R) w_25 (.func (.func 66) #[] #[]) #[(.func (.func 62) #[] #[])] fun v43 w_26 =>
 kCallV (cR Tryd.prog R) w_26 (.func (.func 69) #[] #[]) #[(.func (.func 63) #[] #[])] fun v46 w_27 =>
 kBuildS (cR Tryd.prog R) w_27 81 2 #[(0, v43), (1, v46)] fun v47 w_28 =>
 kBuild (cR Tryd.prog R) w_28 84 #[(0, (.string ⟨#[110, 101, 120, 116]⟩)), (1, v47), (2, (.func (.func 71) #[] #[]))] fun v48 w_29 =>
 kUpd (cR Tryd.prog R) w_29 79 v10 (.int .i64 7) v48 fun w_30 =>
 kCallV (cR Tryd.prog R) w_30 (.func (.func 65) #[] #[]) #[(.func (.func 62) #[] #[])] fun v51 w_31 =>
 kCallV (cR Tryd.prog R) w_31 (.func (.func 66) #[] #[]) #[(.func (.func 63) #[] #[])] fun v54 w_32 =>
 kCallV (cR Tryd.prog R) w_32 (.func (.func 68) #[] #[]) #[(.func (.func 64) #[] #[])] fun v57 w_33 =>
 kBuildS (cR Tryd.prog R) w_33 81 3 #[(0, v51), (1, v54), (2, v57)] fun v58 w_34 =>
 kBuild (cR Tryd.prog R) w_34 84 #[(0, (.string ⟨#[102, 105, 101, 108, 100]⟩)), (1, v58), (2, (.func (.func 71) #[] #[]))] fun v59 w_35 =>
 kUpd (cR Tryd.prog R) w_35 79 v10 (.int .i64 8) v59 fun w_36 =>
 kCallV (cR Tryd.prog R) w_36 (.func (.func 65) #[] #[]) #[(.func (.func 62) #[] #[])] fun v62 w_37 =>
 kCallV (cR Tryd.prog R) w_37 (.func (.func 69) #[] #[]) #[(.func (.func 63) #[] #[])] fun v65 w_38 =>
 kBuildS (cR Tryd.prog R) w_38 81 2 #[(0, v62), (1, v65)] fun v66 w_39 =>
 kBuild (cR Tryd.prog R) w_39 84 #[(0, (.string ⟨#[105, 102]⟩)), (1, v66), (2, (.func (.func 71) #[] #[]))] fun v67 w_40 =>
 kUpd (cR Tryd.prog R) w_40 79 v10 (.int .i64 9) v67 fun w_41 =>
 kCallV (cR Tryd.prog R) w_41 (.func (.func 69) #[] #[]) #[(.func (.func 63) #[] #[])] fun v70 w_42 =>
 kBuildS (cR Tryd.prog R) w_42 81 1 #[(0, v70)] fun v71 w_43 =>
 kBuild (cR Tryd.prog R) w_43 84 #[(0, (.string ⟨#[106, 117, 109, 112]⟩)), (1, v71), (2, (.func (.func 71) #[] #[]))] fun v72 w_44 =>
 kUpd (cR Tryd.prog R) w_44 79 v10 (.int .i64 10) v72 fun w_45 =>
 kCallV (cR Tryd.prog R) w_45 (.func (.func 66) #[] #[]) #[(.func (.func 62) #[] #[])] fun v75 w_46 =>
 kBuildS (cR Tryd.prog R) w_46 81 1 #[(0, v75)] fun v76 w_47 =>
 kCall (cR Tryd.prog R) w_47 74 #[(.int .i64 0)] fun v77 w_48 =>
 kBuild (cR Tryd.prog R) w_48 84 #[(0, (.string ⟨#[114, 111, 119]⟩)), (1, v76), (2, v77)] fun v78 w_49 =>
 kUpd (cR Tryd.prog R) w_49 79 v10 (.int .i64 11) v78 fun w_50 =>
 kCallV (cR Tryd.prog R) w_50 (.func (.func 66) #[] #[]) #[(.func (.func 62) #[] #[])] fun v81 w_51 =>
 kCallV (cR Tryd.prog R) w_51 (.func (.func 66) #[] #[]) #[(.func (.func 63) #[] #[])] fun v84 w_52 =>
 kBuildS (cR Tryd.prog R) w_52 81 2 #[(0, v81), (1, v84)] fun v85 w_53 =>
 kBuild (cR Tryd.prog R) w_53 84 #[(0, (.string ⟨#[108, 111, 111, 107, 115]⟩)), (1, v85), (2, (.func (.func 71) #[] #[]))] fun v86 w_54 =>
 kUpd (cR Tryd.prog R) w_54 79 v10 (.int .i64 12) v86 fun w_55 =>
 kCallV (cR Tryd.prog R) w_55 (.func (.func 67) #[] #[]) #[(.func (.func 62) #[] #[])] fun v89 w_56 =>
 kBuildS (cR Tryd.prog R) w_56 81 1 #[(0, v89)] fun v90 w_57 =>
 kBuild (cR Tryd.prog R) w_57 84 #[(0, (.string ⟨#[115, 117, 109]⟩)), (1, v90), (2, (.func (.func 76) #[] #[]))] fun v91 w_58 =>
 kUpd (cR Tryd.prog R) w_58 79 v10 (.int .i64 13) v91 fun w_59 =>
 kCallV (cR Tryd.prog R) w_59 (.func (.func 67) #[] #[]) #[(.func (.func 62) #[] #[])] fun v94 w_60 =>
 kCallV (cR Tryd.prog R) w_60 (.func (.func 65) #[] #[]) #[(.func (.func 63) #[] #[])] fun v97 w_61 =>
 kBuildS (cR Tryd.prog R) w_61 81 2 #[(0, v94), (1, v97)] fun v98 w_62 =>
 kBuild (cR Tryd.prog R) w_62 84 #[(0, (.string ⟨#[97, 100, 100]⟩)), (1, v98), (2, (.func (.func 71) #[] #[]))] fun v99 w_63 =>
 kUpd (cR Tryd.prog R) w_63 79 v10 (.int .i64 14) v99 fun w_64 =>
 kCallV (cR Tryd.prog R) w_64 (.func (.func 65) #[] #[]) #[(.func (.func 62) #[] #[])] fun v102 w_65 =>
 kCallV (cR Tryd.prog R) w_65 (.func (.func 67) #[] #[]) #[(.func (.func 63) #[] #[])] fun v105 w_66 =>
 kBuildS (cR Tryd.prog R) w_66 81 2 #[(0, v102), (1, v105)] fun v106 w_67 =>
 kBuild (cR Tryd.prog R) w_67 84 #[(0, (.string ⟨#[116, 111, 116, 97, 108]⟩)), (1, v106), (2, (.func (.func 71) #[] #[]))] fun v107 w_68 =>
 kUpd (cR Tryd.prog R) w_68 79 v10 (.int .i64 15) v107 fun w_69 =>
 kCallV (cR Tryd.prog R) w_69 (.func (.func 66) #[] #[]) #[(.func (.func 62) #[] #[])] fun v110 w_70 =>
 kCallV (cR Tryd.prog R) w_70 (.func (.func 68) #[] #[]) #[(.func (.func 64) #[] #[])] fun v113 w_71 =>
 kBuildS (cR Tryd.prog R) w_71 81 2 #[(0, v110), (1, v113)] fun v114 w_72 =>
 kBuild (cR Tryd.prog R) w_72 84 #[(0, (.string ⟨#[103, 114, 111, 117, 112, 115]⟩)), (1, v114), (2, (.func (.func 71) #[] #[]))] fun v115 w_73 =>
 kUpd (cR Tryd.prog R) w_73 79 v10 (.int .i64 16) v115 fun w_74 =>
 kCallV (cR Tryd.prog R) w_74 (.func (.func 66) #[] #[]) #[(.func (.func 62) #[] #[])] fun v118 w_75 =>
 kCallV (cR Tryd.prog R) w_75 (.func (.func 66) #[] #[]) #[(.func (.func 63) #[] #[])] fun v121 w_76 =>
 kCallV (cR Tryd.prog R) w_76 (.func (.func 69) #[] #[]) #[(.func (.func 64) #[] #[])] fun v124 w_77 =>
 kBuildS (cR Tryd.prog R) w_77 81 3 #[(0, v118), (1, v121), (2, v124)] fun v125 w_78 =>
 kBuild (cR Tryd.prog R) w_78 84 #[(0, (.string ⟨#[116, 97, 107, 101]⟩)), (1, v125), (2, (.func (.func 71) #[] #[]))] fun v126 w_79 =>
 kUpd (cR Tryd.prog R) w_79 79 v10 (.int .i64 17) v126 fun w_80 =>
 kCallV (cR Tryd.prog R) w_80 (.func (.func 66) #[] #[]) #[(.func (.func 62) #[] #[])] fun v129 w_81 =>
 kCallV (cR Tryd.prog R) w_81 (.func (.func 68) #[] #[]) #[(.func (.func 63) #[] #[])] fun v132 w_82 =>
 kBuildS (cR Tryd.prog R) w_82 81 2 #[(0, v129), (1, v132)] fun v133 w_83 =>
 kBuild (cR Tryd.prog R) w_83 84 #[(0, (.string ⟨#[111, 110, 99, 101]⟩)), (1, v133), (2, (.func (.func 71) #[] #[]))] fun v134 w_84 =>
 kUpd (cR Tryd.prog R) w_84 79 v10 (.int .i64 18) v134 fun w_85 =>
 kCallV (cR Tryd.prog R) w_85 (.func (.func 66) #[] #[]) #[(.func (.func 62) #[] #[])] fun v137 w_86 =>
 kCallV (cR Tryd.prog R) w_86 (.func (.func 68) #[] #[]) #[(.func (.func 63) #[] #[])] fun v140 w_87 =>
 kBuildS (cR Tryd.prog R) w_87 81 2 #[(0, v137), (1, v140)] fun v141 w_88 =>
 kBuild (cR Tryd.prog R) w_88 84 #[(0, (.string ⟨#[115, 111, 114, 116]⟩)), (1, v141), (2, (.func (.func 77) #[] #[]))] fun v142 w_89 =>
 kUpd (cR Tryd.prog R) w_89 79 v10 (.int .i64 19) v142 fun w_90 =>
 kCallV (cR Tryd.prog R) w_90 (.func (.func 66) #[] #[]) #[(.func (.func 62) #[] #[])] fun v145 w_91 =>
 kCallV (cR Tryd.prog R) w_91 (.func (.func 70) #[] #[]) #[(.func (.func 63) #[] #[])] fun v148 w_92 =>
 kCallV (cR Tryd.prog R) w_92 (.func (.func 68) #[] #[]) #[(.func (.func 64) #[] #[])] fun v151 w_93 =>
 kBuildS (cR Tryd.prog R) w_93 81 3 #[(0, v145), (1, v148), (2, v151)] fun v152 w_94 =>
 kBuild (cR Tryd.prog R) w_94 84 #[(0, (.string ⟨#[99, 117, 116]⟩)), (1, v152), (2, (.func (.func 71) #[] #[]))] fun v153 w_95 =>
 kUpd (cR Tryd.prog R) w_95 79 v10 (.int .i64 20) v153 fun w_96 =>
 kCallV (cR Tryd.prog R) w_96 (.func (.func 66) #[] #[]) #[(.func (.func 62) #[] #[])] fun v156 w_97 =>
 kBuildS (cR Tryd.prog R) w_97 81 1 #[(0, v156)] fun v157 w_98 =>
 kBuild (cR Tryd.prog R) w_98 84 #[(0, (.string ⟨#[103, 105, 118, 101]⟩)), (1, v157), (2, (.func (.func 71) #[] #[]))] fun v158 w_99 =>
 kUpd (cR Tryd.prog R) w_99 79 v10 (.int .i64 21) v158 fun w_100 =>
 R (.returned v10) w_100
theorem c38  (R : Ending → World → Prop) (w : World) (h : vc38  R w) : Calls Tryd.prog 38 #[] w R :=
  calls_of_vc (A := { loops := [], pars := [] }) (Eq.mpr (show FnVc Tryd.prog { loops := [], pars := [] } 160 38 [] R w = vc38  R w by kernel_rfl) h)

/-- loupe/code.in -/
def vc39 (fromA : Int) (to : Int) (l : Option Addr) (ln : Nat) (lc : Nat) (R : Ending → World → Prop) (w : World) : Prop :=
 kBox (cR Tryd.prog R) w 3 (.int .i64 fromA) fun v3 w_1 =>
 kBox (cR Tryd.prog R) w_1 3 (.int .i64 to) fun v4 w_2 =>
 kCall (cR Tryd.prog R) w_2 78 #[(.slice l ln lc), (.func (.func 79) #[] #[v3, v4])] fun v9 w_3 =>
 kUn (cR Tryd.prog R) w_3 .not v9 fun v10 w_4 =>
 R (.returned v10) w_4
theorem c39 (fromA : Int) (to : Int) (l : Option Addr) (ln : Nat) (lc : Nat) (R : Ending → World → Prop) (w : World) (h : vc39 fromA to l ln lc R w) : Calls Tryd.prog 39 #[(.int .i64 fromA), (.int .i64 to), (.slice l ln lc)] w R :=
  calls_of_vc (A := { loops := [], pars := [] }) (Eq.mpr (show FnVc Tryd.prog { loops := [], pars := [] } 11 39 [(.int .i64 fromA), (.int .i64 to), (.slice l ln lc)] R w = vc39 fromA to l ln lc R w by kernel_rfl) h)

/-- loupe/code.same -/
def vc40 (x0 : Int) (x1 : Int) (x2 : Int) (x3 : Int) (x4 : Int) (x5 : Int) (x6 : Int) (x7 : ByteArray) (x8 : ByteArray) (x9 : Option Addr) (x9n : Nat) (x9c : Nat) (y0 : Int) (y1 : Int) (y2 : Int) (y3 : Int) (y4 : Int) (y5 : Int) (y6 : Int) (y7 : ByteArray) (y8 : ByteArray) (y9 : Option Addr) (y9n : Nat) (y9c : Nat) (R : Ending → World → Prop) (w : World) : Prop :=
 kBox (cR Tryd.prog R) w 50 (.agg #[(.int .i64 x0), (.int .i64 x1), (.int .i64 x2), (.int .i64 x3), (.int .i64 x4), (.int .i64 x5), (.int .i64 x6), (.string x7), (.string x8), (.slice x9 x9n x9c)]) fun v2 w_1 =>
 kBox (cR Tryd.prog R) w_1 50 (.agg #[(.int .i64 y0), (.int .i64 y1), (.int .i64 y2), (.int .i64 y3), (.int .i64 y4), (.int .i64 y5), (.int .i64 y6), (.string y7), (.string y8), (.slice y9 y9n y9c)]) fun v3 w_2 =>
 kDrawn true (
 kDrawn true (
 kJn (fun J =>
 kLoad (cQ Tryd.prog) w_2 50 v2 fun v7 w_3 =>
 kLoad (cQ Tryd.prog) w_3 50 v3 fun v8 w_4 =>
 kBoth (
 kDrew w_4 fun w_5 =>
 (fun (c : Cx) =>
 kAlloc c w_5 50 fun v5 w_6 =>
 kLoad (cQ Tryd.prog) w_6 50 v2 fun v7_1 w_7 =>
 kSame v7_1 v7 (
 kLoad (cQ Tryd.prog) w_6 50 v3 fun v8_1 w_8 =>
 kSame v8_1 v8 (
 kDrew w_6 fun w_9 =>
 kAlloc c w_9 50 fun v6 w_10 =>
 kLoad (cQ Tryd.prog) w_10 50 v2 fun v7_2 w_11 =>
 kSame v7_2 v7 (
 kLoad (cQ Tryd.prog) w_10 50 v3 fun v8_2 w_12 =>
 kSame v8_2 v8 (
 kDrew w_10 fun w_13 =>
 kStore c w_13 50 v5 v7 fun w_14 =>
 kLoad (cQ Tryd.prog) w_14 50 v3 fun v8_3 w_15 =>
 kSame v8_3 v8 (
 kDrew w_14 fun w_16 => J [v7, v8, v5, v6, undef] w_16)))))) ⟨Tryd.prog, fun ch w => ∀ _ : List Value, R (.panicked ch) w, false⟩) (
 kDrew w_4 fun w_17 =>
 (fun (c_1 : Cx) =>
 kAlloc c_1 w_17 50 fun v6_1 w_18 =>
 kLoad (cQ Tryd.prog) w_18 50 v2 fun v7_3 w_19 =>
 kSame v7_3 v7 (
 kLoad (cQ Tryd.prog) w_18 50 v3 fun v8_4 w_20 =>
 kSame v8_4 v8 (
 kDrew w_18 fun w_21 =>
 kAlloc c_1 w_21 50 fun v5_1 w_22 =>
 kLoad (cQ Tryd.prog) w_22 50 v2 fun v7_4 w_23 =>
 kSame v7_4 v7 (
 kLoad (cQ Tryd.prog) w_22 50 v3 fun v8_5 w_24 =>
 kSame v8_5 v8 (
 kDrew w_22 fun w_25 =>
 kStore c_1 w_25 50 v5_1 v7 fun w_26 =>
 kLoad (cQ Tryd.prog) w_26 50 v3 fun v8_6 w_27 =>
 kSame v8_6 v8 (
 kDrew w_26 fun w_28 => J [v7, v8, v5_1, v6_1, undef] w_28)))))) ⟨Tryd.prog, fun ch w => ∀ _ : List Value, R (.panicked ch) w, false⟩)) (fun cs w_29 =>
 (fun g1 g2 g3 =>
 kStore (cR Tryd.prog R) w_29 50 g3 g1 fun w_30 =>
 kFa (cR Tryd.prog R) w_30 50 g2 7 fun v9 w_31 =>
 kStore (cR Tryd.prog R) w_31 48 v9 (.slice none 0 0) fun w_32 =>
 kFa (cR Tryd.prog R) w_32 50 g3 7 fun v10 w_33 =>
 kStore (cR Tryd.prog R) w_33 48 v10 (.slice none 0 0) fun w_34 =>
 kFa (cR Tryd.prog R) w_34 50 g2 1 fun v11 w_35 =>
 kLoad (cR Tryd.prog R) w_35 3 v11 fun v12 w_36 =>
 kFa (cR Tryd.prog R) w_36 50 g2 2 fun v13 w_37 =>
 kLoad (cR Tryd.prog R) w_37 3 v13 fun v14 w_38 =>
 kFa (cR Tryd.prog R) w_38 50 g2 3 fun v15 w_39 =>
 kLoad (cR Tryd.prog R) w_39 3 v15 fun v16 w_40 =>
 kBuild (cR Tryd.prog R) w_40 129 #[(0, v12), (1, v14), (2, v16)] fun v17 w_41 =>
 kFa (cR Tryd.prog R) w_41 50 g3 1 fun v18 w_42 =>
 kLoad (cR Tryd.prog R) w_42 3 v18 fun v19 w_43 =>
 kFa (cR Tryd.prog R) w_43 50 g3 2 fun v20 w_44 =>
 kLoad (cR Tryd.prog R) w_44 3 v20 fun v21 w_45 =>
 kFa (cR Tryd.prog R) w_45 50 g3 3 fun v22 w_46 =>
 kLoad (cR Tryd.prog R) w_46 3 v22 fun v23 w_47 =>
 kBuild (cR Tryd.prog R) w_47 129 #[(0, v19), (1, v21), (2, v23)] fun v24 w_48 =>
 kEq (cR Tryd.prog R) w_48 .eql 129 (.tmp 17) (.tmp 24) v17 v24 fun v25 w_49 =>
 kIf v25 (
 kFa (cR Tryd.prog R) w_49 50 g2 0 fun v27 w_50 =>
 kLoad (cR Tryd.prog R) w_50 46 v27 fun v28 w_51 =>
 kFa (cR Tryd.prog R) w_51 50 g3 0 fun v29 w_52 =>
 kLoad (cR Tryd.prog R) w_52 46 v29 fun v30 w_53 =>
 kEq (cR Tryd.prog R) w_53 .eql 46 (.tmp 28) (.tmp 30) v28 v30 fun v31 w_54 =>
 kIf v31 (
 kFa (cR Tryd.prog R) w_54 50 g2 4 fun v34 w_55 =>
 kLoad (cR Tryd.prog R) w_55 47 v34 fun v35 w_56 =>
 kFa (cR Tryd.prog R) w_56 50 g3 4 fun v36 w_57 =>
 kLoad (cR Tryd.prog R) w_57 47 v36 fun v37 w_58 =>
 kEq (cR Tryd.prog R) w_58 .eql 47 (.tmp 35) (.tmp 37) v35 v37 fun v38 w_59 =>
 kIf v38 (
 kFa (cR Tryd.prog R) w_59 50 g2 5 fun v41 w_60 =>
 kLoad (cR Tryd.prog R) w_60 41 v41 fun v42 w_61 =>
 kFa (cR Tryd.prog R) w_61 50 g3 5 fun v43 w_62 =>
 kLoad (cR Tryd.prog R) w_62 41 v43 fun v44 w_63 =>
 kEq (cR Tryd.prog R) w_63 .eql 41 (.tmp 42) (.tmp 44) v42 v44 fun v45 w_64 =>
 kIf v45 (
 kFa (cR Tryd.prog R) w_64 50 g2 6 fun v48 w_65 =>
 kLoad (cR Tryd.prog R) w_65 9 v48 fun v49 w_66 =>
 kFa (cR Tryd.prog R) w_66 50 g3 6 fun v50 w_67 =>
 kLoad (cR Tryd.prog R) w_67 9 v50 fun v51 w_68 =>
 kEq (cR Tryd.prog R) w_68 .eql 9 (.tmp 49) (.tmp 51) v49 v51 fun v52 w_69 =>
 kIf v52 (
 kFa (cR Tryd.prog R) w_69 50 v2 7 fun v55 w_70 =>
 kLoad (cR Tryd.prog R) w_70 48 v55 fun v56 w_71 =>
 kFa (cR Tryd.prog R) w_71 50 v3 7 fun v57 w_72 =>
 kLoad (cR Tryd.prog R) w_72 48 v57 fun v58 w_73 =>
 kCall (cR Tryd.prog R) w_73 80 #[v56, v58] fun v59 w_74 =>
 R (.returned v59) w_74) (
 R (.returned (.bool false)) w_69)) (
 R (.returned (.bool false)) w_64)) (
 R (.returned (.bool false)) w_59)) (
 R (.returned (.bool false)) w_54)) (
 R (.returned (.bool false)) w_49)) (cs.getD 1 undef) (cs.getD 2 undef) (cs.getD 3 undef))))
theorem c40 (x0 : Int) (x1 : Int) (x2 : Int) (x3 : Int) (x4 : Int) (x5 : Int) (x6 : Int) (x7 : ByteArray) (x8 : ByteArray) (x9 : Option Addr) (x9n : Nat) (x9c : Nat) (y0 : Int) (y1 : Int) (y2 : Int) (y3 : Int) (y4 : Int) (y5 : Int) (y6 : Int) (y7 : ByteArray) (y8 : ByteArray) (y9 : Option Addr) (y9n : Nat) (y9c : Nat) (R : Ending → World → Prop) (w : World) (h : vc40 x0 x1 x2 x3 x4 x5 x6 x7 x8 x9 x9n x9c y0 y1 y2 y3 y4 y5 y6 y7 y8 y9 y9n y9c R w) : Calls Tryd.prog 40 #[(.agg #[(.int .i64 x0), (.int .i64 x1), (.int .i64 x2), (.int .i64 x3), (.int .i64 x4), (.int .i64 x5), (.int .i64 x6), (.string x7), (.string x8), (.slice x9 x9n x9c)]), (.agg #[(.int .i64 y0), (.int .i64 y1), (.int .i64 y2), (.int .i64 y3), (.int .i64 y4), (.int .i64 y5), (.int .i64 y6), (.string y7), (.string y8), (.slice y9 y9n y9c)])] w R :=
  calls_of_vc (A := { loops := [], pars := [], chs := [(1, (.q 0 (.q 1 (.or 2 (.e 3 (.e 4 .done)) (.e 3 (.e 2 (.e 4 .done)))))))] }) (Eq.mpr (show FnVc Tryd.prog { loops := [], pars := [], chs := [(1, (.q 0 (.q 1 (.or 2 (.e 3 (.e 4 .done)) (.e 3 (.e 2 (.e 4 .done)))))))] } 61 40 [(.agg #[(.int .i64 x0), (.int .i64 x1), (.int .i64 x2), (.int .i64 x3), (.int .i64 x4), (.int .i64 x5), (.int .i64 x6), (.string x7), (.string x8), (.slice x9 x9n x9c)]), (.agg #[(.int .i64 y0), (.int .i64 y1), (.int .i64 y2), (.int .i64 y3), (.int .i64 y4), (.int .i64 y5), (.int .i64 y6), (.string y7), (.string y8), (.slice y9 y9n y9c)])] R w = vc40 x0 x1 x2 x3 x4 x5 x6 x7 x8 x9 x9n x9c y0 y1 y2 y3 y4 y5 y6 y7 y8 y9 y9n y9c R w by kernel_rfl) h)

/-- slices.Values[[]loupe/api.Value,loupe/api.Value] -/
def vc41 (s : Option Addr) (sn : Nat) (sc : Nat) (R : Ending → World → Prop) (w : World) : Prop :=
 kBox (cR Tryd.prog R) w 22 (.slice s sn sc) fun v1 w_1 =>
 R (.returned (.func (.func 81) #[] #[v1])) w_1
theorem c41 (s : Option Addr) (sn : Nat) (sc : Nat) (R : Ending → World → Prop) (w : World) (h : vc41 s sn sc R w) : Calls Tryd.prog 41 #[(.slice s sn sc)] w R :=
  calls_of_vc (A := { loops := [], pars := [] }) (Eq.mpr (show FnVc Tryd.prog { loops := [], pars := [] } 4 41 [(.slice s sn sc)] R w = vc41 s sn sc R w by kernel_rfl) h)

/-- loupe/value.Check -/
def vc42 (v0 : Int) (v1 : Int) (v2 : ByteArray) (R : Ending → World → Prop) (w : World) : Prop :=
 kBox (cR Tryd.prog R) w 41 (.agg #[(.int .i64 v0), (.int .i64 v1), (.string v2)]) fun v1_1 w_1 =>
 kAlloc (cR Tryd.prog R) w_1 26 fun v2_1 w_2 =>
 (fun (c : Cx) =>
 kLoad c w_2 41 v1_1 fun v3 w_3 =>
 kCall c w_3 84 #[v3] fun v4 w_4 =>
 kStore c w_4 26 v2_1 (.int .i64 0) fun w_5 =>
 Lv Tryd.prog [.cell v2_1 26] R [{ target := .fn (.func 82) #[], args := #[v2_1, (.func (.func 83) #[] #[])] }] .returning w_5) ⟨Tryd.prog, fun ch w => Lv Tryd.prog [.cell v2_1 26] R [{ target := .fn (.func 82) #[], args := #[v2_1, (.func (.func 83) #[] #[])] }] (.panicking ch) w, false⟩
theorem c42 (v0 : Int) (v1 : Int) (v2 : ByteArray) (R : Ending → World → Prop) (w : World) (h : vc42 v0 v1 v2 R w) : Calls Tryd.prog 42 #[(.agg #[(.int .i64 v0), (.int .i64 v1), (.string v2)])] w R :=
  calls_of_vc (A := { loops := [], pars := [] }) (Eq.mpr (show FnVc Tryd.prog { loops := [], pars := [] } 5 42 [(.agg #[(.int .i64 v0), (.int .i64 v1), (.string v2)])] R w = vc42 v0 v1 v2 R w by kernel_rfl) h)

/-- loupe/louperef01.Order -/
def vc44 (a0 : Int) (a1 : Int) (a2 : ByteArray) (b0 : Int) (b1 : Int) (b2 : ByteArray) (R : Ending → World → Prop) (w : World) : Prop :=
 kBox (cR Tryd.prog R) w 41 (.agg #[(.int .i64 a0), (.int .i64 a1), (.string a2)]) fun v2 w_1 =>
 kBox (cR Tryd.prog R) w_1 41 (.agg #[(.int .i64 b0), (.int .i64 b1), (.string b2)]) fun v3 w_2 =>
 kFa (cR Tryd.prog R) w_2 41 v2 0 fun v7 w_3 =>
 kLoad (cR Tryd.prog R) w_3 39 v7 fun v8 w_4 =>
 kFa (cR Tryd.prog R) w_4 41 v3 0 fun v9 w_5 =>
 kLoad (cR Tryd.prog R) w_5 39 v9 fun v10 w_6 =>
 kCall (cR Tryd.prog R) w_6 91 #[v8, v10] fun v11 w_7 =>
 kEq (cR Tryd.prog R) w_7 .neq 3 (.tmp 12) (.const (.int .i64 0)) v11 (.int .i64 0) fun v13 w_8 =>
 kIf v13 (
 R (.returned v11) w_8) (
 kFa (cR Tryd.prog R) w_8 41 v2 1 fun v15 w_9 =>
 kLoad (cR Tryd.prog R) w_9 2 v15 fun v16 w_10 =>
 kFa (cR Tryd.prog R) w_10 41 v3 1 fun v17 w_11 =>
 kLoad (cR Tryd.prog R) w_11 2 v17 fun v18 w_12 =>
 kCall (cR Tryd.prog R) w_12 91 #[v16, v18] fun v19 w_13 =>
 kEq (cR Tryd.prog R) w_13 .neq 3 (.tmp 20) (.const (.int .i64 0)) v19 (.int .i64 0) fun v21 w_14 =>
 kIf v21 (
 R (.returned v19) w_14) (
 kFa (cR Tryd.prog R) w_14 41 v2 2 fun v23 w_15 =>
 kLoad (cR Tryd.prog R) w_15 9 v23 fun v24 w_16 =>
 kFa (cR Tryd.prog R) w_16 41 v3 2 fun v25 w_17 =>
 kLoad (cR Tryd.prog R) w_17 9 v25 fun v26 w_18 =>
 kBin (cR Tryd.prog R) w_18 .lss 9 v24 v26 fun v27 w_19 =>
 kIf v27 (
 R (.returned (.int .i64 (-1))) w_19) (
 kFa (cR Tryd.prog R) w_19 41 v2 2 fun v28 w_20 =>
 kLoad (cR Tryd.prog R) w_20 9 v28 fun v29 w_21 =>
 kFa (cR Tryd.prog R) w_21 41 v3 2 fun v30 w_22 =>
 kLoad (cR Tryd.prog R) w_22 9 v30 fun v31 w_23 =>
 kBin (cR Tryd.prog R) w_23 .gtr 9 v29 v31 fun v32 w_24 =>
 kIf v32 (
 R (.returned (.int .i64 1)) w_24) (
 R (.returned (.int .i64 0)) w_24))))
theorem c44 (a0 : Int) (a1 : Int) (a2 : ByteArray) (b0 : Int) (b1 : Int) (b2 : ByteArray) (R : Ending → World → Prop) (w : World) (h : vc44 a0 a1 a2 b0 b1 b2 R w) : Calls Tryd.prog 44 #[(.agg #[(.int .i64 a0), (.int .i64 a1), (.string a2)]), (.agg #[(.int .i64 b0), (.int .i64 b1), (.string b2)])] w R :=
  calls_of_vc (A := { loops := [], pars := [] }) (Eq.mpr (show FnVc Tryd.prog { loops := [], pars := [] } 33 44 [(.agg #[(.int .i64 a0), (.int .i64 a1), (.string a2)]), (.agg #[(.int .i64 b0), (.int .i64 b1), (.string b2)])] R w = vc44 a0 a1 a2 b0 b1 b2 R w by kernel_rfl) h)

/-- slices.CompareFunc[[]loupe/api.Value,[]loupe/api.Value,loupe/api.Value,loupe/api.Value] -/
def vc45 (s1 : Option Addr) (s1n : Nat) (s1c : Nat) (s2 : Option Addr) (s2n : Nat) (s2c : Nat) (cmp : Value) (R : Ending → World → Prop) (w : World) : Prop :=
 kBlt (cR Tryd.prog R) w .len #[22] 3 #[false] #[(.slice s1 s1n s1c)] fun v12 w_1 =>
 kLoopF [(.int .i64 0)] w_1 fun cs ds w_2 N =>
 (fun x13 =>
 kBin (cR Tryd.prog R) w_2 .lss 3 x13 v12 fun v14 w_3 =>
 kIf v14 (
 kIa (cR Tryd.prog R) w_3 22 (.slice s1 s1n s1c) x13 fun v16 w_4 =>
 kLoad (cR Tryd.prog R) w_4 41 v16 fun v17 w_5 =>
 kAlloc (cR Tryd.prog R) w_5 41 fun v8 w_6 =>
 kStore (cR Tryd.prog R) w_6 41 v8 v17 fun w_7 =>
 kBlt (cR Tryd.prog R) w_7 .len #[22] 3 #[false] #[(.slice s2 s2n s2c)] fun v20 w_8 =>
 kBin (cR Tryd.prog R) w_8 .geq 3 x13 v20 fun v21 w_9 =>
 kIf v21 (
 R (.returned (.int .i64 1)) w_9) (
 kIa (cR Tryd.prog R) w_9 22 (.slice s2 s2n s2c) x13 fun v24 w_10 =>
 kLoad (cR Tryd.prog R) w_10 41 v24 fun v25 w_11 =>
 kAlloc (cR Tryd.prog R) w_11 41 fun v9 w_12 =>
 kStore (cR Tryd.prog R) w_12 41 v9 v25 fun w_13 =>
 kLoad (cR Tryd.prog R) w_13 41 v8 fun v27 w_14 =>
 kLoad (cR Tryd.prog R) w_14 41 v9 fun v28 w_15 =>
 kCallV (cR Tryd.prog R) w_15 cmp #[v27, v28] fun v29 w_16 =>
 kEq (cR Tryd.prog R) w_16 .neq 3 (.tmp 30) (.const (.int .i64 0)) v29 (.int .i64 0) fun v31 w_17 =>
 kIf v31 (
 R (.returned v29) w_17) (
 kBin (cR Tryd.prog R) w_17 .add 3 x13 (.int .i64 1) fun v33 w_18 =>
 kD [] [] (N [v33] w_18)))) (
 kBlt (cR Tryd.prog R) w_3 .len #[22] 3 #[false] #[(.slice s1 s1n s1c)] fun v35 w_19 =>
 kBlt (cR Tryd.prog R) w_19 .len #[22] 3 #[false] #[(.slice s2 s2n s2c)] fun v37 w_20 =>
 kBin (cR Tryd.prog R) w_20 .lss 3 v35 v37 fun v38 w_21 =>
 kIf v38 (
 R (.returned (.int .i64 (-1))) w_21) (
 R (.returned (.int .i64 0)) w_21))) (cs.getD 0 undef)
theorem c45 (s1 : Option Addr) (s1n : Nat) (s1c : Nat) (s2 : Option Addr) (s2n : Nat) (s2c : Nat) (cmp : Value) (R : Ending → World → Prop) (w : World) (h : vc45 s1 s1n s1c s2 s2n s2c cmp R w) : Calls Tryd.prog 45 #[(.slice s1 s1n s1c), (.slice s2 s2n s2c), cmp] w R :=
  calls_of_vc (A := { loops := [(0, [13])], pars := [] }) (Eq.mpr (show FnVc Tryd.prog { loops := [(0, [13])], pars := [] } 39 45 [(.slice s1 s1n s1c), (.slice s2 s2n s2c), cmp] R w = vc45 s1 s1n s1c s2 s2n s2c cmp R w by kernel_rfl) h)

/-- cmp.Or[int] -/
def vc46 (vals : Option Addr) (valsn : Nat) (valsc : Nat) (R : Ending → World → Prop) (w : World) : Prop :=
 kBlt (cR Tryd.prog R) w .len #[48] 3 #[false] #[(.slice vals valsn valsc)] fun v7 w_1 =>
 kLoopF [(.int .i64 0)] w_1 fun cs ds w_2 N =>
 (fun x8 =>
 kBin (cR Tryd.prog R) w_2 .lss 3 x8 v7 fun v9 w_3 =>
 kIf v9 (
 kIa (cR Tryd.prog R) w_3 48 (.slice vals valsn valsc) x8 fun v10 w_4 =>
 kLoad (cR Tryd.prog R) w_4 3 v10 fun v11 w_5 =>
 kEq (cR Tryd.prog R) w_5 .neq 3 (.tmp 12) (.tmp 13) v11 (.int .i64 0) fun v14 w_6 =>
 kIf v14 (
 R (.returned v11) w_6) (
 kBin (cR Tryd.prog R) w_6 .add 3 x8 (.int .i64 1) fun v16 w_7 =>
 kD [] [] (N [v16] w_7))) (
 R (.returned (.int .i64 0)) w_3)) (cs.getD 0 undef)
theorem c46 (vals : Option Addr) (valsn : Nat) (valsc : Nat) (R : Ending → World → Prop) (w : World) (h : vc46 vals valsn valsc R w) : Calls Tryd.prog 46 #[(.slice vals valsn valsc)] w R :=
  calls_of_vc (A := { loops := [(0, [8])], pars := [] }) (Eq.mpr (show FnVc Tryd.prog { loops := [(0, [8])], pars := [] } 18 46 [(.slice vals valsn valsc)] R w = vc46 vals valsn valsc R w by kernel_rfl) h)

/-- cmp.Compare[loupe/api.ValueKind] -/
def vc47 (x : Int) (y : Int) (R : Ending → World → Prop) (w : World) : Prop :=
 kCall (cR Tryd.prog R) w 92 #[(.int .i64 x)] fun v8 w_1 =>
 kCall (cR Tryd.prog R) w_1 92 #[(.int .i64 y)] fun v10 w_2 =>
 kIf v8 (
 kIf v10 (
 R (.returned (.int .i64 0)) w_2) (
 R (.returned (.int .i64 (-1))) w_2)) (
 kIf v10 (
 R (.returned (.int .i64 1)) w_2) (
 kBin (cR Tryd.prog R) w_2 .lss 39 (.int .i64 x) (.int .i64 y) fun v16 w_3 =>
 kIf v16 (
 R (.returned (.int .i64 (-1))) w_3) (
 kBin (cR Tryd.prog R) w_3 .gtr 39 (.int .i64 x) (.int .i64 y) fun v19 w_4 =>
 kIf v19 (
 R (.returned (.int .i64 1)) w_4) (
 R (.returned (.int .i64 0)) w_4))))
theorem c47 (x : Int) (y : Int) (R : Ending → World → Prop) (w : World) (h : vc47 x y R w) : Calls Tryd.prog 47 #[(.int .i64 x), (.int .i64 y)] w R :=
  calls_of_vc (A := { loops := [], pars := [] }) (Eq.mpr (show FnVc Tryd.prog { loops := [], pars := [] } 20 47 [(.int .i64 x), (.int .i64 y)] R w = vc47 x y R w by kernel_rfl) h)

/-- cmp.Compare[int64] -/
def vc48 (x : Int) (y : Int) (R : Ending → World → Prop) (w : World) : Prop :=
 kCall (cR Tryd.prog R) w 93 #[(.int .i64 x)] fun v8 w_1 =>
 kCall (cR Tryd.prog R) w_1 93 #[(.int .i64 y)] fun v10 w_2 =>
 kIf v8 (
 kIf v10 (
 R (.returned (.int .i64 0)) w_2) (
 R (.returned (.int .i64 (-1))) w_2)) (
 kIf v10 (
 R (.returned (.int .i64 1)) w_2) (
 kBin (cR Tryd.prog R) w_2 .lss 2 (.int .i64 x) (.int .i64 y) fun v16 w_3 =>
 kIf v16 (
 R (.returned (.int .i64 (-1))) w_3) (
 kBin (cR Tryd.prog R) w_3 .gtr 2 (.int .i64 x) (.int .i64 y) fun v19 w_4 =>
 kIf v19 (
 R (.returned (.int .i64 1)) w_4) (
 R (.returned (.int .i64 0)) w_4))))
theorem c48 (x : Int) (y : Int) (R : Ending → World → Prop) (w : World) (h : vc48 x y R w) : Calls Tryd.prog 48 #[(.int .i64 x), (.int .i64 y)] w R :=
  calls_of_vc (A := { loops := [], pars := [] }) (Eq.mpr (show FnVc Tryd.prog { loops := [], pars := [] } 20 48 [(.int .i64 x), (.int .i64 y)] R w = vc48 x y R w by kernel_rfl) h)

/-- cmp.Compare[string] -/
def vc49 (x : ByteArray) (y : ByteArray) (R : Ending → World → Prop) (w : World) : Prop :=
 kCall (cR Tryd.prog R) w 94 #[(.string x)] fun v8 w_1 =>
 kCall (cR Tryd.prog R) w_1 94 #[(.string y)] fun v10 w_2 =>
 kIf v8 (
 kIf v10 (
 R (.returned (.int .i64 0)) w_2) (
 R (.returned (.int .i64 (-1))) w_2)) (
 kIf v10 (
 R (.returned (.int .i64 1)) w_2) (
 kBin (cR Tryd.prog R) w_2 .lss 9 (.string x) (.string y) fun v16 w_3 =>
 kIf v16 (
 R (.returned (.int .i64 (-1))) w_3) (
 kBin (cR Tryd.prog R) w_3 .gtr 9 (.string x) (.string y) fun v19 w_4 =>
 kIf v19 (
 R (.returned (.int .i64 1)) w_4) (
 R (.returned (.int .i64 0)) w_4))))
theorem c49 (x : ByteArray) (y : ByteArray) (R : Ending → World → Prop) (w : World) (h : vc49 x y R w) : Calls Tryd.prog 49 #[(.string x), (.string y)] w R :=
  calls_of_vc (A := { loops := [], pars := [] }) (Eq.mpr (show FnVc Tryd.prog { loops := [], pars := [] } 20 49 [(.string x), (.string y)] R w = vc49 x y R w by kernel_rfl) h)

/-- (*loupe/key.left).take -/
def vc50 (l : Value) (n : Int) (R : Ending → World → Prop) (w : World) : Prop :=
 kNil (cR Tryd.prog R) w l fun v7 w_1 =>
 kFa (cR Tryd.prog R) w_1 62 v7 0 fun v8 w_2 =>
 kLoad (cR Tryd.prog R) w_2 25 v8 fun v9 w_3 =>
 kBlt (cR Tryd.prog R) w_3 .len #[25] 3 #[false] #[v9] fun v10 w_4 =>
 kBin (cR Tryd.prog R) w_4 .geq 3 v10 (.int .i64 n) fun v12 w_5 =>
 kCall (cR Tryd.prog R) w_5 31 #[v12, (.int .i64 200)] fun v13 w_6 =>
 kNil (cR Tryd.prog R) w_6 l fun v15 w_7 =>
 kFa (cR Tryd.prog R) w_7 62 v15 0 fun v16 w_8 =>
 kLoad (cR Tryd.prog R) w_8 25 v16 fun v17 w_9 =>
 kSl (cR Tryd.prog R) w_9 25 v17 none (some (.int .i64 n)) (some (.int .i64 n)) fun v20 w_10 =>
 kNil (cR Tryd.prog R) w_10 l fun v23 w_11 =>
 kFa (cR Tryd.prog R) w_11 62 v23 0 fun v24 w_12 =>
 kLoad (cR Tryd.prog R) w_12 25 v24 fun v25 w_13 =>
 kSl (cR Tryd.prog R) w_13 25 v25 (some (.int .i64 n)) none none fun v27 w_14 =>
 kNil (cR Tryd.prog R) w_14 l fun v28 w_15 =>
 kFa (cR Tryd.prog R) w_15 62 v28 0 fun v29 w_16 =>
 kStore (cR Tryd.prog R) w_16 25 v29 v27 fun w_17 =>
 R (.returned v20) w_17
theorem c50 (l : Value) (n : Int) (R : Ending → World → Prop) (w : World) (h : vc50 l n R w) : Calls Tryd.prog 50 #[l, (.int .i64 n)] w R :=
  calls_of_vc (A := { loops := [], pars := [] }) (Eq.mpr (show FnVc Tryd.prog { loops := [], pars := [] } 31 50 [l, (.int .i64 n)] R w = vc50 l n R w by kernel_rfl) h)

/-- (*loupe/key.reader).text -/
def vc51 (r : Value) (R : Ending → World → Prop) (w : World) : Prop :=
 kLoopF [(.slice none 0 0)] w fun cs ds w_1 N =>
 (fun x3 =>
 kNil (cR Tryd.prog R) w_1 r fun v7 w_2 =>
 kFa (cR Tryd.prog R) w_2 64 v7 0 fun v8 w_3 =>
 kCall (cR Tryd.prog R) w_3 50 #[v8, (.int .i64 1)] fun v9 w_4 =>
 kIa (cR Tryd.prog R) w_4 25 v9 (.int .i64 0) fun v10 w_5 =>
 kLoad (cR Tryd.prog R) w_5 5 v10 fun v11 w_6 =>
 kJn (fun J =>
 kEq (cR Tryd.prog R) w_6 .eql 5 (.tmp 12) (.const (.int .u8 0)) v11 (.int .u8 0) fun v13 w_10 =>
 kIf v13 (
 kNil (cR Tryd.prog R) w_10 r fun v15 w_11 =>
 kFa (cR Tryd.prog R) w_11 64 v15 0 fun v16 w_12 =>
 kCall (cR Tryd.prog R) w_12 50 #[v16, (.int .i64 1)] fun v17 w_13 =>
 kIa (cR Tryd.prog R) w_13 25 v17 (.int .i64 0) fun v18 w_14 =>
 kLoad (cR Tryd.prog R) w_14 5 v18 fun v19 w_15 =>
 kJn (fun J_1 =>
 kIx (cR Tryd.prog R) w_15 9 (.string ⟨#[0, 1]⟩) (.int .i64 1) fun v21 w_20 =>
 kEq (cR Tryd.prog R) w_20 .eql 5 (.tmp 20) (.tmp 21) v19 v21 fun v22 w_21 =>
 kIf v22 (
 kCall (cR Tryd.prog R) w_21 31 #[(.bool true), (.int .i64 200)] fun v27 w_22 =>
 kD [] [] (J_1 [] w_22)) (
 kEq (cR Tryd.prog R) w_21 .eql 5 (.tmp 24) (.const (.int .u8 255)) v19 (.int .u8 255) fun v25 w_23 =>
 kCall (cR Tryd.prog R) w_23 31 #[v25, (.int .i64 200)] fun v27_1 w_24 =>
 kD [] [] (J_1 [] w_24))) (fun cs_2 w_16 => ∀ ds_2 : List Value,
 kIx (cR Tryd.prog R) w_16 9 (.string ⟨#[0, 1]⟩) (.int .i64 1) fun v29 w_17 =>
 kEq (cR Tryd.prog R) w_17 .eql 5 (.tmp 28) (.tmp 29) v19 v29 fun v30 w_18 =>
 kIf v30 (
 kConv (cR Tryd.prog R) w_18 25 9 x3 fun v32 w_19 =>
 R (.returned v32) w_19) (
 kD [] [] (J [] w_18)))) (
 kD [] [] (J [] w_10))) (fun cs_1 w_7 => ∀ ds_1 : List Value,
 kBuildS (cR Tryd.prog R) w_7 25 1 #[(0, v11)] fun v35 w_8 =>
 kBlt (cR Tryd.prog R) w_8 .append #[25, 25] 25 #[false, false] #[x3, v35] fun v36 w_9 =>
 kD [] [] (N [v36] w_9))) (cs.getD 0 undef)
theorem c51 (r : Value) (R : Ending → World → Prop) (w : World) (h : vc51 r R w) : Calls Tryd.prog 51 #[r] w R :=
  calls_of_vc (A := { loops := [(1000008, []), (1000006, []), (0, [3])], pars := [] }) (Eq.mpr (show FnVc Tryd.prog { loops := [(1000008, []), (1000006, []), (0, [3])], pars := [] } 37 51 [r] R w = vc51 r R w by kernel_rfl) h)

/-- (*loupe/key.reader).next$1 -/
def vc52 (f0 : Value) (R : Ending → World → Prop) (w : World) : Prop :=
 kBuild (cR Tryd.prog R) w 41 #[] fun v1 w_1 =>
 kStore (cR Tryd.prog R) w_1 41 f0 v1 fun w_2 =>
 R (.returned (.tuple #[])) w_2
theorem c52 (f0 : Value) (R : Ending → World → Prop) (w : World) (h : vc52 f0 R w) : Calls Tryd.prog 52 #[f0] w R :=
  calls_of_vc (A := { loops := [], pars := [] }) (Eq.mpr (show FnVc Tryd.prog { loops := [], pars := [] } 2 52 [f0] R w = vc52 f0 R w by kernel_rfl) h)

/-- loupe/sum.Info -/
def vc54 (o : Int) (R : Ending → World → Prop) (w : World) : Prop :=
 kAlloc (cR Tryd.prog R) w 114 fun v2 w_1 =>
 kJn (fun J =>
 kBin (cR Tryd.prog R) w_1 .leq 47 (.int .i64 o) (.int .i64 0) fun v5 w_6 =>
 kIf v5 (
 kIf (.bool true) (
 kBuild (cR Tryd.prog R) w_6 114 #[] fun v10 w_7 =>
 kStore (cR Tryd.prog R) w_7 114 v2 v10 fun w_8 =>
 RetK Tryd.prog [.cell v2 114, .val (.bool false)] R w_8) (
 kD [] [] (J [] w_6))) (
 kBin (cR Tryd.prog R) w_6 .gtr 47 (.int .i64 o) (.int .i64 20) fun v8 w_9 =>
 kIf v8 (
 kBuild (cR Tryd.prog R) w_9 114 #[] fun v10_1 w_10 =>
 kStore (cR Tryd.prog R) w_10 114 v2 v10_1 fun w_11 =>
 RetK Tryd.prog [.cell v2 114, .val (.bool false)] R w_11) (
 kD [] [] (J [] w_9)))) (fun cs w_2 => ∀ ds : List Value,
 kCall (cR Tryd.prog R) w_2 96 #[] fun v11 w_3 =>
 kIx (cR Tryd.prog R) w_3 140 v11 (.int .i64 o) fun v13 w_4 =>
 kStore (cR Tryd.prog R) w_4 114 v2 v13 fun w_5 =>
 RetK Tryd.prog [.cell v2 114, .val (.bool true)] R w_5)
theorem c54 (o : Int) (R : Ending → World → Prop) (w : World) (h : vc54 o R w) : Calls Tryd.prog 54 #[(.int .i64 o)] w R :=
  calls_of_vc (A := { loops := [(1000003, [])], pars := [] }) (Eq.mpr (show FnVc Tryd.prog { loops := [(1000003, [])], pars := [] } 14 54 [(.int .i64 o)] R w = vc54 o R w by kernel_rfl) h)

/-- loupe/value.Literal -/
def vc55 (v0 : Int) (v1 : Int) (v2 : ByteArray) (R : Ending → World → Prop) (w : World) : Prop :=
 kBox (cR Tryd.prog R) w 41 (.agg #[(.int .i64 v0), (.int .i64 v1), (.string v2)]) fun v1_1 w_1 =>
 kAlloc (cR Tryd.prog R) w_1 9 fun v2_1 w_2 =>
 kAlloc (cR Tryd.prog R) w_2 26 fun v3 w_3 =>
 (fun (c : Cx) =>
 kLoad c w_3 41 v1_1 fun v5 w_4 =>
 kCall c w_4 84 #[v5] fun v6 w_5 =>
 kDrawn true (
 kDrawn true (
 kFa (cQ Tryd.prog) w_5 41 v1_1 0 fun v8 w_6 =>
 kLoad (cQ Tryd.prog) w_6 39 v8 fun v9 w_7 =>
 kLoad (cQ Tryd.prog) w_7 41 v1_1 fun v11 w_8 =>
 kDrew w_8 fun w_9 =>
 (fun (c_1 : Cx) =>
 kCall c_1 w_9 98 #[] fun v7 w_10 =>
 kFa (cQ Tryd.prog) w_10 41 v1_1 0 fun v8_1 w_11 =>
 kSame v8_1 v8 (
 kLoad (cQ Tryd.prog) w_10 39 v8 fun v9_1 w_12 =>
 kSame v9_1 v9 (
 kLoad (cQ Tryd.prog) w_10 41 v1_1 fun v11_1 w_13 =>
 kSame v11_1 v11 (
 kLook (cQ Tryd.prog) w_10 143 v7 v9 false fun v10 w_14 =>
 kDrew w_14 fun w_15 =>
 kCallV c_1 w_15 v10 #[v11] fun v12 w_16 =>
 kDrew w_16 fun w_17 =>
 kStore c w_17 9 v2_1 v12 fun w_18 =>
 kStore c w_18 26 v3 (.int .i64 0) fun w_19 =>
 Lv Tryd.prog [.cell v2_1 9, .cell v3 26] R [{ target := .fn (.func 82) #[], args := #[v3, (.func (.func 97) #[] #[v2_1])] }] .returning w_19)))) ⟨Tryd.prog, fun ch w => ∀ _ : List Value, Lv Tryd.prog [.cell v2_1 9, .cell v3 26] R [{ target := .fn (.func 82) #[], args := #[v3, (.func (.func 97) #[] #[v2_1])] }] (.panicking ch) w, false⟩))) ⟨Tryd.prog, fun ch w => Lv Tryd.prog [.cell v2_1 9, .cell v3 26] R [{ target := .fn (.func 82) #[], args := #[v3, (.func (.func 97) #[] #[v2_1])] }] (.panicking ch) w, false⟩
theorem c55 (v0 : Int) (v1 : Int) (v2 : ByteArray) (R : Ending → World → Prop) (w : World) (h : vc55 v0 v1 v2 R w) : Calls Tryd.prog 55 #[(.agg #[(.int .i64 v0), (.int .i64 v1), (.string v2)])] w R :=
  calls_of_vc (A := { loops := [], pars := [], chs := [(3, (.q 1 (.q 2 (.q 4 (.e 0 (.q 3 (.e 5 .done)))))))] }) (Eq.mpr (show FnVc Tryd.prog { loops := [], pars := [], chs := [(3, (.q 1 (.q 2 (.q 4 (.e 0 (.q 3 (.e 5 .done)))))))] } 13 55 [(.agg #[(.int .i64 v0), (.int .i64 v1), (.string v2)])] R w = vc55 v0 v1 v2 R w by kernel_rfl) h)

/-- (*strings.Builder).WriteString -/
def vc56 (b : Value) (s : ByteArray) (R : Ending → World → Prop) (w : World) : Prop :=
 kCall (cR Tryd.prog R) w 99 #[b] fun v7 w_1 =>
 kNil (cR Tryd.prog R) w_1 b fun v10 w_2 =>
 kFa (cR Tryd.prog R) w_2 109 v10 1 fun v11 w_3 =>
 kLoad (cR Tryd.prog R) w_3 25 v11 fun v12 w_4 =>
 kBlt (cR Tryd.prog R) w_4 .append #[25, 9] 25 #[false, false] #[v12, (.string s)] fun v14 w_5 =>
 kNil (cR Tryd.prog R) w_5 b fun v15 w_6 =>
 kFa (cR Tryd.prog R) w_6 109 v15 1 fun v16 w_7 =>
 kStore (cR Tryd.prog R) w_7 25 v16 v14 fun w_8 =>
 kBlt (cR Tryd.prog R) w_8 .len #[9] 3 #[false] #[(.string s)] fun v18 w_9 =>
 R (.returned (.tuple #[v18, .nilIface])) w_9
theorem c56 (b : Value) (s : ByteArray) (R : Ending → World → Prop) (w : World) (h : vc56 b s R w) : Calls Tryd.prog 56 #[b, (.string s)] w R :=
  calls_of_vc (A := { loops := [], pars := [] }) (Eq.mpr (show FnVc Tryd.prog { loops := [], pars := [] } 19 56 [b, (.string s)] R w = vc56 b s R w by kernel_rfl) h)

/-- strings.Join -/
def vc57 (elems : Option Addr) (elemsn : Nat) (elemsc : Nat) (sep : ByteArray) (R : Ending → World → Prop) (w : World) : Prop :=
 kBlt (cR Tryd.prog R) w .len #[111] 3 #[false] #[(.slice elems elemsn elemsc)] fun v12 w_1 =>
 kEq (cR Tryd.prog R) w_1 .eql 3 (.tmp 12) (.const (.int .i64 0)) v12 (.int .i64 0) fun v14 w_2 =>
 kIf v14 (
 R (.returned (.string ⟨#[]⟩)) w_2) (
 kEq (cR Tryd.prog R) w_2 .eql 3 (.tmp 12) (.const (.int .i64 1)) v12 (.int .i64 1) fun v16 w_3 =>
 kIf v16 (
 kIa (cR Tryd.prog R) w_3 111 (.slice elems elemsn elemsc) (.int .i64 0) fun v18 w_4 =>
 kLoad (cR Tryd.prog R) w_4 9 v18 fun v19 w_5 =>
 R (.returned v19) w_5) (
 kJn (fun J =>
 kBlt (cR Tryd.prog R) w_3 .len #[9] 3 #[false] #[(.string sep)] fun v21 w_35 =>
 kBin (cR Tryd.prog R) w_35 .gtr 3 v21 (.int .i64 0) fun v22 w_36 =>
 kIf v22 (
 kJn (fun J_2 =>
 kBlt (cR Tryd.prog R) w_36 .len #[9] 3 #[false] #[(.string sep)] fun v24 w_43 =>
 kBlt (cR Tryd.prog R) w_43 .len #[111] 3 #[false] #[(.slice elems elemsn elemsc)] fun v26 w_44 =>
 kBin (cR Tryd.prog R) w_44 .sub 3 v26 (.int .i64 1) fun v27 w_45 =>
 kBin (cR Tryd.prog R) w_45 .quo 3 (.int .i64 9223372036854775807) v27 fun v28 w_46 =>
 kBin (cR Tryd.prog R) w_46 .geq 3 v24 v28 fun v29 w_47 =>
 kIf v29 (
 kMkI (cR Tryd.prog R) w_47 9 (.string ⟨#[115, 116, 114, 105, 110, 103, 115, 58, 32, 74, 111, 105, 110, 32, 111, 117, 116, 112, 117, 116, 32, 108, 101, 110, 103, 116, 104, 32, 111, 118, 101, 114, 102, 108, 111, 119]⟩) fun v30 w_48 =>
 kPanic (cR Tryd.prog R) w_48 v30) (
 kD [] [] (J_2 [] w_47))) (fun cs_4 w_37 => ∀ ds_4 : List Value,
 kBlt (cR Tryd.prog R) w_37 .len #[9] 3 #[false] #[(.string sep)] fun v33 w_38 =>
 kBlt (cR Tryd.prog R) w_38 .len #[111] 3 #[false] #[(.slice elems elemsn elemsc)] fun v35 w_39 =>
 kBin (cR Tryd.prog R) w_39 .sub 3 v35 (.int .i64 1) fun v36 w_40 =>
 kBin (cR Tryd.prog R) w_40 .mul 3 v33 v36 fun v37 w_41 =>
 kBin (cR Tryd.prog R) w_41 .add 3 (.int .i64 0) v37 fun v38 w_42 =>
 kD [] [] (J [v38] w_42))) (
 kD [] [] (J [(.int .i64 0)] w_36))) (fun cs w_6 => ∀ ds : List Value,
 (fun j5 =>
 kBlt (cR Tryd.prog R) w_6 .len #[111] 3 #[false] #[(.slice elems elemsn elemsc)] fun v40 w_7 =>
 kLoopF [j5, (.int .i64 0)] w_7 fun cs_1 ds_1 w_8 N =>
 (fun x5 x41 =>
 kBin (cR Tryd.prog R) w_8 .lss 3 x41 v40 fun v42 w_9 =>
 kIf v42 (
 kIa (cR Tryd.prog R) w_9 111 (.slice elems elemsn elemsc) x41 fun v43 w_10 =>
 kLoad (cR Tryd.prog R) w_10 9 v43 fun v44 w_11 =>
 kJn (fun J_1 =>
 kBlt (cR Tryd.prog R) w_11 .len #[9] 3 #[false] #[v44] fun v46 w_16 =>
 kBin (cR Tryd.prog R) w_16 .sub 3 (.int .i64 9223372036854775807) x5 fun v48 w_17 =>
 kBin (cR Tryd.prog R) w_17 .gtr 3 v46 v48 fun v49 w_18 =>
 kIf v49 (
 kMkI (cR Tryd.prog R) w_18 9 (.string ⟨#[115, 116, 114, 105, 110, 103, 115, 58, 32, 74, 111, 105, 110, 32, 111, 117, 116, 112, 117, 116, 32, 108, 101, 110, 103, 116, 104, 32, 111, 118, 101, 114, 102, 108, 111, 119]⟩) fun v50 w_19 =>
 kPanic (cR Tryd.prog R) w_19 v50) (
 kD [] [] (J_1 [] w_18))) (fun cs_2 w_12 => ∀ ds_2 : List Value,
 kBlt (cR Tryd.prog R) w_12 .len #[9] 3 #[false] #[v44] fun v53 w_13 =>
 kBin (cR Tryd.prog R) w_13 .add 3 x5 v53 fun v54 w_14 =>
 kBin (cR Tryd.prog R) w_14 .add 3 x41 (.int .i64 1) fun v55 w_15 =>
 kD [] [] (N [v54, v55] w_15))) (
 kAlloc (cR Tryd.prog R) w_9 109 fun v8 w_20 =>
 kCall (cR Tryd.prog R) w_20 100 #[v8, x5] fun v57 w_21 =>
 kIa (cR Tryd.prog R) w_21 111 (.slice elems elemsn elemsc) (.int .i64 0) fun v59 w_22 =>
 kLoad (cR Tryd.prog R) w_22 9 v59 fun v60 w_23 =>
 kCall (cR Tryd.prog R) w_23 56 #[v8, v60] fun v61 w_24 =>
 kSl (cR Tryd.prog R) w_24 111 (.slice elems elemsn elemsc) (some (.int .i64 1)) none none fun v63 w_25 =>
 kBlt (cR Tryd.prog R) w_25 .len #[111] 3 #[false] #[v63] fun v64 w_26 =>
 kLoopF [(.int .i64 0)] w_26 fun cs_3 ds_3 w_27 N_1 =>
 (fun x65 =>
 kBin (cR Tryd.prog R) w_27 .lss 3 x65 v64 fun v66 w_28 =>
 kIf v66 (
 kIa (cR Tryd.prog R) w_28 111 v63 x65 fun v67 w_29 =>
 kLoad (cR Tryd.prog R) w_29 9 v67 fun v68 w_30 =>
 kCall (cR Tryd.prog R) w_30 56 #[v8, (.string sep)] fun v70 w_31 =>
 kCall (cR Tryd.prog R) w_31 56 #[v8, v68] fun v72 w_32 =>
 kBin (cR Tryd.prog R) w_32 .add 3 x65 (.int .i64 1) fun v73 w_33 =>
 kD [] [] (N_1 [v73] w_33)) (
 kCall (cR Tryd.prog R) w_28 59 #[v8] fun v74 w_34 =>
 R (.returned v74) w_34)) (cs_3.getD 0 undef))) (cs_1.getD 0 undef) (cs_1.getD 1 undef)) (cs.getD 0 undef))))
theorem c57 (elems : Option Addr) (elemsn : Nat) (elemsc : Nat) (sep : ByteArray) (R : Ending → World → Prop) (w : World) (h : vc57 elems elemsn elemsc sep R w) : Calls Tryd.prog 57 #[(.slice elems elemsn elemsc), (.string sep)] w R :=
  calls_of_vc (A := { loops := [(1000016, []), (3, [65]), (1, [5, 41]), (1000011, [5]), (1000010, [])], pars := [] }) (Eq.mpr (show FnVc Tryd.prog { loops := [(1000016, []), (3, [65]), (1, [5, 41]), (1000011, [5]), (1000010, [])], pars := [] } 75 57 [(.slice elems elemsn elemsc), (.string sep)] R w = vc57 elems elemsn elemsc sep R w by kernel_rfl) h)

/-- loupe/code.some[int,string] -/
def vc58 (l : Option Addr) (ln : Nat) (lc : Nat) (tell : Value) (R : Ending → World → Prop) (w : World) : Prop :=
 kBlt (cR Tryd.prog R) w .len #[48] 3 #[false] #[(.slice l ln lc)] fun v8 w_1 =>
 kLoopF [(.slice none 0 0), (.int .i64 0)] w_1 fun cs ds w_2 N =>
 (fun x4 x9 =>
 kBin (cR Tryd.prog R) w_2 .lss 3 x9 v8 fun v10 w_3 =>
 kIf v10 (
 kIa (cR Tryd.prog R) w_3 48 (.slice l ln lc) x9 fun v11 w_4 =>
 kLoad (cR Tryd.prog R) w_4 3 v11 fun v12 w_5 =>
 kCallV (cR Tryd.prog R) w_5 tell #[v12] fun v16 w_6 =>
 kBuildS (cR Tryd.prog R) w_6 111 1 #[(0, v16)] fun v17 w_7 =>
 kBlt (cR Tryd.prog R) w_7 .append #[111, 111] 111 #[false, false] #[x4, v17] fun v18 w_8 =>
 kBin (cR Tryd.prog R) w_8 .add 3 x9 (.int .i64 1) fun v19 w_9 =>
 kD [] [] (N [v18, v19] w_9)) (
 R (.returned x4) w_3)) (cs.getD 0 undef) (cs.getD 1 undef)
theorem c58 (l : Option Addr) (ln : Nat) (lc : Nat) (tell : Value) (R : Ending → World → Prop) (w : World) (h : vc58 l ln lc tell R w) : Calls Tryd.prog 58 #[(.slice l ln lc), tell] w R :=
  calls_of_vc (A := { loops := [(0, [4, 9])], pars := [] }) (Eq.mpr (show FnVc Tryd.prog { loops := [(0, [4, 9])], pars := [] } 21 58 [(.slice l ln lc), tell] R w = vc58 l ln lc tell R w by kernel_rfl) h)

/-- slices.Clone[[]loupe/api.Ins,loupe/api.Ins] -/
def vc60 (s : Option Addr) (sn : Nat) (sc : Nat) (R : Ending → World → Prop) (w : World) : Prop :=
 kEq (cR Tryd.prog R) w .eql 45 (.tmp 3) (.const (.slice none 0 0)) (.slice s sn sc) (.slice none 0 0) fun v4 w_1 =>
 kIf v4 (
 R (.returned (.slice none 0 0)) w_1) (
 kBuildS (cR Tryd.prog R) w_1 45 0 #[] fun v5 w_2 =>
 kBlt (cR Tryd.prog R) w_2 .append #[45, 45] 45 #[false, false] #[v5, (.slice s sn sc)] fun v7 w_3 =>
 R (.returned v7) w_3)
theorem c60 (s : Option Addr) (sn : Nat) (sc : Nat) (R : Ending → World → Prop) (w : World) (h : vc60 s sn sc R w) : Calls Tryd.prog 60 #[(.slice s sn sc)] w R :=
  calls_of_vc (A := { loops := [], pars := [] }) (Eq.mpr (show FnVc Tryd.prog { loops := [], pars := [] } 8 60 [(.slice s sn sc)] R w = vc60 s sn sc R w by kernel_rfl) h)

/-- loupe/code.Targets$1 -/
def vc61 (yield : Value) (f0 : Value) (f1 : Value) (f2 : Value) (R : Ending → World → Prop) (w : World) : Prop :=
 kLoad (cR Tryd.prog R) w 45 f0 fun v9 w_1 =>
 kBlt (cR Tryd.prog R) w_1 .len #[45] 3 #[false] #[v9] fun v10 w_2 =>
 kLoopF [(.int .i64 0)] w_2 fun cs ds w_3 N =>
 (fun x11 =>
 kBin (cR Tryd.prog R) w_3 .lss 3 x11 v10 fun v12 w_4 =>
 kIf v12 (
 kIa (cR Tryd.prog R) w_4 45 v9 x11 fun v14 w_5 =>
 kLoad (cR Tryd.prog R) w_5 50 v14 fun v15 w_6 =>
 kAlloc (cR Tryd.prog R) w_6 50 fun v6 w_7 =>
 kStore (cR Tryd.prog R) w_7 50 v6 v15 fun w_8 =>
 kLoad (cR Tryd.prog R) w_8 79 f1 fun v16 w_9 =>
 kFa (cR Tryd.prog R) w_9 50 v6 0 fun v17 w_10 =>
 kLoad (cR Tryd.prog R) w_10 46 v17 fun v18 w_11 =>
 kLook (cR Tryd.prog R) w_11 79 v16 v18 false fun v19 w_12 =>
 kFd (cR Tryd.prog R) w_12 84 v19 1 fun v20 w_13 =>
 kBlt (cR Tryd.prog R) w_13 .len #[81] 3 #[false] #[v20] fun v21 w_14 =>
 kLoopF [(.int .i64 0)] w_14 fun cs_1 ds_1 w_15 N_1 =>
 (fun x22 =>
 kBin (cR Tryd.prog R) w_15 .lss 3 x22 v21 fun v23 w_16 =>
 kIf v23 (
 kIa (cR Tryd.prog R) w_16 81 v20 x22 fun v24 w_17 =>
 kLoad (cR Tryd.prog R) w_17 89 v24 fun v25 w_18 =>
 kAlloc (cR Tryd.prog R) w_18 89 fun v8 w_19 =>
 kStore (cR Tryd.prog R) w_19 89 v8 v25 fun w_20 =>
 kLoad (cR Tryd.prog R) w_20 4 f2 fun v26 w_21 =>
 kIf v26 (
 kFa (cR Tryd.prog R) w_21 89 v8 3 fun v28 w_22 =>
 kLoad (cR Tryd.prog R) w_22 4 v28 fun v29 w_23 =>
 kIf v29 (
 kFa (cR Tryd.prog R) w_23 89 v8 0 fun v34 w_24 =>
 kLoad (cR Tryd.prog R) w_24 87 v34 fun v35 w_25 =>
 kCallV (cR Tryd.prog R) w_25 v35 #[v6] fun v36 w_26 =>
 kNil (cR Tryd.prog R) w_26 v36 fun v37 w_27 =>
 kLoad (cR Tryd.prog R) w_27 3 v37 fun v38 w_28 =>
 kCallV (cR Tryd.prog R) w_28 yield #[x11, v38] fun v39 w_29 =>
 kUn (cR Tryd.prog R) w_29 .not v39 fun v40 w_30 =>
 kIf v40 (
 R (.returned (.tuple #[])) w_30) (
 kBin (cR Tryd.prog R) w_30 .add 3 x22 (.int .i64 1) fun v42 w_31 =>
 kD [] [] (N_1 [v42] w_31))) (
 kIf (.bool false) (
 R (.returned (.tuple #[])) w_23) (
 kBin (cR Tryd.prog R) w_23 .add 3 x22 (.int .i64 1) fun v42_1 w_32 =>
 kD [] [] (N_1 [v42_1] w_32)))) (
 kIf (.bool false) (
 R (.returned (.tuple #[])) w_21) (
 kBin (cR Tryd.prog R) w_21 .add 3 x22 (.int .i64 1) fun v42_2 w_33 =>
 kD [] [] (N_1 [v42_2] w_33)))) (
 kBin (cR Tryd.prog R) w_16 .add 3 x11 (.int .i64 1) fun v43 w_34 =>
 kD [] [] (N [v43] w_34))) (cs_1.getD 0 undef)) (
 R (.returned (.tuple #[])) w_4)) (cs.getD 0 undef)
theorem c61 (yield : Value) (f0 : Value) (f1 : Value) (f2 : Value) (R : Ending → World → Prop) (w : World) (h : vc61 yield f0 f1 f2 R w) : Calls Tryd.prog 61 #[yield, f0, f1, f2] w R :=
  calls_of_vc (A := { loops := [(2, [22]), (0, [11])], pars := [] }) (Eq.mpr (show FnVc Tryd.prog { loops := [(2, [22]), (0, [11])], pars := [] } 44 61 [yield, f0, f1, f2] R w = vc61 yield f0 f1 f2 R w by kernel_rfl) h)

/-- loupe/code.kinds$1 -/
def vc62 (x : Value) (R : Ending → World → Prop) (w : World) : Prop :=
 kNil (cR Tryd.prog R) w x fun v4 w_1 =>
 kFa (cR Tryd.prog R) w_1 50 v4 1 fun v5 w_2 =>
 R (.returned v5) w_2
theorem c62 (x : Value) (R : Ending → World → Prop) (w : World) (h : vc62 x R w) : Calls Tryd.prog 62 #[x] w R :=
  calls_of_vc (A := { loops := [], pars := [] }) (Eq.mpr (show FnVc Tryd.prog { loops := [], pars := [] } 6 62 [x] R w = vc62 x R w by kernel_rfl) h)

/-- loupe/code.kinds$2 -/
def vc63 (x : Value) (R : Ending → World → Prop) (w : World) : Prop :=
 kNil (cR Tryd.prog R) w x fun v4 w_1 =>
 kFa (cR Tryd.prog R) w_1 50 v4 2 fun v5 w_2 =>
 R (.returned v5) w_2
theorem c63 (x : Value) (R : Ending → World → Prop) (w : World) (h : vc63 x R w) : Calls Tryd.prog 63 #[x] w R :=
  calls_of_vc (A := { loops := [], pars := [] }) (Eq.mpr (show FnVc Tryd.prog { loops := [], pars := [] } 6 63 [x] R w = vc63 x R w by kernel_rfl) h)

/-- loupe/code.kinds$3 -/
def vc64 (x : Value) (R : Ending → World → Prop) (w : World) : Prop :=
 kNil (cR Tryd.prog R) w x fun v4 w_1 =>
 kFa (cR Tryd.prog R) w_1 50 v4 3 fun v5 w_2 =>
 R (.returned v5) w_2
theorem c64 (x : Value) (R : Ending → World → Prop) (w : World) (h : vc64 x R w) : Calls Tryd.prog 64 #[x] w R :=
  calls_of_vc (A := { loops := [], pars := [] }) (Eq.mpr (show FnVc Tryd.prog { loops := [], pars := [] } 6 64 [x] R w = vc64 x R w by kernel_rfl) h)

/-- loupe/code.kinds$4 -/
def vc65 (ofA : Value) (R : Ending → World → Prop) (w : World) : Prop :=
 kAlloc (cR Tryd.prog R) w 89 fun v2 w_1 =>
 kBuild (cR Tryd.prog R) w_1 89 #[(0, ofA), (1, (.int .i64 0)), (2, (.int .i64 399)), (3, (.bool false))] fun v4 w_2 =>
 kStore (cR Tryd.prog R) w_2 89 v2 v4 fun w_3 =>
 RetK Tryd.prog [.cell v2 89] R w_3
theorem c65 (ofA : Value) (R : Ending → World → Prop) (w : World) (h : vc65 ofA R w) : Calls Tryd.prog 65 #[ofA] w R :=
  calls_of_vc (A := { loops := [], pars := [] }) (Eq.mpr (show FnVc Tryd.prog { loops := [], pars := [] } 5 65 [ofA] R w = vc65 ofA R w by kernel_rfl) h)

/-- loupe/code.kinds$5 -/
def vc66 (ofA : Value) (R : Ending → World → Prop) (w : World) : Prop :=
 kAlloc (cR Tryd.prog R) w 89 fun v2 w_1 =>
 kBuild (cR Tryd.prog R) w_1 89 #[(0, ofA), (1, (.int .i64 0)), (2, (.int .i64 15)), (3, (.bool false))] fun v4 w_2 =>
 kStore (cR Tryd.prog R) w_2 89 v2 v4 fun w_3 =>
 RetK Tryd.prog [.cell v2 89] R w_3
theorem c66 (ofA : Value) (R : Ending → World → Prop) (w : World) (h : vc66 ofA R w) : Calls Tryd.prog 66 #[ofA] w R :=
  calls_of_vc (A := { loops := [], pars := [] }) (Eq.mpr (show FnVc Tryd.prog { loops := [], pars := [] } 5 66 [ofA] R w = vc66 ofA R w by kernel_rfl) h)

/-- loupe/code.kinds$6 -/
def vc67 (ofA : Value) (R : Ending → World → Prop) (w : World) : Prop :=
 kAlloc (cR Tryd.prog R) w 89 fun v2 w_1 =>
 kBuild (cR Tryd.prog R) w_1 89 #[(0, ofA), (1, (.int .i64 0)), (2, (.int .i64 31)), (3, (.bool false))] fun v4 w_2 =>
 kStore (cR Tryd.prog R) w_2 89 v2 v4 fun w_3 =>
 RetK Tryd.prog [.cell v2 89] R w_3
theorem c67 (ofA : Value) (R : Ending → World → Prop) (w : World) (h : vc67 ofA R w) : Calls Tryd.prog 67 #[ofA] w R :=
  calls_of_vc (A := { loops := [], pars := [] }) (Eq.mpr (show FnVc Tryd.prog { loops := [], pars := [] } 5 67 [ofA] R w = vc67 ofA R w by kernel_rfl) h)

/-- loupe/code.kinds$7 -/
def vc68 (ofA : Value) (R : Ending → World → Prop) (w : World) : Prop :=
 kAlloc (cR Tryd.prog R) w 89 fun v2 w_1 =>
 kBuild (cR Tryd.prog R) w_1 89 #[(0, ofA), (1, (.int .i64 0)), (2, (.int .i64 400)), (3, (.bool false))] fun v4 w_2 =>
 kStore (cR Tryd.prog R) w_2 89 v2 v4 fun w_3 =>
 RetK Tryd.prog [.cell v2 89] R w_3
theorem c68 (ofA : Value) (R : Ending → World → Prop) (w : World) (h : vc68 ofA R w) : Calls Tryd.prog 68 #[ofA] w R :=
  calls_of_vc (A := { loops := [], pars := [] }) (Eq.mpr (show FnVc Tryd.prog { loops := [], pars := [] } 5 68 [ofA] R w = vc68 ofA R w by kernel_rfl) h)

/-- loupe/code.kinds$8 -/
def vc69 (ofA : Value) (R : Ending → World → Prop) (w : World) : Prop :=
 kAlloc (cR Tryd.prog R) w 89 fun v2 w_1 =>
 kBuild (cR Tryd.prog R) w_1 89 #[(0, ofA), (1, (.int .i64 0)), (2, (.int .i64 0)), (3, (.bool true))] fun v4 w_2 =>
 kStore (cR Tryd.prog R) w_2 89 v2 v4 fun w_3 =>
 RetK Tryd.prog [.cell v2 89] R w_3
theorem c69 (ofA : Value) (R : Ending → World → Prop) (w : World) (h : vc69 ofA R w) : Calls Tryd.prog 69 #[ofA] w R :=
  calls_of_vc (A := { loops := [], pars := [] }) (Eq.mpr (show FnVc Tryd.prog { loops := [], pars := [] } 5 69 [ofA] R w = vc69 ofA R w by kernel_rfl) h)

/-- loupe/code.kinds$9 -/
def vc70 (ofA : Value) (R : Ending → World → Prop) (w : World) : Prop :=
 kAlloc (cR Tryd.prog R) w 89 fun v2 w_1 =>
 kBuild (cR Tryd.prog R) w_1 89 #[(0, ofA), (1, (.int .i64 (-1))), (2, (.int .i64 2147483647)), (3, (.bool false))] fun v4 w_2 =>
 kStore (cR Tryd.prog R) w_2 89 v2 v4 fun w_3 =>
 RetK Tryd.prog [.cell v2 89] R w_3
theorem c70 (ofA : Value) (R : Ending → World → Prop) (w : World) (h : vc70 ofA R w) : Calls Tryd.prog 70 #[ofA] w R :=
  calls_of_vc (A := { loops := [], pars := [] }) (Eq.mpr (show FnVc Tryd.prog { loops := [], pars := [] } 5 70 [ofA] R w = vc70 ofA R w by kernel_rfl) h)

/-- loupe/code.nothing -/
def vc71 (a0 : Int) (a1 : Int) (a2 : Int) (a3 : Int) (a4 : Int) (a5 : Int) (a6 : Int) (a7 : ByteArray) (a8 : ByteArray) (a9 : Option Addr) (a9n : Nat) (a9c : Nat) (R : Ending → World → Prop) (w : World) : Prop :=
 kBox (cR Tryd.prog R) w 50 (.agg #[(.int .i64 a0), (.int .i64 a1), (.int .i64 a2), (.int .i64 a3), (.int .i64 a4), (.int .i64 a5), (.int .i64 a6), (.string a7), (.string a8), (.slice a9 a9n a9c)]) fun v1 w_1 =>
 kAlloc (cR Tryd.prog R) w_1 50 fun v2 w_2 =>
 kBuild (cR Tryd.prog R) w_2 50 #[] fun v4 w_3 =>
 kStore (cR Tryd.prog R) w_3 50 v2 v4 fun w_4 =>
 RetK Tryd.prog [.cell v2 50, .val (.bool true)] R w_4
theorem c71 (a0 : Int) (a1 : Int) (a2 : Int) (a3 : Int) (a4 : Int) (a5 : Int) (a6 : Int) (a7 : ByteArray) (a8 : ByteArray) (a9 : Option Addr) (a9n : Nat) (a9c : Nat) (R : Ending → World → Prop) (w : World) (h : vc71 a0 a1 a2 a3 a4 a5 a6 a7 a8 a9 a9n a9c R w) : Calls Tryd.prog 71 #[(.agg #[(.int .i64 a0), (.int .i64 a1), (.int .i64 a2), (.int .i64 a3), (.int .i64 a4), (.int .i64 a5), (.int .i64 a6), (.string a7), (.string a8), (.slice a9 a9n a9c)])] w R :=
  calls_of_vc (A := { loops := [], pars := [] }) (Eq.mpr (show FnVc Tryd.prog { loops := [], pars := [] } 5 71 [(.agg #[(.int .i64 a0), (.int .i64 a1), (.int .i64 a2), (.int .i64 a3), (.int .i64 a4), (.int .i64 a5), (.int .i64 a6), (.string a7), (.string a8), (.slice a9 a9n a9c)])] R w = vc71 a0 a1 a2 a3 a4 a5 a6 a7 a8 a9 a9n a9c R w by kernel_rfl) h)

/-- loupe/code.valued -/
def vc72 (x0 : Int) (x1 : Int) (x2 : Int) (x3 : Int) (x4 : Int) (x5 : Int) (x6 : Int) (x7 : ByteArray) (x8 : ByteArray) (x9 : Option Addr) (x9n : Nat) (x9c : Nat) (R : Ending → World → Prop) (w : World) : Prop :=
 kBox (cR Tryd.prog R) w 50 (.agg #[(.int .i64 x0), (.int .i64 x1), (.int .i64 x2), (.int .i64 x3), (.int .i64 x4), (.int .i64 x5), (.int .i64 x6), (.string x7), (.string x8), (.slice x9 x9n x9c)]) fun v1 w_1 =>
 kAlloc (cR Tryd.prog R) w_1 50 fun v2 w_2 =>
 kDrawn true (
 kDrawn true (
 kFa (cQ Tryd.prog) w_2 50 v1 5 fun v4 w_3 =>
 kLoad (cQ Tryd.prog) w_3 41 v4 fun v5 w_4 =>
 kBuild (cQ Tryd.prog) w_4 50 #[(5, v5)] fun v6 w_5 =>
 kFa (cQ Tryd.prog) w_5 50 v1 5 fun v7 w_6 =>
 kLoad (cQ Tryd.prog) w_6 41 v7 fun v8 w_7 =>
 kDrew w_7 fun w_8 =>
 (fun (c : Cx) =>
 kCall c w_8 42 #[v8] fun v9 w_9 =>
 kFa (cQ Tryd.prog) w_9 50 v1 5 fun v4_1 w_10 =>
 kSame v4_1 v4 (
 kLoad (cQ Tryd.prog) w_9 41 v4 fun v5_1 w_11 =>
 kSame v5_1 v5 (
 kBuild (cQ Tryd.prog) w_9 50 #[(5, v5)] fun v6_1 w_12 =>
 kSame v6_1 v6 (
 kEq (cQ Tryd.prog) w_9 .eql 26 (.tmp 9) (.const (.int .i64 0)) v9 (.int .i64 0) fun v10 w_13 =>
 kDrew w_13 fun w_14 =>
 kStore c w_14 50 v2 v6 fun w_15 =>
 kEq (cQ Tryd.prog) w_15 .eql 26 (.tmp 9) (.const (.int .i64 0)) v9 (.int .i64 0) fun v10_1 w_16 =>
 kSame v10_1 v10 (
 kDrew w_15 fun w_17 =>
 RetK Tryd.prog [.cell v2 50, .val v10] R w_17))))) ⟨Tryd.prog, fun ch w => ∀ _ : List Value, R (.panicked ch) w, false⟩))
theorem c72 (x0 : Int) (x1 : Int) (x2 : Int) (x3 : Int) (x4 : Int) (x5 : Int) (x6 : Int) (x7 : ByteArray) (x8 : ByteArray) (x9 : Option Addr) (x9n : Nat) (x9c : Nat) (R : Ending → World → Prop) (w : World) (h : vc72 x0 x1 x2 x3 x4 x5 x6 x7 x8 x9 x9n x9c R w) : Calls Tryd.prog 72 #[(.agg #[(.int .i64 x0), (.int .i64 x1), (.int .i64 x2), (.int .i64 x3), (.int .i64 x4), (.int .i64 x5), (.int .i64 x6), (.string x7), (.string x8), (.slice x9 x9n x9c)])] w R :=
  calls_of_vc (A := { loops := [], pars := [], chs := [(1, (.q 0 (.q 1 (.q 2 (.q 3 (.q 4 (.e 5 (.q 6 (.e 7 .done)))))))))] }) (Eq.mpr (show FnVc Tryd.prog { loops := [], pars := [], chs := [(1, (.q 0 (.q 1 (.q 2 (.q 3 (.q 4 (.e 5 (.q 6 (.e 7 .done)))))))))] } 11 72 [(.agg #[(.int .i64 x0), (.int .i64 x1), (.int .i64 x2), (.int .i64 x3), (.int .i64 x4), (.int .i64 x5), (.int .i64 x6), (.string x7), (.string x8), (.slice x9 x9n x9c)])] R w = vc72 x0 x1 x2 x3 x4 x5 x6 x7 x8 x9 x9n x9c R w by kernel_rfl) h)

/-- loupe/code.operated -/
def vc73 (x0 : Int) (x1 : Int) (x2 : Int) (x3 : Int) (x4 : Int) (x5 : Int) (x6 : Int) (x7 : ByteArray) (x8 : ByteArray) (x9 : Option Addr) (x9n : Nat) (x9c : Nat) (R : Ending → World → Prop) (w : World) : Prop :=
 kBox (cR Tryd.prog R) w 50 (.agg #[(.int .i64 x0), (.int .i64 x1), (.int .i64 x2), (.int .i64 x3), (.int .i64 x4), (.int .i64 x5), (.int .i64 x6), (.string x7), (.string x8), (.slice x9 x9n x9c)]) fun v1 w_1 =>
 kAlloc (cR Tryd.prog R) w_1 50 fun v2 w_2 =>
 kFa (cR Tryd.prog R) w_2 50 v1 4 fun v9 w_3 =>
 kLoad (cR Tryd.prog R) w_3 47 v9 fun v10 w_4 =>
 kCall (cR Tryd.prog R) w_4 54 #[v10] fun v11 w_5 =>
 kExt v11 0 fun v12 =>
 kExt v11 1 fun v13 =>
 kAlloc (cR Tryd.prog R) w_5 114 fun v4 w_6 =>
 kStore (cR Tryd.prog R) w_6 114 v4 v12 fun w_7 =>
 kDrawn true (
 kDrawn true (
 kJn (fun J =>
 kLoad (cQ Tryd.prog) w_7 50 v1 fun v16 w_8 =>
 kBoth (
 kDrew w_8 fun w_9 =>
 (fun (c : Cx) =>
 kCall c w_9 74 #[(.int .i64 0)] fun v15 w_10 =>
 kLoad (cQ Tryd.prog) w_10 50 v1 fun v16_1 w_11 =>
 kSame v16_1 v16 (
 kBoth (
 kDrew w_10 fun w_12 =>
 kCallV c w_12 v15 #[v16] fun v17 w_13 =>
 kExt v17 0 fun v18 =>
 kExt v17 1 fun v19 =>
 kDrew w_13 fun w_14 =>
 kAlloc c w_14 50 fun v6 w_15 =>
 kDrew w_15 fun w_16 =>
 kStore c w_16 50 v6 v18 fun w_17 =>
 kDrew w_17 fun w_18 => J [v15, v16, v17, v17, v18, v19, v6, undef] w_18) (
 kDrew w_10 fun w_19 =>
 kAlloc c w_19 50 fun v6_1 w_20 =>
 kLoad (cQ Tryd.prog) w_20 50 v1 fun v16_2 w_21 =>
 kSame v16_2 v16 (
 kDrew w_20 fun w_22 =>
 kCallV c w_22 v15 #[v16] fun v17_1 w_23 =>
 kExt v17_1 0 fun v18_1 =>
 kExt v17_1 1 fun v19_1 =>
 kDrew w_23 fun w_24 =>
 kStore c w_24 50 v6_1 v18_1 fun w_25 =>
 kDrew w_25 fun w_26 => J [v15, v16, v17_1, v17_1, v18_1, v19_1, v6_1, undef] w_26)))) ⟨Tryd.prog, fun ch w => ∀ _ : List Value, R (.panicked ch) w, false⟩) (
 kDrew w_8 fun w_27 =>
 (fun (c_1 : Cx) =>
 kAlloc c_1 w_27 50 fun v6_2 w_28 =>
 kLoad (cQ Tryd.prog) w_28 50 v1 fun v16_3 w_29 =>
 kSame v16_3 v16 (
 kDrew w_28 fun w_30 =>
 kCall c_1 w_30 74 #[(.int .i64 0)] fun v15_1 w_31 =>
 kLoad (cQ Tryd.prog) w_31 50 v1 fun v16_4 w_32 =>
 kSame v16_4 v16 (
 kDrew w_31 fun w_33 =>
 kCallV c_1 w_33 v15_1 #[v16] fun v17_2 w_34 =>
 kExt v17_2 0 fun v18_2 =>
 kExt v17_2 1 fun v19_2 =>
 kDrew w_34 fun w_35 =>
 kStore c_1 w_35 50 v6_2 v18_2 fun w_36 =>
 kDrew w_36 fun w_37 => J [v15_1, v16, v17_2, v17_2, v18_2, v19_2, v6_2, undef] w_37))) ⟨Tryd.prog, fun ch w => ∀ _ : List Value, R (.panicked ch) w, false⟩)) (fun cs w_38 =>
 (fun g5 g6 =>
 kFa (cR Tryd.prog R) w_38 50 v1 4 fun v20 w_39 =>
 kLoad (cR Tryd.prog R) w_39 47 v20 fun v21 w_40 =>
 kFa (cR Tryd.prog R) w_40 50 g6 4 fun v22 w_41 =>
 kStore (cR Tryd.prog R) w_41 47 v22 v21 fun w_42 =>
 kDrawn true (
 kDrawn true (
 kLoad (cQ Tryd.prog) w_42 50 g6 fun v23 w_43 =>
 kIf v13 (
 kIf g5 (
 kFa (cQ Tryd.prog) w_43 50 v1 7 fun v29 w_44 =>
 kLoad (cQ Tryd.prog) w_44 48 v29 fun v30 w_45 =>
 kBlt (cQ Tryd.prog) w_45 .len #[48] 3 #[false] #[v30] fun v31 w_46 =>
 kFa (cQ Tryd.prog) w_46 114 v4 1 fun v32 w_47 =>
 kLoad (cQ Tryd.prog) w_47 3 v32 fun v33 w_48 =>
 kEq (cQ Tryd.prog) w_48 .eql 3 (.tmp 31) (.tmp 33) v31 v33 fun v34 w_49 =>
 kDrew w_49 fun w_50 =>
 (fun (c_2 : Cx) =>
 kStore c_2 w_50 50 v2 v23 fun w_51 =>
 kFa (cQ Tryd.prog) w_51 50 v1 7 fun v29_1 w_52 =>
 kSame v29_1 v29 (
 kLoad (cQ Tryd.prog) w_51 48 v29 fun v30_1 w_53 =>
 kSame v30_1 v30 (
 kBlt (cQ Tryd.prog) w_51 .len #[48] 3 #[false] #[v30] fun v31_1 w_54 =>
 kSame v31_1 v31 (
 kFa (cQ Tryd.prog) w_51 114 v4 1 fun v32_1 w_55 =>
 kSame v32_1 v32 (
 kLoad (cQ Tryd.prog) w_51 3 v32 fun v33_1 w_56 =>
 kSame v33_1 v33 (
 kEq (cQ Tryd.prog) w_51 .eql 3 (.tmp 31) (.tmp 33) v31 v33 fun v34_1 w_57 =>
 kSame v34_1 v34 (
 kDrew w_51 fun w_58 =>
 RetK Tryd.prog [.cell v2 50, .val v34] R w_58))))))) ⟨Tryd.prog, fun ch w => ∀ _ : List Value, R (.panicked ch) w, false⟩) (
 kDrew w_43 fun w_59 =>
 (fun (c_3 : Cx) =>
 kStore c_3 w_59 50 v2 v23 fun w_60 =>
 kDrew w_60 fun w_61 =>
 RetK Tryd.prog [.cell v2 50, .val (.bool false)] R w_61) ⟨Tryd.prog, fun ch w => ∀ _ : List Value, R (.panicked ch) w, false⟩)) (
 kDrew w_43 fun w_62 =>
 (fun (c_4 : Cx) =>
 kStore c_4 w_62 50 v2 v23 fun w_63 =>
 kDrew w_63 fun w_64 =>
 RetK Tryd.prog [.cell v2 50, .val (.bool false)] R w_64) ⟨Tryd.prog, fun ch w => ∀ _ : List Value, R (.panicked ch) w, false⟩)))) (cs.getD 5 undef) (cs.getD 6 undef))))
theorem c73 (x0 : Int) (x1 : Int) (x2 : Int) (x3 : Int) (x4 : Int) (x5 : Int) (x6 : Int) (x7 : ByteArray) (x8 : ByteArray) (x9 : Option Addr) (x9n : Nat) (x9c : Nat) (R : Ending → World → Prop) (w : World) (h : vc73 x0 x1 x2 x3 x4 x5 x6 x7 x8 x9 x9n x9c R w) : Calls Tryd.prog 73 #[(.agg #[(.int .i64 x0), (.int .i64 x1), (.int .i64 x2), (.int .i64 x3), (.int .i64 x4), (.int .i64 x5), (.int .i64 x6), (.string x7), (.string x8), (.slice x9 x9n x9c)])] w R :=
  calls_of_vc (A := { loops := [], pars := [], chs := [(2, (.q 1 (.or 0 (.or 2 (.q 3 (.q 4 (.q 5 (.e 6 (.e 7 .done))))) (.e 6 (.e 2 (.q 3 (.q 4 (.q 5 (.e 7 .done))))))) (.e 6 (.e 0 (.e 2 (.q 3 (.q 4 (.q 5 (.e 7 .done)))))))))), (4, (.q 0 (.q 1 (.q 2 (.q 3 (.q 4 (.q 5 (.q 6 (.q 7 (.q 8 (.q 9 (.q 10 (.q 11 (.q 12 (.e 13 .done)))))))))))))))] }) (Eq.mpr (show FnVc Tryd.prog { loops := [], pars := [], chs := [(2, (.q 1 (.or 0 (.or 2 (.q 3 (.q 4 (.q 5 (.e 6 (.e 7 .done))))) (.e 6 (.e 2 (.q 3 (.q 4 (.q 5 (.e 7 .done))))))) (.e 6 (.e 0 (.e 2 (.q 3 (.q 4 (.q 5 (.e 7 .done)))))))))), (4, (.q 0 (.q 1 (.q 2 (.q 3 (.q 4 (.q 5 (.q 6 (.q 7 (.q 8 (.q 9 (.q 10 (.q 11 (.q 12 (.e 13 .done)))))))))))))))] } 36 73 [(.agg #[(.int .i64 x0), (.int .i64 x1), (.int .i64 x2), (.int .i64 x3), (.int .i64 x4), (.int .i64 x5), (.int .i64 x6), (.string x7), (.string x8), (.slice x9 x9n x9c)])] R w = vc73 x0 x1 x2 x3 x4 x5 x6 x7 x8 x9 x9n x9c R w by kernel_rfl) h)

/-- loupe/code.args -/
def vc74 (least : Int) (R : Ending → World → Prop) (w : World) : Prop :=
 kBox (cR Tryd.prog R) w 3 (.int .i64 least) fun v1 w_1 =>
 R (.returned (.func (.func 101) #[] #[v1])) w_1
theorem c74 (least : Int) (R : Ending → World → Prop) (w : World) (h : vc74 least R w) : Calls Tryd.prog 74 #[(.int .i64 least)] w R :=
  calls_of_vc (A := { loops := [], pars := [] }) (Eq.mpr (show FnVc Tryd.prog { loops := [], pars := [] } 4 74 [(.int .i64 least)] R w = vc74 least R w by kernel_rfl) h)

/-- loupe/code.named -/
def vc75 (x0 : Int) (x1 : Int) (x2 : Int) (x3 : Int) (x4 : Int) (x5 : Int) (x6 : Int) (x7 : ByteArray) (x8 : ByteArray) (x9 : Option Addr) (x9n : Nat) (x9c : Nat) (R : Ending → World → Prop) (w : World) : Prop :=
 kBox (cR Tryd.prog R) w 50 (.agg #[(.int .i64 x0), (.int .i64 x1), (.int .i64 x2), (.int .i64 x3), (.int .i64 x4), (.int .i64 x5), (.int .i64 x6), (.string x7), (.string x8), (.slice x9 x9n x9c)]) fun v1 w_1 =>
 kAlloc (cR Tryd.prog R) w_1 50 fun v2 w_2 =>
 kDrawn true (
 kDrawn true (
 kFa (cQ Tryd.prog) w_2 50 v1 6 fun v4 w_3 =>
 kLoad (cQ Tryd.prog) w_3 9 v4 fun v5 w_4 =>
 kBuild (cQ Tryd.prog) w_4 50 #[(6, v5)] fun v6 w_5 =>
 kFa (cQ Tryd.prog) w_5 50 v1 6 fun v7 w_6 =>
 kLoad (cQ Tryd.prog) w_6 9 v7 fun v8 w_7 =>
 kBlt (cQ Tryd.prog) w_7 .len #[9] 3 #[false] #[v8] fun v9 w_8 =>
 kDrew w_8 fun w_9 =>
 (fun (c : Cx) =>
 kBuildS c w_9 48 1 #[(0, v9)] fun v10 w_10 =>
 kFa (cQ Tryd.prog) w_10 50 v1 6 fun v4_1 w_11 =>
 kSame v4_1 v4 (
 kLoad (cQ Tryd.prog) w_10 9 v4 fun v5_1 w_12 =>
 kSame v5_1 v5 (
 kBuild (cQ Tryd.prog) w_10 50 #[(6, v5)] fun v6_1 w_13 =>
 kSame v6_1 v6 (
 kDrew w_10 fun w_14 =>
 kCall c w_14 39 #[(.int .i64 1), (.int .i64 100), v10] fun v11 w_15 =>
 kFa (cQ Tryd.prog) w_15 50 v1 6 fun v4_2 w_16 =>
 kSame v4_2 v4 (
 kLoad (cQ Tryd.prog) w_15 9 v4 fun v5_2 w_17 =>
 kSame v5_2 v5 (
 kBuild (cQ Tryd.prog) w_15 50 #[(6, v5)] fun v6_2 w_18 =>
 kSame v6_2 v6 (
 kDrew w_15 fun w_19 =>
 kStore c w_19 50 v2 v6 fun w_20 =>
 kDrew w_20 fun w_21 =>
 RetK Tryd.prog [.cell v2 50, .val v11] R w_21))))))) ⟨Tryd.prog, fun ch w => ∀ _ : List Value, R (.panicked ch) w, false⟩))
theorem c75 (x0 : Int) (x1 : Int) (x2 : Int) (x3 : Int) (x4 : Int) (x5 : Int) (x6 : Int) (x7 : ByteArray) (x8 : ByteArray) (x9 : Option Addr) (x9n : Nat) (x9c : Nat) (R : Ending → World → Prop) (w : World) (h : vc75 x0 x1 x2 x3 x4 x5 x6 x7 x8 x9 x9n x9c R w) : Calls Tryd.prog 75 #[(.agg #[(.int .i64 x0), (.int .i64 x1), (.int .i64 x2), (.int .i64 x3), (.int .i64 x4), (.int .i64 x5), (.int .i64 x6), (.string x7), (.string x8), (.slice x9 x9n x9c)])] w R :=
  calls_of_vc (A := { loops := [], pars := [], chs := [(1, (.q 0 (.q 1 (.q 2 (.q 3 (.q 4 (.q 5 (.e 6 (.e 7 (.e 8 .done))))))))))] }) (Eq.mpr (show FnVc Tryd.prog { loops := [], pars := [], chs := [(1, (.q 0 (.q 1 (.q 2 (.q 3 (.q 4 (.q 5 (.e 6 (.e 7 (.e 8 .done))))))))))] } 12 75 [(.agg #[(.int .i64 x0), (.int .i64 x1), (.int .i64 x2), (.int .i64 x3), (.int .i64 x4), (.int .i64 x5), (.int .i64 x6), (.string x7), (.string x8), (.slice x9 x9n x9c)])] R w = vc75 x0 x1 x2 x3 x4 x5 x6 x7 x8 x9 x9n x9c R w by kernel_rfl) h)

/-- loupe/code.summed -/
def vc76 (x0 : Int) (x1 : Int) (x2 : Int) (x3 : Int) (x4 : Int) (x5 : Int) (x6 : Int) (x7 : ByteArray) (x8 : ByteArray) (x9 : Option Addr) (x9n : Nat) (x9c : Nat) (R : Ending → World → Prop) (w : World) : Prop :=
 kBox (cR Tryd.prog R) w 50 (.agg #[(.int .i64 x0), (.int .i64 x1), (.int .i64 x2), (.int .i64 x3), (.int .i64 x4), (.int .i64 x5), (.int .i64 x6), (.string x7), (.string x8), (.slice x9 x9n x9c)]) fun v1 w_1 =>
 kAlloc (cR Tryd.prog R) w_1 50 fun v2 w_2 =>
 kDrawn true (
 kDrawn true (
 kFa (cQ Tryd.prog) w_2 50 v1 6 fun v4 w_3 =>
 kLoad (cQ Tryd.prog) w_3 9 v4 fun v5 w_4 =>
 kBuild (cQ Tryd.prog) w_4 50 #[(6, v5)] fun v6 w_5 =>
 kFa (cQ Tryd.prog) w_5 50 v1 6 fun v8 w_6 =>
 kLoad (cQ Tryd.prog) w_6 9 v8 fun v9 w_7 =>
 kDrew w_7 fun w_8 =>
 (fun (c : Cx) =>
 kBuildS c w_8 111 4 #[(0, (.string ⟨#[99, 111, 117, 110, 116]⟩)), (1, (.string ⟨#[115, 117, 109]⟩)), (2, (.string ⟨#[109, 105, 110]⟩)), (3, (.string ⟨#[109, 97, 120]⟩))] fun v7 w_9 =>
 kFa (cQ Tryd.prog) w_9 50 v1 6 fun v4_1 w_10 =>
 kSame v4_1 v4 (
 kLoad (cQ Tryd.prog) w_9 9 v4 fun v5_1 w_11 =>
 kSame v5_1 v5 (
 kBuild (cQ Tryd.prog) w_9 50 #[(6, v5)] fun v6_1 w_12 =>
 kSame v6_1 v6 (
 kFa (cQ Tryd.prog) w_9 50 v1 6 fun v8_1 w_13 =>
 kSame v8_1 v8 (
 kLoad (cQ Tryd.prog) w_9 9 v8 fun v9_1 w_14 =>
 kSame v9_1 v9 (
 kDrew w_9 fun w_15 =>
 kCall c w_15 102 #[v7, v9] fun v10 w_16 =>
 kFa (cQ Tryd.prog) w_16 50 v1 6 fun v4_2 w_17 =>
 kSame v4_2 v4 (
 kLoad (cQ Tryd.prog) w_16 9 v4 fun v5_2 w_18 =>
 kSame v5_2 v5 (
 kBuild (cQ Tryd.prog) w_16 50 #[(6, v5)] fun v6_2 w_19 =>
 kSame v6_2 v6 (
 kDrew w_16 fun w_20 =>
 kStore c w_20 50 v2 v6 fun w_21 =>
 kDrew w_21 fun w_22 =>
 RetK Tryd.prog [.cell v2 50, .val v10] R w_22))))))))) ⟨Tryd.prog, fun ch w => ∀ _ : List Value, R (.panicked ch) w, false⟩))
theorem c76 (x0 : Int) (x1 : Int) (x2 : Int) (x3 : Int) (x4 : Int) (x5 : Int) (x6 : Int) (x7 : ByteArray) (x8 : ByteArray) (x9 : Option Addr) (x9n : Nat) (x9c : Nat) (R : Ending → World → Prop) (w : World) (h : vc76 x0 x1 x2 x3 x4 x5 x6 x7 x8 x9 x9n x9c R w) : Calls Tryd.prog 76 #[(.agg #[(.int .i64 x0), (.int .i64 x1), (.int .i64 x2), (.int .i64 x3), (.int .i64 x4), (.int .i64 x5), (.int .i64 x6), (.string x7), (.string x8), (.slice x9 x9n x9c)])] w R :=
  calls_of_vc (A := { loops := [], pars := [], chs := [(1, (.q 0 (.q 1 (.q 2 (.q 4 (.q 5 (.e 3 (.e 6 (.e 7 .done)))))))))] }) (Eq.mpr (show FnVc Tryd.prog { loops := [], pars := [], chs := [(1, (.q 0 (.q 1 (.q 2 (.q 4 (.q 5 (.e 3 (.e 6 (.e 7 .done)))))))))] } 11 76 [(.agg #[(.int .i64 x0), (.int .i64 x1), (.int .i64 x2), (.int .i64 x3), (.int .i64 x4), (.int .i64 x5), (.int .i64 x6), (.string x7), (.string x8), (.slice x9 x9n x9c)])] R w = vc76 x0 x1 x2 x3 x4 x5 x6 x7 x8 x9 x9n x9c R w by kernel_rfl) h)

/-- loupe/code.sorted -/
def vc77 (x0 : Int) (x1 : Int) (x2 : Int) (x3 : Int) (x4 : Int) (x5 : Int) (x6 : Int) (x7 : ByteArray) (x8 : ByteArray) (x9 : Option Addr) (x9n : Nat) (x9c : Nat) (R : Ending → World → Prop) (w : World) : Prop :=
 kBox (cR Tryd.prog R) w 50 (.agg #[(.int .i64 x0), (.int .i64 x1), (.int .i64 x2), (.int .i64 x3), (.int .i64 x4), (.int .i64 x5), (.int .i64 x6), (.string x7), (.string x8), (.slice x9 x9n x9c)]) fun v1 w_1 =>
 kAlloc (cR Tryd.prog R) w_1 50 fun v2 w_2 =>
 kDrawn true (
 kDrawn true (
 kFa (cQ Tryd.prog) w_2 50 v1 7 fun v4 w_3 =>
 kLoad (cQ Tryd.prog) w_3 48 v4 fun v5 w_4 =>
 kBuild (cQ Tryd.prog) w_4 50 #[(7, v5)] fun v6 w_5 =>
 kFa (cQ Tryd.prog) w_5 50 v1 7 fun v7 w_6 =>
 kLoad (cQ Tryd.prog) w_6 48 v7 fun v8 w_7 =>
 kBlt (cQ Tryd.prog) w_7 .len #[48] 3 #[false] #[v8] fun v9 w_8 =>
 kBin (cQ Tryd.prog) w_8 .leq 3 v9 (.int .i64 200) fun v10 w_9 =>
 kIf v10 (
 kFa (cQ Tryd.prog) w_9 50 v1 7 fun v12 w_10 =>
 kLoad (cQ Tryd.prog) w_10 48 v12 fun v13 w_11 =>
 kDrew w_11 fun w_12 =>
 (fun (c : Cx) =>
 kCall c w_12 39 #[(.int .i64 0), (.int .i64 1), v13] fun v14 w_13 =>
 kFa (cQ Tryd.prog) w_13 50 v1 7 fun v4_1 w_14 =>
 kSame v4_1 v4 (
 kLoad (cQ Tryd.prog) w_13 48 v4 fun v5_1 w_15 =>
 kSame v5_1 v5 (
 kBuild (cQ Tryd.prog) w_13 50 #[(7, v5)] fun v6_1 w_16 =>
 kSame v6_1 v6 (
 kDrew w_13 fun w_17 =>
 kStore c w_17 50 v2 v6 fun w_18 =>
 kDrew w_18 fun w_19 =>
 RetK Tryd.prog [.cell v2 50, .val v14] R w_19)))) ⟨Tryd.prog, fun ch w => ∀ _ : List Value, R (.panicked ch) w, false⟩) (
 kDrew w_9 fun w_20 =>
 (fun (c_1 : Cx) =>
 kStore c_1 w_20 50 v2 v6 fun w_21 =>
 kDrew w_21 fun w_22 =>
 RetK Tryd.prog [.cell v2 50, .val (.bool false)] R w_22) ⟨Tryd.prog, fun ch w => ∀ _ : List Value, R (.panicked ch) w, false⟩)))
theorem c77 (x0 : Int) (x1 : Int) (x2 : Int) (x3 : Int) (x4 : Int) (x5 : Int) (x6 : Int) (x7 : ByteArray) (x8 : ByteArray) (x9 : Option Addr) (x9n : Nat) (x9c : Nat) (R : Ending → World → Prop) (w : World) (h : vc77 x0 x1 x2 x3 x4 x5 x6 x7 x8 x9 x9n x9c R w) : Calls Tryd.prog 77 #[(.agg #[(.int .i64 x0), (.int .i64 x1), (.int .i64 x2), (.int .i64 x3), (.int .i64 x4), (.int .i64 x5), (.int .i64 x6), (.string x7), (.string x8), (.slice x9 x9n x9c)])] w R :=
  calls_of_vc (A := { loops := [], pars := [], chs := [(1, (.q 0 (.q 1 (.q 2 (.q 3 (.q 4 (.q 5 (.q 6 (.q 7 (.q 8 (.q 9 (.e 10 (.q 11 (.e 12 .done))))))))))))))] }) (Eq.mpr (show FnVc Tryd.prog { loops := [], pars := [], chs := [(1, (.q 0 (.q 1 (.q 2 (.q 3 (.q 4 (.q 5 (.q 6 (.q 7 (.q 8 (.q 9 (.e 10 (.q 11 (.e 12 .done))))))))))))))] } 16 77 [(.agg #[(.int .i64 x0), (.int .i64 x1), (.int .i64 x2), (.int .i64 x3), (.int .i64 x4), (.int .i64 x5), (.int .i64 x6), (.string x7), (.string x8), (.slice x9 x9n x9c)])] R w = vc77 x0 x1 x2 x3 x4 x5 x6 x7 x8 x9 x9n x9c R w by kernel_rfl) h)

/-- slices.ContainsFunc[[]int,int] -/
def vc78 (s : Option Addr) (sn : Nat) (sc : Nat) (f : Value) (R : Ending → World → Prop) (w : World) : Prop :=
 kCall (cR Tryd.prog R) w 103 #[(.slice s sn sc), f] fun v7 w_1 =>
 kBin (cR Tryd.prog R) w_1 .geq 3 v7 (.int .i64 0) fun v8 w_2 =>
 R (.returned v8) w_2
theorem c78 (s : Option Addr) (sn : Nat) (sc : Nat) (f : Value) (R : Ending → World → Prop) (w : World) (h : vc78 s sn sc f R w) : Calls Tryd.prog 78 #[(.slice s sn sc), f] w R :=
  calls_of_vc (A := { loops := [], pars := [] }) (Eq.mpr (show FnVc Tryd.prog { loops := [], pars := [] } 9 78 [(.slice s sn sc), f] R w = vc78 s sn sc f R w by kernel_rfl) h)

/-- loupe/code.in$1 -/
def vc79 (n : Int) (f0 : Value) (f1 : Value) (R : Ending → World → Prop) (w : World) : Prop :=
 kLoad (cR Tryd.prog R) w 3 f0 fun v6 w_1 =>
 kBin (cR Tryd.prog R) w_1 .lss 3 (.int .i64 n) v6 fun v7 w_2 =>
 kIf v7 (
 R (.returned (.bool true)) w_2) (
 kLoad (cR Tryd.prog R) w_2 3 f1 fun v10 w_3 =>
 kBin (cR Tryd.prog R) w_3 .gtr 3 (.int .i64 n) v10 fun v11 w_4 =>
 R (.returned v11) w_4)
theorem c79 (n : Int) (f0 : Value) (f1 : Value) (R : Ending → World → Prop) (w : World) (h : vc79 n f0 f1 R w) : Calls Tryd.prog 79 #[(.int .i64 n), f0, f1] w R :=
  calls_of_vc (A := { loops := [], pars := [] }) (Eq.mpr (show FnVc Tryd.prog { loops := [], pars := [] } 13 79 [(.int .i64 n), f0, f1] R w = vc79 n f0 f1 R w by kernel_rfl) h)

/-- slices.Equal[[]int,int] -/
def vc80 (s1 : Option Addr) (s1n : Nat) (s1c : Nat) (s2 : Option Addr) (s2n : Nat) (s2c : Nat) (R : Ending → World → Prop) (w : World) : Prop :=
 kBlt (cR Tryd.prog R) w .len #[48] 3 #[false] #[(.slice s1 s1n s1c)] fun v7 w_1 =>
 kBlt (cR Tryd.prog R) w_1 .len #[48] 3 #[false] #[(.slice s2 s2n s2c)] fun v9 w_2 =>
 kEq (cR Tryd.prog R) w_2 .neq 3 (.tmp 7) (.tmp 9) v7 v9 fun v10 w_3 =>
 kIf v10 (
 R (.returned (.bool false)) w_3) (
 kBlt (cR Tryd.prog R) w_3 .len #[48] 3 #[false] #[(.slice s1 s1n s1c)] fun v12 w_4 =>
 kLoopF [(.int .i64 0)] w_4 fun cs ds w_5 N =>
 (fun x13 =>
 kBin (cR Tryd.prog R) w_5 .lss 3 x13 v12 fun v14 w_6 =>
 kIf v14 (
 kDrawn true (
 kIa (cQ Tryd.prog) w_6 48 (.slice s1 s1n s1c) x13 fun v18 w_7 =>
 kLoad (cQ Tryd.prog) w_7 3 v18 fun v19 w_8 =>
 kIa (cQ Tryd.prog) w_8 48 (.slice s2 s2n s2c) x13 fun v22 w_9 =>
 kLoad (cQ Tryd.prog) w_9 3 v22 fun v23 w_10 =>
 kEq (cQ Tryd.prog) w_10 .neq 3 (.tmp 19) (.tmp 23) v19 v23 fun v24 w_11 =>
 kDrew w_6 fun w_12 =>
 kIf v24 (
 R (.returned (.bool false)) w_12) (
 kBin (cR Tryd.prog R) w_12 .add 3 x13 (.int .i64 1) fun v25 w_13 =>
 kD [] [] (N [v25] w_13)))) (
 R (.returned (.bool true)) w_6)) (cs.getD 0 undef))
theorem c80 (s1 : Option Addr) (s1n : Nat) (s1c : Nat) (s2 : Option Addr) (s2n : Nat) (s2c : Nat) (R : Ending → World → Prop) (w : World) (h : vc80 s1 s1n s1c s2 s2n s2c R w) : Calls Tryd.prog 80 #[(.slice s1 s1n s1c), (.slice s2 s2n s2c)] w R :=
  calls_of_vc (A := { loops := [(0, [13])], pars := [] }) (Eq.mpr (show FnVc Tryd.prog { loops := [(0, [13])], pars := [] } 26 80 [(.slice s1 s1n s1c), (.slice s2 s2n s2c)] R w = vc80 s1 s1n s1c s2 s2n s2c R w by kernel_rfl) h)

/-- slices.Values[[]loupe/api.Value,loupe/api.Value]$1 -/
def vc81 (yield : Value) (f0 : Value) (R : Ending → World → Prop) (w : World) : Prop :=
 kLoad (cR Tryd.prog R) w 22 f0 fun v5 w_1 =>
 kBlt (cR Tryd.prog R) w_1 .len #[22] 3 #[false] #[v5] fun v6 w_2 =>
 kLoopF [(.int .i64 0)] w_2 fun cs ds w_3 N =>
 (fun x7 =>
 kBin (cR Tryd.prog R) w_3 .lss 3 x7 v6 fun v8 w_4 =>
 kIf v8 (
 kIa (cR Tryd.prog R) w_4 22 v5 x7 fun v9 w_5 =>
 kLoad (cR Tryd.prog R) w_5 41 v9 fun v10 w_6 =>
 kAlloc (cR Tryd.prog R) w_6 41 fun v4 w_7 =>
 kStore (cR Tryd.prog R) w_7 41 v4 v10 fun w_8 =>
 kLoad (cR Tryd.prog R) w_8 41 v4 fun v12 w_9 =>
 kCallV (cR Tryd.prog R) w_9 yield #[v12] fun v13 w_10 =>
 kUn (cR Tryd.prog R) w_10 .not v13 fun v14 w_11 =>
 kIf v14 (
 R (.returned (.tuple #[])) w_11) (
 kBin (cR Tryd.prog R) w_11 .add 3 x7 (.int .i64 1) fun v15 w_12 =>
 kD [] [] (N [v15] w_12))) (
 R (.returned (.tuple #[])) w_4)) (cs.getD 0 undef)
theorem c81 (yield : Value) (f0 : Value) (R : Ending → World → Prop) (w : World) (h : vc81 yield f0 R w) : Calls Tryd.prog 81 #[yield, f0] w R :=
  calls_of_vc (A := { loops := [(0, [7])], pars := [] }) (Eq.mpr (show FnVc Tryd.prog { loops := [(0, [7])], pars := [] } 16 81 [yield, f0] R w = vc81 yield f0 R w by kernel_rfl) h)

/-- loupe/value.Check$1 -/
def vc83  (R : Ending → World → Prop) (w : World) : Prop :=
 R (.returned (.tuple #[])) w
theorem c83  (R : Ending → World → Prop) (w : World) (h : vc83  R w) : Calls Tryd.prog 83 #[] w R :=
  calls_of_vc (A := { loops := [], pars := [] }) (Eq.mpr (show FnVc Tryd.prog { loops := [], pars := [] } 0 83 [] R w = vc83  R w by kernel_rfl) h)

/-- loupe/value.right -/
def vc84 (v0 : Int) (v1 : Int) (v2 : ByteArray) (R : Ending → World → Prop) (w : World) : Prop :=
 kBox (cR Tryd.prog R) w 41 (.agg #[(.int .i64 v0), (.int .i64 v1), (.string v2)]) fun v1_1 w_1 =>
 kFa (cR Tryd.prog R) w_1 41 v1_1 2 fun v3 w_2 =>
 kLoad (cR Tryd.prog R) w_2 9 v3 fun v4 w_3 =>
 kBlt (cR Tryd.prog R) w_3 .len #[9] 3 #[false] #[v4] fun v5 w_4 =>
 kBin (cR Tryd.prog R) w_4 .leq 3 v5 (.int .i64 1000) fun v6 w_5 =>
 kCall (cR Tryd.prog R) w_5 104 #[v6, (.int .i64 3)] fun v7 w_6 =>
 kFa (cR Tryd.prog R) w_6 41 v1_1 0 fun v8 w_7 =>
 kLoad (cR Tryd.prog R) w_7 39 v8 fun v9 w_8 =>
 kBuild (cR Tryd.prog R) w_8 41 #[(0, v9)] fun v10 w_9 =>
 kAlloc (cR Tryd.prog R) w_9 41 fun v2_1 w_10 =>
 kStore (cR Tryd.prog R) w_10 41 v2_1 v10 fun w_11 =>
 kJn (fun J =>
 kFa (cR Tryd.prog R) w_11 41 v1_1 0 fun v11 w_25 =>
 kLoad (cR Tryd.prog R) w_25 39 v11 fun v12 w_26 =>
 kEq (cR Tryd.prog R) w_26 .eql 39 (.tmp 12) (.const (.int .i64 1)) v12 (.int .i64 1) fun v14 w_27 =>
 kIf v14 (
 kFa (cR Tryd.prog R) w_27 41 v1_1 1 fun v15 w_28 =>
 kLoad (cR Tryd.prog R) w_28 2 v15 fun v16 w_29 =>
 kBin (cR Tryd.prog R) w_29 .and 2 v16 (.int .i64 1) fun v17 w_30 =>
 kFa (cR Tryd.prog R) w_30 41 v2_1 1 fun v18 w_31 =>
 kStore (cR Tryd.prog R) w_31 2 v18 v17 fun w_32 =>
 kD [] [] (J [] w_32)) (
 kEq (cR Tryd.prog R) w_27 .eql 39 (.tmp 12) (.const (.int .i64 2)) v12 (.int .i64 2) fun v20 w_33 =>
 kIf v20 (
 kFa (cR Tryd.prog R) w_33 41 v1_1 1 fun v21 w_34 =>
 kLoad (cR Tryd.prog R) w_34 2 v21 fun v22 w_35 =>
 kFa (cR Tryd.prog R) w_35 41 v2_1 1 fun v23 w_36 =>
 kStore (cR Tryd.prog R) w_36 2 v23 v22 fun w_37 =>
 kD [] [] (J [] w_37)) (
 kJn (fun J_1 =>
 kEq (cR Tryd.prog R) w_33 .eql 39 (.tmp 12) (.const (.int .i64 3)) v12 (.int .i64 3) fun v25 w_43 =>
 kIf v25 (
 kD [] [] (J_1 [v25] w_43)) (
 kEq (cR Tryd.prog R) w_43 .eql 39 (.tmp 12) (.const (.int .i64 4)) v12 (.int .i64 4) fun v26 w_44 =>
 kD [] [] (J_1 [v26] w_44))) (fun cs_1 w_38 => ∀ ds_1 : List Value,
 (fun j24 =>
 kIf j24 (
 kFa (cR Tryd.prog R) w_38 41 v1_1 2 fun v27 w_39 =>
 kLoad (cR Tryd.prog R) w_39 9 v27 fun v28 w_40 =>
 kFa (cR Tryd.prog R) w_40 41 v2_1 2 fun v29 w_41 =>
 kStore (cR Tryd.prog R) w_41 9 v29 v28 fun w_42 =>
 kD [] [] (J [] w_42)) (
 kD [] [] (J [] w_38))) (cs_1.getD 0 undef))))) (fun cs w_12 => ∀ ds : List Value,
 kLoad (cR Tryd.prog R) w_12 41 v2_1 fun v30 w_13 =>
 kLoad (cR Tryd.prog R) w_13 41 v1_1 fun v31 w_14 =>
 kEq (cR Tryd.prog R) w_14 .eql 41 (.tmp 30) (.tmp 31) v30 v31 fun v32 w_15 =>
 kIf v32 (
 kFa (cR Tryd.prog R) w_15 41 v1_1 0 fun v34 w_16 =>
 kLoad (cR Tryd.prog R) w_16 39 v34 fun v35 w_17 =>
 kBin (cR Tryd.prog R) w_17 .geq 39 v35 (.int .i64 0) fun v36 w_18 =>
 kIf v36 (
 kFa (cR Tryd.prog R) w_18 41 v1_1 0 fun v39 w_19 =>
 kLoad (cR Tryd.prog R) w_19 39 v39 fun v40 w_20 =>
 kBin (cR Tryd.prog R) w_20 .leq 39 v40 (.int .i64 4) fun v41 w_21 =>
 kCall (cR Tryd.prog R) w_21 104 #[v41, (.int .i64 2)] fun v43 w_22 =>
 R (.returned (.tuple #[])) w_22) (
 kCall (cR Tryd.prog R) w_18 104 #[(.bool false), (.int .i64 2)] fun v43_1 w_23 =>
 R (.returned (.tuple #[])) w_23)) (
 kCall (cR Tryd.prog R) w_15 104 #[(.bool false), (.int .i64 2)] fun v43_2 w_24 =>
 R (.returned (.tuple #[])) w_24))
theorem c84 (v0 : Int) (v1 : Int) (v2 : ByteArray) (R : Ending → World → Prop) (w : World) (h : vc84 v0 v1 v2 R w) : Calls Tryd.prog 84 #[(.agg #[(.int .i64 v0), (.int .i64 v1), (.string v2)])] w R :=
  calls_of_vc (A := { loops := [(1000011, []), (1000010, [24])], pars := [] }) (Eq.mpr (show FnVc Tryd.prog { loops := [(1000011, []), (1000010, [24])], pars := [] } 44 84 [(.agg #[(.int .i64 v0), (.int .i64 v1), (.string v2)])] R w = vc84 v0 v1 v2 R w by kernel_rfl) h)

/-- loupe/key.laid$1 -/
def vc85 (v0 : Int) (v1 : Int) (v2 : ByteArray) (R : Ending → World → Prop) (w : World) : Prop :=
 kBox (cR Tryd.prog R) w 41 (.agg #[(.int .i64 v0), (.int .i64 v1), (.string v2)]) fun v1_1 w_1 =>
 kFa (cR Tryd.prog R) w_1 41 v1_1 2 fun v3 w_2 =>
 kLoad (cR Tryd.prog R) w_2 9 v3 fun v4 w_3 =>
 kCall (cR Tryd.prog R) w_3 86 #[v4, (.string ⟨#[0]⟩), (.string ⟨#[0, 255]⟩)] fun v5 w_4 =>
 kBin (cR Tryd.prog R) w_4 .add 9 v5 (.string ⟨#[0, 1]⟩) fun v6 w_5 =>
 kConv (cR Tryd.prog R) w_5 9 25 v6 fun v7 w_6 =>
 R (.returned v7) w_6
theorem c85 (v0 : Int) (v1 : Int) (v2 : ByteArray) (R : Ending → World → Prop) (w : World) (h : vc85 v0 v1 v2 R w) : Calls Tryd.prog 85 #[(.agg #[(.int .i64 v0), (.int .i64 v1), (.string v2)])] w R :=
  calls_of_vc (A := { loops := [], pars := [] }) (Eq.mpr (show FnVc Tryd.prog { loops := [], pars := [] } 8 85 [(.agg #[(.int .i64 v0), (.int .i64 v1), (.string v2)])] R w = vc85 v0 v1 v2 R w by kernel_rfl) h)

/-- loupe/key.laid$2 -/
def vc87 (a0 : Int) (a1 : Int) (a2 : ByteArray) (R : Ending → World → Prop) (w : World) : Prop :=
 kBox (cR Tryd.prog R) w 41 (.agg #[(.int .i64 a0), (.int .i64 a1), (.string a2)]) fun v1 w_1 =>
 R (.returned (.slice none 0 0)) w_1
theorem c87 (a0 : Int) (a1 : Int) (a2 : ByteArray) (R : Ending → World → Prop) (w : World) (h : vc87 a0 a1 a2 R w) : Calls Tryd.prog 87 #[(.agg #[(.int .i64 a0), (.int .i64 a1), (.string a2)])] w R :=
  calls_of_vc (A := { loops := [], pars := [] }) (Eq.mpr (show FnVc Tryd.prog { loops := [], pars := [] } 3 87 [(.agg #[(.int .i64 a0), (.int .i64 a1), (.string a2)])] R w = vc87 a0 a1 a2 R w by kernel_rfl) h)

/-- loupe/key.laid$3 -/
def vc88 (v0 : Int) (v1 : Int) (v2 : ByteArray) (R : Ending → World → Prop) (w : World) : Prop :=
 kBox (cR Tryd.prog R) w 41 (.agg #[(.int .i64 v0), (.int .i64 v1), (.string v2)]) fun v1_1 w_1 =>
 kFa (cR Tryd.prog R) w_1 41 v1_1 1 fun v3 w_2 =>
 kLoad (cR Tryd.prog R) w_2 2 v3 fun v4 w_3 =>
 kConv (cR Tryd.prog R) w_3 2 5 v4 fun v5 w_4 =>
 kBuildS (cR Tryd.prog R) w_4 25 1 #[(0, v5)] fun v6 w_5 =>
 R (.returned v6) w_5
theorem c88 (v0 : Int) (v1 : Int) (v2 : ByteArray) (R : Ending → World → Prop) (w : World) (h : vc88 v0 v1 v2 R w) : Calls Tryd.prog 88 #[(.agg #[(.int .i64 v0), (.int .i64 v1), (.string v2)])] w R :=
  calls_of_vc (A := { loops := [], pars := [] }) (Eq.mpr (show FnVc Tryd.prog { loops := [], pars := [] } 7 88 [(.agg #[(.int .i64 v0), (.int .i64 v1), (.string v2)])] R w = vc88 v0 v1 v2 R w by kernel_rfl) h)

/-- loupe/louperef01.number -/
def vc91 (a : Int) (b : Int) (R : Ending → World → Prop) (w : World) : Prop :=
 kBin (cR Tryd.prog R) w .lss 2 (.int .i64 a) (.int .i64 b) fun v7 w_1 =>
 kIf v7 (
 R (.returned (.int .i64 (-1))) w_1) (
 kBin (cR Tryd.prog R) w_1 .gtr 2 (.int .i64 a) (.int .i64 b) fun v10 w_2 =>
 kIf v10 (
 R (.returned (.int .i64 1)) w_2) (
 R (.returned (.int .i64 0)) w_2))
theorem c91 (a : Int) (b : Int) (R : Ending → World → Prop) (w : World) (h : vc91 a b R w) : Calls Tryd.prog 91 #[(.int .i64 a), (.int .i64 b)] w R :=
  calls_of_vc (A := { loops := [], pars := [] }) (Eq.mpr (show FnVc Tryd.prog { loops := [], pars := [] } 11 91 [(.int .i64 a), (.int .i64 b)] R w = vc91 a b R w by kernel_rfl) h)

/-- cmp.isNaN[loupe/api.ValueKind] -/
def vc92 (x : Int) (R : Ending → World → Prop) (w : World) : Prop :=
 kEq (cR Tryd.prog R) w .neq 39 (.tmp 3) (.tmp 4) (.int .i64 x) (.int .i64 x) fun v5 w_1 =>
 R (.returned v5) w_1
theorem c92 (x : Int) (R : Ending → World → Prop) (w : World) (h : vc92 x R w) : Calls Tryd.prog 92 #[(.int .i64 x)] w R :=
  calls_of_vc (A := { loops := [], pars := [] }) (Eq.mpr (show FnVc Tryd.prog { loops := [], pars := [] } 6 92 [(.int .i64 x)] R w = vc92 x R w by kernel_rfl) h)

/-- cmp.isNaN[int64] -/
def vc93 (x : Int) (R : Ending → World → Prop) (w : World) : Prop :=
 kEq (cR Tryd.prog R) w .neq 2 (.tmp 3) (.tmp 4) (.int .i64 x) (.int .i64 x) fun v5 w_1 =>
 R (.returned v5) w_1
theorem c93 (x : Int) (R : Ending → World → Prop) (w : World) (h : vc93 x R w) : Calls Tryd.prog 93 #[(.int .i64 x)] w R :=
  calls_of_vc (A := { loops := [], pars := [] }) (Eq.mpr (show FnVc Tryd.prog { loops := [], pars := [] } 6 93 [(.int .i64 x)] R w = vc93 x R w by kernel_rfl) h)

/-- cmp.isNaN[string] -/
def vc94 (x : ByteArray) (R : Ending → World → Prop) (w : World) : Prop :=
 kEq (cR Tryd.prog R) w .neq 9 (.tmp 3) (.tmp 4) (.string x) (.string x) fun v5 w_1 =>
 R (.returned v5) w_1
theorem c94 (x : ByteArray) (R : Ending → World → Prop) (w : World) (h : vc94 x R w) : Calls Tryd.prog 94 #[(.string x)] w R :=
  calls_of_vc (A := { loops := [], pars := [] }) (Eq.mpr (show FnVc Tryd.prog { loops := [], pars := [] } 6 94 [(.string x)] R w = vc94 x R w by kernel_rfl) h)

/-- loupe/sum.rows -/
def vc96  (R : Ending → World → Prop) (w : World) : Prop :=
 kAlloc (cR Tryd.prog R) w 140 fun v0 w_1 =>
 kBuild (cR Tryd.prog R) w_1 114 #[(0, (.string ⟨#[43]⟩)), (1, (.int .i64 2)), (2, (.int .i64 2)), (3, (.int .i64 2))] fun v5 w_2 =>
 kBuild (cR Tryd.prog R) w_2 114 #[(0, (.string ⟨#[45]⟩)), (1, (.int .i64 2)), (2, (.int .i64 2)), (3, (.int .i64 2))] fun v8 w_3 =>
 kBuild (cR Tryd.prog R) w_3 114 #[(0, (.string ⟨#[42]⟩)), (1, (.int .i64 2)), (2, (.int .i64 2)), (3, (.int .i64 2))] fun v11 w_4 =>
 kBuild (cR Tryd.prog R) w_4 114 #[(0, (.string ⟨#[47]⟩)), (1, (.int .i64 2)), (2, (.int .i64 2)), (3, (.int .i64 2))] fun v14 w_5 =>
 kBuild (cR Tryd.prog R) w_5 114 #[(0, (.string ⟨#[37]⟩)), (1, (.int .i64 2)), (2, (.int .i64 2)), (3, (.int .i64 2))] fun v17 w_6 =>
 kBuild (cR Tryd.prog R) w_6 114 #[(0, (.string ⟨#[124, 124]⟩)), (1, (.int .i64 2))] fun v18 w_7 =>
 kBuild (cR Tryd.prog R) w_7 114 #[(0, (.string ⟨#[61]⟩)), (1, (.int .i64 2)), (3, (.int .i64 1))] fun v20 w_8 =>
 kBuild (cR Tryd.prog R) w_8 114 #[(0, (.string ⟨#[60, 62]⟩)), (1, (.int .i64 2)), (3, (.int .i64 1))] fun v22 w_9 =>
 kBuild (cR Tryd.prog R) w_9 114 #[(0, (.string ⟨#[60]⟩)), (1, (.int .i64 2)), (3, (.int .i64 1))] fun v24 w_10 =>
 kBuild (cR Tryd.prog R) w_10 114 #[(0, (.string ⟨#[60, 61]⟩)), (1, (.int .i64 2)), (3, (.int .i64 1))] fun v26 w_11 =>
 kBuild (cR Tryd.prog R) w_11 114 #[(0, (.string ⟨#[62]⟩)), (1, (.int .i64 2)), (3, (.int .i64 1))] fun v28 w_12 =>
 kBuild (cR Tryd.prog R) w_12 114 #[(0, (.string ⟨#[62, 61]⟩)), (1, (.int .i64 2)), (3, (.int .i64 1))] fun v30 w_13 =>
 kBuild (cR Tryd.prog R) w_13 114 #[(0, (.string ⟨#[97, 110, 100]⟩)), (1, (.int .i64 2)), (2, (.int .i64 1)), (3, (.int .i64 1))] fun v33 w_14 =>
 kBuild (cR Tryd.prog R) w_14 114 #[(0, (.string ⟨#[111, 114]⟩)), (1, (.int .i64 2)), (2, (.int .i64 1)), (3, (.int .i64 1))] fun v36 w_15 =>
 kBuild (cR Tryd.prog R) w_15 114 #[(0, (.string ⟨#[45]⟩)), (1, (.int .i64 1)), (2, (.int .i64 2)), (3, (.int .i64 2))] fun v39 w_16 =>
 kBuild (cR Tryd.prog R) w_16 114 #[(0, (.string ⟨#[110, 111, 116]⟩)), (1, (.int .i64 1)), (2, (.int .i64 1)), (3, (.int .i64 1))] fun v42 w_17 =>
 kBuild (cR Tryd.prog R) w_17 114 #[(0, (.string ⟨#[105, 115, 32, 110, 117, 108, 108]⟩)), (1, (.int .i64 1)), (3, (.int .i64 1))] fun v44 w_18 =>
 kBuild (cR Tryd.prog R) w_18 114 #[(0, (.string ⟨#[105, 115, 32, 110, 111, 116, 32, 110, 117, 108, 108]⟩)), (1, (.int .i64 1)), (3, (.int .i64 1))] fun v46 w_19 =>
 kBuild (cR Tryd.prog R) w_19 114 #[(0, (.string ⟨#[108, 101, 110, 103, 116, 104]⟩)), (1, (.int .i64 1)), (3, (.int .i64 2))] fun v48 w_20 =>
 kBuild (cR Tryd.prog R) w_20 114 #[(0, (.string ⟨#[97, 98, 115]⟩)), (1, (.int .i64 1)), (2, (.int .i64 2)), (3, (.int .i64 2))] fun v51 w_21 =>
 kBuild (cR Tryd.prog R) w_21 140 #[(1, v5), (2, v8), (3, v11), (4, v14), (5, v17), (6, v18), (7, v20), (8, v22), (9, v24), (10, v26), (11, v28), (12, v30), (13, v33), (14, v36), (15, v39), (16, v42), (17, v44), (18, v46), (19, v48), (20, v51)] fun v52 w_22 =>
 kStore (cR Tryd.prog R) w_22 140 v0 v52 fun w_23 =>
 RetK Tryd.prog [.cell v0 140] R w_23
theorem c96  (R : Ending → World → Prop) (w : World) (h : vc96  R w) : Calls Tryd.prog 96 #[] w R :=
  calls_of_vc (A := { loops := [], pars := [] }) (Eq.mpr (show FnVc Tryd.prog { loops := [], pars := [] } 53 96 [] R w = vc96  R w by kernel_rfl) h)

/-- loupe/value.laid -/
def vc98  (R : Ending → World → Prop) (w : World) : Prop :=
 kMkMap (cR Tryd.prog R) w 143 none fun v1 w_1 =>
 kUpd (cR Tryd.prog R) w_1 143 v1 (.int .i64 0) (.func (.func 107) #[] #[]) fun w_2 =>
 kUpd (cR Tryd.prog R) w_2 143 v1 (.int .i64 1) (.func (.func 108) #[] #[]) fun w_3 =>
 kUpd (cR Tryd.prog R) w_3 143 v1 (.int .i64 2) (.func (.func 110) #[] #[]) fun w_4 =>
 kUpd (cR Tryd.prog R) w_4 143 v1 (.int .i64 3) (.func (.func 112) #[] #[]) fun w_5 =>
 kUpd (cR Tryd.prog R) w_5 143 v1 (.int .i64 4) (.func (.func 114) #[] #[]) fun w_6 =>
 R (.returned v1) w_6
theorem c98  (R : Ending → World → Prop) (w : World) (h : vc98  R w) : Calls Tryd.prog 98 #[] w R :=
  calls_of_vc (A := { loops := [], pars := [] }) (Eq.mpr (show FnVc Tryd.prog { loops := [], pars := [] } 3 98 [] R w = vc98  R w by kernel_rfl) h)

/-- (*strings.Builder).copyCheck -/
def vc99 (b : Value) (R : Ending → World → Prop) (w : World) : Prop :=
 kNil (cR Tryd.prog R) w b fun v3 w_1 =>
 kFa (cR Tryd.prog R) w_1 109 v3 0 fun v4 w_2 =>
 kLoad (cR Tryd.prog R) w_2 107 v4 fun v5 w_3 =>
 kEq (cR Tryd.prog R) w_3 .eql 107 (.tmp 5) (.const (.pointer none)) v5 (.pointer none) fun v6 w_4 =>
 kIf v6 (
 kConv (cR Tryd.prog R) w_4 107 154 b fun v9 w_5 =>
 kCall (cR Tryd.prog R) w_5 116 #[v9] fun v10 w_6 =>
 kConv (cR Tryd.prog R) w_6 154 107 v10 fun v11 w_7 =>
 kNil (cR Tryd.prog R) w_7 b fun v12 w_8 =>
 kFa (cR Tryd.prog R) w_8 109 v12 0 fun v13 w_9 =>
 kStore (cR Tryd.prog R) w_9 107 v13 v11 fun w_10 =>
 R (.returned (.tuple #[])) w_10) (
 kNil (cR Tryd.prog R) w_4 b fun v15 w_11 =>
 kFa (cR Tryd.prog R) w_11 109 v15 0 fun v16 w_12 =>
 kLoad (cR Tryd.prog R) w_12 107 v16 fun v17 w_13 =>
 kEq (cR Tryd.prog R) w_13 .neq 107 (.tmp 17) (.tmp 18) v17 b fun v19 w_14 =>
 kIf v19 (
 False) (
 R (.returned (.tuple #[])) w_14))
theorem c99 (b : Value) (R : Ending → World → Prop) (w : World) (h : vc99 b R w) : Calls Tryd.prog 99 #[b] w R :=
  calls_of_vc (A := { loops := [], pars := [] }) (Eq.mpr (show FnVc Tryd.prog { loops := [], pars := [] } 20 99 [b] R w = vc99 b R w by kernel_rfl) h)

/-- loupe/code.args$1 -/
def vc101 (x0 : Int) (x1 : Int) (x2 : Int) (x3 : Int) (x4 : Int) (x5 : Int) (x6 : Int) (x7 : ByteArray) (x8 : ByteArray) (x9 : Option Addr) (x9n : Nat) (x9c : Nat) (f0 : Value) (R : Ending → World → Prop) (w : World) : Prop :=
 kBox (cR Tryd.prog R) w 50 (.agg #[(.int .i64 x0), (.int .i64 x1), (.int .i64 x2), (.int .i64 x3), (.int .i64 x4), (.int .i64 x5), (.int .i64 x6), (.string x7), (.string x8), (.slice x9 x9n x9c)]) fun v2 w_1 =>
 kAlloc (cR Tryd.prog R) w_1 50 fun v3 w_2 =>
 kDrawn true (
 kDrawn true (
 kFa (cQ Tryd.prog) w_2 50 v2 7 fun v5 w_3 =>
 kLoad (cQ Tryd.prog) w_3 48 v5 fun v6 w_4 =>
 kBuild (cQ Tryd.prog) w_4 50 #[(7, v6)] fun v7 w_5 =>
 kFa (cQ Tryd.prog) w_5 50 v2 7 fun v8 w_6 =>
 kLoad (cQ Tryd.prog) w_6 48 v8 fun v9 w_7 =>
 kBlt (cQ Tryd.prog) w_7 .len #[48] 3 #[false] #[v9] fun v10 w_8 =>
 kLoad (cQ Tryd.prog) w_8 3 f0 fun v11 w_9 =>
 kBin (cQ Tryd.prog) w_9 .geq 3 v10 v11 fun v12 w_10 =>
 kIf v12 (
 kFa (cQ Tryd.prog) w_10 50 v2 7 fun v14 w_11 =>
 kLoad (cQ Tryd.prog) w_11 48 v14 fun v15 w_12 =>
 kBlt (cQ Tryd.prog) w_12 .len #[48] 3 #[false] #[v15] fun v16 w_13 =>
 kBin (cQ Tryd.prog) w_13 .leq 3 v16 (.int .i64 200) fun v17 w_14 =>
 kIf v17 (
 kFa (cQ Tryd.prog) w_14 50 v2 7 fun v20 w_15 =>
 kLoad (cQ Tryd.prog) w_15 48 v20 fun v21 w_16 =>
 kDrew w_16 fun w_17 =>
 (fun (c : Cx) =>
 kCall c w_17 39 #[(.int .i64 0), (.int .i64 399), v21] fun v22 w_18 =>
 kFa (cQ Tryd.prog) w_18 50 v2 7 fun v5_1 w_19 =>
 kSame v5_1 v5 (
 kLoad (cQ Tryd.prog) w_18 48 v5 fun v6_1 w_20 =>
 kSame v6_1 v6 (
 kBuild (cQ Tryd.prog) w_18 50 #[(7, v6)] fun v7_1 w_21 =>
 kSame v7_1 v7 (
 kDrew w_18 fun w_22 =>
 kStore c w_22 50 v3 v7 fun w_23 =>
 kDrew w_23 fun w_24 =>
 RetK Tryd.prog [.cell v3 50, .val v22] R w_24)))) ⟨Tryd.prog, fun ch w => ∀ _ : List Value, R (.panicked ch) w, false⟩) (
 kDrew w_14 fun w_25 =>
 (fun (c_1 : Cx) =>
 kStore c_1 w_25 50 v3 v7 fun w_26 =>
 kDrew w_26 fun w_27 =>
 RetK Tryd.prog [.cell v3 50, .val (.bool false)] R w_27) ⟨Tryd.prog, fun ch w => ∀ _ : List Value, R (.panicked ch) w, false⟩)) (
 kDrew w_10 fun w_28 =>
 (fun (c_2 : Cx) =>
 kStore c_2 w_28 50 v3 v7 fun w_29 =>
 kDrew w_29 fun w_30 =>
 RetK Tryd.prog [.cell v3 50, .val (.bool false)] R w_30) ⟨Tryd.prog, fun ch w => ∀ _ : List Value, R (.panicked ch) w, false⟩)))
theorem c101 (x0 : Int) (x1 : Int) (x2 : Int) (x3 : Int) (x4 : Int) (x5 : Int) (x6 : Int) (x7 : ByteArray) (x8 : ByteArray) (x9 : Option Addr) (x9n : Nat) (x9c : Nat) (f0 : Value) (R : Ending → World → Prop) (w : World) (h : vc101 x0 x1 x2 x3 x4 x5 x6 x7 x8 x9 x9n x9c f0 R w) : Calls Tryd.prog 101 #[(.agg #[(.int .i64 x0), (.int .i64 x1), (.int .i64 x2), (.int .i64 x3), (.int .i64 x4), (.int .i64 x5), (.int .i64 x6), (.string x7), (.string x8), (.slice x9 x9n x9c)]), f0] w R :=
  calls_of_vc (A := { loops := [], pars := [], chs := [(1, (.q 0 (.q 1 (.q 2 (.q 3 (.q 4 (.q 5 (.q 6 (.q 7 (.q 8 (.q 9 (.q 10 (.q 11 (.q 12 (.q 13 (.q 14 (.q 15 (.q 16 (.e 17 (.q 18 (.e 19 .done)))))))))))))))))))))] }) (Eq.mpr (show FnVc Tryd.prog { loops := [], pars := [], chs := [(1, (.q 0 (.q 1 (.q 2 (.q 3 (.q 4 (.q 5 (.q 6 (.q 7 (.q 8 (.q 9 (.q 10 (.q 11 (.q 12 (.q 13 (.q 14 (.q 15 (.q 16 (.e 17 (.q 18 (.e 19 .done)))))))))))))))))))))] } 24 101 [(.agg #[(.int .i64 x0), (.int .i64 x1), (.int .i64 x2), (.int .i64 x3), (.int .i64 x4), (.int .i64 x5), (.int .i64 x6), (.string x7), (.string x8), (.slice x9 x9n x9c)]), f0] R w = vc101 x0 x1 x2 x3 x4 x5 x6 x7 x8 x9 x9n x9c f0 R w by kernel_rfl) h)

end Go.L
