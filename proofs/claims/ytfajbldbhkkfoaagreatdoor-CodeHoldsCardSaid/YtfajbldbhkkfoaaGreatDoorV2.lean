/- What is to be shown of single functions, printed by a program and compared with the translation by the kernel: no condition. -/
import Derived.Test.YtfajbldbhkkfoaaGreatDoorA1
import Derived.Test.YtfajbldbhkkfoaaGreatDoorProg
set_option linter.unusedVariables false
set_option linter.unusedSimpArgs false
namespace Go.L
open Go Go.RowKit Go.Proofs
set_option maxRecDepth 100000
set_option linter.unusedVariables false

/-- slices.IndexFunc[[]int,int] -/
def vc122 (s : Option Addr) (sn : Nat) (sc : Nat) (f : Value) (R : Ending → World → Prop) (w : World) : Prop :=
 kBlt (cR Tryz.prog R) w .len #[60] 3 #[false] #[(.slice s sn sc)] fun v7 w_1 =>
 kLoopF [(.int .i64 0)] w_1 fun cs ds w_2 N =>
 (fun x8 =>
 kBin (cR Tryz.prog R) w_2 .lss 3 x8 v7 fun v9 w_3 =>
 kIf v9 (
 kIa (cR Tryz.prog R) w_3 60 (.slice s sn sc) x8 fun v14 w_4 =>
 kLoad (cR Tryz.prog R) w_4 3 v14 fun v15 w_5 =>
 kCallV (cR Tryz.prog R) w_5 f #[v15] fun v16 w_6 =>
 kIf v16 (
 R (.returned x8) w_6) (
 kBin (cR Tryz.prog R) w_6 .add 3 x8 (.int .i64 1) fun v18 w_7 =>
 kD [] [] (N [v18] w_7))) (
 R (.returned (.int .i64 (-1))) w_3)) (cs.getD 0 undef)
theorem c122 (s : Option Addr) (sn : Nat) (sc : Nat) (f : Value) (R : Ending → World → Prop) (w : World) (h : vc122 s sn sc f R w) : Calls Tryz.prog 122 #[(.slice s sn sc), f] w R :=
  calls_of_vc (A := { loops := [(0, [8])], pars := [] }) (Eq.mpr (show FnVc Tryz.prog { loops := [(0, [8])], pars := [] } 19 122 [(.slice s sn sc), f] R w = vc122 s sn sc f R w by kernel_rfl) h)

/-- loupe/octet.ReadNumber -/
def vc123 (b : Option Addr) (bn : Nat) (bc : Nat) (R : Ending → World → Prop) (w : World) : Prop :=
 kBlt (cR Tryz.prog R) w .len #[44] 3 #[false] #[(.slice b bn bc)] fun v9 w_1 =>
 kBlt (cR Tryz.prog R) w_1 .min #[3, 3] 3 #[false, true] #[v9, (.int .i64 10)] fun v10 w_2 =>
 kSl (cR Tryz.prog R) w_2 44 (.slice b bn bc) none (some v10) none fun v11 w_3 =>
 kBlt (cR Tryz.prog R) w_3 .len #[44] 3 #[false] #[v11] fun v12 w_4 =>
 kLoopF [(.int .u64 0), (.int .i64 0)] w_4 fun cs ds w_5 N =>
 (fun x2 x13 =>
 kBin (cR Tryz.prog R) w_5 .lss 3 x13 v12 fun v14 w_6 =>
 kIf v14 (
 kIa (cR Tryz.prog R) w_6 44 v11 x13 fun v16 w_7 =>
 kLoad (cR Tryz.prog R) w_7 5 v16 fun v17 w_8 =>
 kJn (fun J =>
 kEq (cR Tryz.prog R) w_8 .eql 3 (.tmp 18) (.const (.int .i64 9)) x13 (.int .i64 9) fun v19 w_21 =>
 kIf v19 (
 kBin (cR Tryz.prog R) w_21 .gtr 5 v17 (.int .u8 1) fun v22 w_22 =>
 kIf v22 (
 R (.returned (.tuple #[(.int .u64 0), (.int .i64 0), (.int .i64 130)])) w_22) (
 kD [] [] (J [] w_22))) (
 kIf (.bool false) (
 R (.returned (.tuple #[(.int .u64 0), (.int .i64 0), (.int .i64 130)])) w_21) (
 kD [] [] (J [] w_21)))) (fun cs_1 w_9 => ∀ ds_1 : List Value,
 kBin (cR Tryz.prog R) w_9 .andNot 5 v17 (.int .u8 128) fun v26 w_10 =>
 kConv (cR Tryz.prog R) w_10 5 145 v26 fun v27 w_11 =>
 kBin (cR Tryz.prog R) w_11 .mul 3 (.int .i64 7) x13 fun v29 w_12 =>
 kBin (cR Tryz.prog R) w_12 .shl 145 v27 v29 fun v30 w_13 =>
 kBin (cR Tryz.prog R) w_13 .or 145 x2 v30 fun v31 w_14 =>
 kBin (cR Tryz.prog R) w_14 .geq 5 v17 (.int .u8 128) fun v33 w_15 =>
 kIf v33 (
 kBin (cR Tryz.prog R) w_15 .add 3 x13 (.int .i64 1) fun v43 w_16 =>
 kD [] [] (N [v31, v43] w_16)) (
 kJn (fun J_1 =>
 kEq (cR Tryz.prog R) w_15 .eql 5 (.tmp 34) (.const (.int .u8 0)) v17 (.int .u8 0) fun v35 w_19 =>
 kIf v35 (
 kBin (cR Tryz.prog R) w_19 .gtr 3 x13 (.int .i64 0) fun v38 w_20 =>
 kIf v38 (
 R (.returned (.tuple #[(.int .u64 0), (.int .i64 0), (.int .i64 130)])) w_20) (
 kD [] [] (J_1 [] w_20))) (
 kIf (.bool false) (
 R (.returned (.tuple #[(.int .u64 0), (.int .i64 0), (.int .i64 130)])) w_19) (
 kD [] [] (J_1 [] w_19)))) (fun cs_2 w_17 => ∀ ds_2 : List Value,
 kBin (cR Tryz.prog R) w_17 .add 3 x13 (.int .i64 1) fun v42 w_18 =>
 R (.returned (.tuple #[v31, v42, (.int .i64 0)])) w_18)))) (
 R (.returned (.tuple #[(.int .u64 0), (.int .i64 0), (.int .i64 130)])) w_6)) (cs.getD 0 undef) (cs.getD 1 undef)
theorem c123 (b : Option Addr) (bn : Nat) (bc : Nat) (R : Ending → World → Prop) (w : World) (h : vc123 b bn bc R w) : Calls Tryz.prog 123 #[(.slice b bn bc)] w R :=
  calls_of_vcG (A := { loops := [(1000008, []), (1000005, []), (0, [2, 13])], pars := [] }) (Eq.mpr (show FnVcG Tryz.prog { loops := [(1000008, []), (1000005, []), (0, [2, 13])], pars := [] } 44 123 [(.slice b bn bc)] R w = vc123 b bn bc R w by kernel_rfl) h)

/-- (*loupe/row.left).take -/
def vc124 (l : Value) (n : Int) (R : Ending → World → Prop) (w : World) : Prop :=
 kNil (cR Tryz.prog R) w l fun v8 w_1 =>
 kFa (cR Tryz.prog R) w_1 142 v8 0 fun v9 w_2 =>
 kLoad (cR Tryz.prog R) w_2 44 v9 fun v10 w_3 =>
 kBlt (cR Tryz.prog R) w_3 .len #[44] 3 #[false] #[v10] fun v11 w_4 =>
 kBin (cR Tryz.prog R) w_4 .leq 3 (.int .i64 n) v11 fun v12 w_5 =>
 kCall (cR Tryz.prog R) w_5 89 #[v12, (.int .i64 210)] fun v13 w_6 =>
 kNil (cR Tryz.prog R) w_6 l fun v15 w_7 =>
 kFa (cR Tryz.prog R) w_7 142 v15 0 fun v16 w_8 =>
 kLoad (cR Tryz.prog R) w_8 44 v16 fun v17 w_9 =>
 kSl (cR Tryz.prog R) w_9 44 v17 none (some (.int .i64 n)) (some (.int .i64 n)) fun v20 w_10 =>
 kNil (cR Tryz.prog R) w_10 l fun v23 w_11 =>
 kFa (cR Tryz.prog R) w_11 142 v23 0 fun v24 w_12 =>
 kLoad (cR Tryz.prog R) w_12 44 v24 fun v25 w_13 =>
 kSl (cR Tryz.prog R) w_13 44 v25 (some (.int .i64 n)) none none fun v27 w_14 =>
 kNil (cR Tryz.prog R) w_14 l fun v28 w_15 =>
 kFa (cR Tryz.prog R) w_15 142 v28 0 fun v29 w_16 =>
 kStore (cR Tryz.prog R) w_16 44 v29 v27 fun w_17 =>
 R (.returned v20) w_17
theorem c124 (l : Value) (n : Int) (R : Ending → World → Prop) (w : World) (h : vc124 l n R w) : Calls Tryz.prog 124 #[l, (.int .i64 n)] w R :=
  calls_of_vc (A := { loops := [], pars := [] }) (Eq.mpr (show FnVc Tryz.prog { loops := [], pars := [] } 31 124 [l, (.int .i64 n)] R w = vc124 l n R w by kernel_rfl) h)

/-- loupe/octet.ReadString -/
def vc125 (b : Option Addr) (bn : Nat) (bc : Nat) (R : Ending → World → Prop) (w : World) : Prop :=
 kCall (cR Tryz.prog R) w 123 #[(.slice b bn bc)] fun v11 w_1 =>
 kExt v11 0 fun v12 =>
 kExt v11 1 fun v13 =>
 kExt v11 2 fun v14 =>
 kSl (cR Tryz.prog R) w_1 44 (.slice b bn bc) (some v13) none none fun v17 w_2 =>
 kBuild (cR Tryz.prog R) w_2 192 #[(0, v17)] fun v18 w_3 =>
 kBuild (cR Tryz.prog R) w_3 194 #[(0, v18)] fun v19 w_4 =>
 kBox (cR Tryz.prog R) w_4 194 v19 fun v20 w_5 =>
 kJn (fun J =>
 kEq (cR Tryz.prog R) w_5 .neq 26 (.tmp 21) (.const (.int .i64 0)) v14 (.int .i64 0) fun v22 w_14 =>
 kIf v22 (
 kIf (.bool true) (
 R (.returned (.tuple #[(.string ⟨#[]⟩), (.int .i64 0), (.int .i64 130)])) w_14) (
 kD [] [] (J [] w_14))) (
 kNil (cR Tryz.prog R) w_14 v20 fun v25 w_15 =>
 kFa (cR Tryz.prog R) w_15 194 v25 0 fun v26 w_16 =>
 kCall (cR Tryz.prog R) w_16 139 #[v26, v12] fun v28 w_17 =>
 kUn (cR Tryz.prog R) w_17 .not v28 fun v29 w_18 =>
 kIf v29 (
 R (.returned (.tuple #[(.string ⟨#[]⟩), (.int .i64 0), (.int .i64 130)])) w_18) (
 kD [] [] (J [] w_18)))) (fun cs w_6 => ∀ ds : List Value,
 kNil (cR Tryz.prog R) w_6 v20 fun v32 w_7 =>
 kFa (cR Tryz.prog R) w_7 194 v32 0 fun v33 w_8 =>
 kConv (cR Tryz.prog R) w_8 145 3 v12 fun v35 w_9 =>
 kCall (cR Tryz.prog R) w_9 140 #[v33, v35] fun v36 w_10 =>
 kConv (cR Tryz.prog R) w_10 44 9 v36 fun v37 w_11 =>
 kConv (cR Tryz.prog R) w_11 145 3 v12 fun v40 w_12 =>
 kBin (cR Tryz.prog R) w_12 .add 3 v13 v40 fun v41 w_13 =>
 R (.returned (.tuple #[v37, v41, (.int .i64 0)])) w_13)
theorem c125 (b : Option Addr) (bn : Nat) (bc : Nat) (R : Ending → World → Prop) (w : World) (h : vc125 b bn bc R w) : Calls Tryz.prog 125 #[(.slice b bn bc)] w R :=
  calls_of_vc (A := { loops := [(1000005, [])], pars := [] }) (Eq.mpr (show FnVc Tryz.prog { loops := [(1000005, [])], pars := [] } 42 125 [(.slice b bn bc)] R w = vc125 b bn bc R w by kernel_rfl) h)

/-- loupe/row.Encode$1 -/
def vc126 (f0 : Value) (R : Ending → World → Prop) (w : World) : Prop :=
 kStore (cR Tryz.prog R) w 44 f0 (.slice none 0 0) fun w_1 =>
 R (.returned (.tuple #[])) w_1
theorem c126 (f0 : Value) (R : Ending → World → Prop) (w : World) (h : vc126 f0 R w) : Calls Tryz.prog 126 #[f0] w R :=
  calls_of_vc (A := { loops := [], pars := [] }) (Eq.mpr (show FnVc Tryz.prog { loops := [], pars := [] } 1 126 [f0] R w = vc126 f0 R w by kernel_rfl) h)

/-- loupe/row.encoded -/
def vc127 (row : Option Addr) (rown : Nat) (rowc : Nat) (R : Ending → World → Prop) (w : World) : Prop :=
 kBlt (cR Tryz.prog R) w .len #[104] 3 #[false] #[(.slice row rown rowc)] fun v7 w_1 =>
 kConv (cR Tryz.prog R) w_1 3 145 v7 fun v8 w_2 =>
 kCall (cR Tryz.prog R) w_2 141 #[v8] fun v9 w_3 =>
 kAlloc (cR Tryz.prog R) w_3 44 fun v3 w_4 =>
 kStore (cR Tryz.prog R) w_4 44 v3 v9 fun w_5 =>
 kCall (cR Tryz.prog R) w_5 142 #[(.slice row rown rowc)] fun v11 w_6 =>
 kRange Tryz.prog none w_6 v11 1 (fun l D args w_7 Rr =>
 (fun p12 =>
 kAlloc (cN Tryz.prog) w_7 59 fun v4 w_8 =>
 kStore (cN Tryz.prog) w_8 59 v4 p12 fun w_9 =>
 rndMid l D w_7 w_9 fun lo w_10 =>
 (fun (c : Cx) =>
 kLoad c w_10 59 v4 fun v13 w_11 =>
 kCall c w_11 104 #[v13] fun v14 w_12 =>
 kEq c w_12 .eql 26 (.tmp 15) (.const (.int .i64 0)) v14 (.int .i64 0) fun v16 w_13 =>
 kCall c w_13 89 #[v16, v14] fun v18 w_14 =>
 kDrawn true (
 kPar w_14 13 [[], [], [1], [2], [3], [0, 4], [5], [], [7], [6, 8], [], [9, 10, 6], [5, 11], [12, 0, 1, 2, 3, 4, 5, 6, 7, 8, 9, 10, 11]] (fun Inv Cl =>
 (∀ (S : Nat → Bool) (vs : Nat → Value) (w_15 : World), Inv S vs w_15 → Cl S → S 0 = false → (∀ j, j ∈ ([] : List Nat) → S j = true) →
 kLoad (cN Tryz.prog) w_15 44 v3 fun v19 w_16 =>
 Inv (inc S 0) (setV vs 0 v19) w_16) ∧
 (∀ (S_1 : Nat → Bool) (vs_1 : Nat → Value) (w_17 : World), Inv S_1 vs_1 w_17 → Cl S_1 → S_1 1 = false → (∀ j, j ∈ ([] : List Nat) → S_1 j = true) →
 kFa (cN Tryz.prog) w_17 59 v4 0 fun v20 w_18 =>
 Inv (inc S_1 1) (setV vs_1 1 v20) w_18) ∧
 (∀ (S_2 : Nat → Bool) (vs_2 : Nat → Value) (w_19 : World), Inv S_2 vs_2 w_19 → Cl S_2 → S_2 2 = false → (∀ j, j ∈ ([1] : List Nat) → S_2 j = true) →
 kLoad (cN Tryz.prog) w_19 57 (vs_2 1) fun v21 w_20 =>
 Inv (inc S_2 2) (setV vs_2 2 v21) w_20) ∧
 (∀ (S_3 : Nat → Bool) (vs_3 : Nat → Value) (w_21 : World), Inv S_3 vs_3 w_21 → Cl S_3 → S_3 3 = false → (∀ j, j ∈ ([2] : List Nat) → S_3 j = true) →
 kConv (cN Tryz.prog) w_21 57 5 (vs_3 2) fun v22 w_22 =>
 Inv (inc S_3 3) (setV vs_3 3 v22) w_22) ∧
 (∀ (S_4 : Nat → Bool) (vs_4 : Nat → Value) (w_23 : World), Inv S_4 vs_4 w_23 → Cl S_4 → S_4 4 = false → (∀ j, j ∈ ([3] : List Nat) → S_4 j = true) →
 kBuildS (cN Tryz.prog) w_23 44 1 #[(0, (vs_4 3))] fun v23 w_24 =>
 Inv (inc S_4 4) (setV vs_4 4 v23) w_24) ∧
 (∀ (S_5 : Nat → Bool) (vs_5 : Nat → Value) (w_25 : World), Inv S_5 vs_5 w_25 → Cl S_5 → S_5 5 = false → (∀ j, j ∈ ([0, 4] : List Nat) → S_5 j = true) →
 kBlt (cN Tryz.prog) w_25 .append #[44, 44] 44 #[false, false] #[(vs_5 0), (vs_5 4)] fun v24 w_26 =>
 Inv (inc S_5 5) (setV vs_5 5 v24) w_26) ∧
 (∀ (S_6 : Nat → Bool) (vs_6 : Nat → Value) (w_27 : World), Inv S_6 vs_6 w_27 → Cl S_6 → S_6 6 = false → (∀ j, j ∈ ([5] : List Nat) → S_6 j = true) →
 kCall (cN Tryz.prog) w_27 143 #[] fun v25 w_28 =>
 Inv (inc S_6 6) (setV vs_6 6 v25) w_28) ∧
 (∀ (S_7 : Nat → Bool) (vs_7 : Nat → Value) (w_29 : World), Inv S_7 vs_7 w_29 → Cl S_7 → S_7 7 = false → (∀ j, j ∈ ([] : List Nat) → S_7 j = true) →
 kFa (cN Tryz.prog) w_29 59 v4 0 fun v26 w_30 =>
 Inv (inc S_7 7) (setV vs_7 7 v26) w_30) ∧
 (∀ (S_8 : Nat → Bool) (vs_8 : Nat → Value) (w_31 : World), Inv S_8 vs_8 w_31 → Cl S_8 → S_8 8 = false → (∀ j, j ∈ ([7] : List Nat) → S_8 j = true) →
 kLoad (cN Tryz.prog) w_31 57 (vs_8 7) fun v27 w_32 =>
 Inv (inc S_8 8) (setV vs_8 8 v27) w_32) ∧
 (∀ (S_9 : Nat → Bool) (vs_9 : Nat → Value) (w_33 : World), Inv S_9 vs_9 w_33 → Cl S_9 → S_9 9 = false → (∀ j, j ∈ ([6, 8] : List Nat) → S_9 j = true) →
 kLook (cN Tryz.prog) w_33 200 (vs_9 6) (vs_9 8) false fun v28 w_34 =>
 Inv (inc S_9 9) (setV vs_9 9 v28) w_34) ∧
 (∀ (S_10 : Nat → Bool) (vs_10 : Nat → Value) (w_35 : World), Inv S_10 vs_10 w_35 → Cl S_10 → S_10 10 = false → (∀ j, j ∈ ([] : List Nat) → S_10 j = true) →
 kLoad (cN Tryz.prog) w_35 59 v4 fun v29 w_36 =>
 Inv (inc S_10 10) (setV vs_10 10 v29) w_36) ∧
 (∀ (S_11 : Nat → Bool) (vs_11 : Nat → Value) (w_37 : World), Inv S_11 vs_11 w_37 → Cl S_11 → S_11 11 = false → (∀ j, j ∈ ([9, 10, 6] : List Nat) → S_11 j = true) →
 kCallV (cN Tryz.prog) w_37 (vs_11 9) #[(vs_11 10)] fun v30 w_38 =>
 Inv (inc S_11 11) (setV vs_11 11 v30) w_38) ∧
 (∀ (S_12 : Nat → Bool) (vs_12 : Nat → Value) (w_39 : World), Inv S_12 vs_12 w_39 → Cl S_12 → S_12 12 = false → (∀ j, j ∈ ([5, 11] : List Nat) → S_12 j = true) →
 kBlt (cN Tryz.prog) w_39 .append #[44, 44] 44 #[false, false] #[(vs_12 5), (vs_12 11)] fun v31 w_40 =>
 Inv (inc S_12 12) (setV vs_12 12 v31) w_40) ∧
 True) (fun vs_13 w_41 =>
 kStore c w_41 44 v3 (vs_13 12) fun w_42 =>
 rndEnd l D lo w_7 Rr .normal [] w_42))) ⟨Tryz.prog, fun ch w => rndEnd l D lo w_7 Rr (.panic ch) [] w, false⟩) (args.getD 0 undef))
  (fun D_1 w_43 =>
 (fun (c_1 : Cx) =>
 kBlt c_1 w_43 .len #[104] 3 #[false] #[(.slice row rown rowc)] fun v33 w_44 =>
 kBin c_1 w_44 .leq 3 v33 (.int .i64 32) fun v34 w_45 =>
 kIf v34 (
 kLoad c_1 w_45 44 v3 fun v36 w_46 =>
 kBlt c_1 w_46 .len #[44] 3 #[false] #[v36] fun v37 w_47 =>
 kBin c_1 w_47 .leq 3 v37 (.int .i64 4000) fun v38 w_48 =>
 kCall c_1 w_48 89 #[v38, (.int .i64 3)] fun v40 w_49 =>
 kLoad c_1 w_49 44 v3 fun v41 w_50 =>
 Lv Tryz.prog [.val v41] R [markOf D_1] .returning w_50) (
 kCall c_1 w_45 89 #[(.bool false), (.int .i64 3)] fun v40_1 w_51 =>
 kLoad c_1 w_51 44 v3 fun v41_1 w_52 =>
 Lv Tryz.prog [.val v41_1] R [markOf D_1] .returning w_52)) ⟨Tryz.prog, fun ch w => Lv Tryz.prog [.val (.slice none 0 0)] R [markOf D_1] (.panicking ch) w, false⟩)
  (fun _ _ => False)
  (fun _ _ _ => False)
  (fun D_1 ch w_55 => (fun ch w => Lv Tryz.prog [.val (.slice none 0 0)] R [markOf D_1] (.panicking ch) w) ch w_55)
theorem c127 (row : Option Addr) (rown : Nat) (rowc : Nat) (R : Ending → World → Prop) (w : World) (h : vc127 row rown rowc R w) : Calls Tryz.prog 127 #[(.slice row rown rowc)] w R :=
  calls_of_vc (A := { loops := [], pars := [6] }) (Eq.mpr (show FnVc Tryz.prog { loops := [], pars := [6] } 42 127 [(.slice row rown rowc)] R w = vc127 row rown rowc R w by kernel_rfl) h)

/-- slices.Chunk[[]int,int]$1 -/
def vc129 (yield : Value) (f0 : Value) (f1 : Value) (R : Ending → World → Prop) (w : World) : Prop :=
 kLoopF [(.int .i64 0)] w fun cs ds w_1 N =>
 (fun x4 =>
 kLoad (cR Tryz.prog R) w_1 60 f0 fun v7 w_2 =>
 kBlt (cR Tryz.prog R) w_2 .len #[60] 3 #[false] #[v7] fun v8 w_3 =>
 kBin (cR Tryz.prog R) w_3 .lss 3 x4 v8 fun v9 w_4 =>
 kIf v9 (
 kDrawn true (
 kLoad (cQ Tryz.prog) w_4 3 f1 fun v13 w_5 =>
 kLoad (cQ Tryz.prog) w_5 60 f0 fun v14 w_6 =>
 kSl (cQ Tryz.prog) w_6 60 v14 (some x4) none none fun v16 w_7 =>
 kBlt (cQ Tryz.prog) w_7 .len #[60] 3 #[false] #[v16] fun v17 w_8 =>
 kBlt (cQ Tryz.prog) w_8 .min #[3, 3] 3 #[false, false] #[v13, v17] fun v18 w_9 =>
 kDrew w_4 fun w_10 =>
 kLoad (cR Tryz.prog R) w_10 60 f0 fun v20 w_11 =>
 kBin (cR Tryz.prog R) w_11 .add 3 x4 v18 fun v24 w_12 =>
 kBin (cR Tryz.prog R) w_12 .add 3 x4 v18 fun v27 w_13 =>
 kSl (cR Tryz.prog R) w_13 60 v20 (some x4) (some v24) (some v27) fun v28 w_14 =>
 kCallV (cR Tryz.prog R) w_14 yield #[v28] fun v29 w_15 =>
 kUn (cR Tryz.prog R) w_15 .not v29 fun v30 w_16 =>
 kIf v30 (
 R (.returned (.tuple #[])) w_16) (
 kLoad (cR Tryz.prog R) w_16 3 f1 fun v11 w_17 =>
 kBin (cR Tryz.prog R) w_17 .add 3 x4 v11 fun v12 w_18 =>
 kD [] [] (N [v12] w_18)))) (
 R (.returned (.tuple #[])) w_4)) (cs.getD 0 undef)
theorem c129 (yield : Value) (f0 : Value) (f1 : Value) (R : Ending → World → Prop) (w : World) (h : vc129 yield f0 f1 R w) : Calls Tryz.prog 129 #[yield, f0, f1] w R :=
  calls_of_vc (A := { loops := [(0, [4])], pars := [] }) (Eq.mpr (show FnVc Tryz.prog { loops := [(0, [4])], pars := [] } 31 129 [yield, f0, f1] R w = vc129 yield f0 f1 R w by kernel_rfl) h)

/-- loupe/value.Check$1 -/
def vc130  (R : Ending → World → Prop) (w : World) : Prop :=
 R (.returned (.tuple #[])) w
theorem c130  (R : Ending → World → Prop) (w : World) (h : vc130  R w) : Calls Tryz.prog 130 #[] w R :=
  calls_of_vc (A := { loops := [], pars := [] }) (Eq.mpr (show FnVc Tryz.prog { loops := [], pars := [] } 0 130 [] R w = vc130  R w by kernel_rfl) h)

/-- slices.Index[[]string,string] -/
def vc131 (s : Option Addr) (sn : Nat) (sc : Nat) (v : ByteArray) (R : Ending → World → Prop) (w : World) : Prop :=
 kBlt (cR Tryz.prog R) w .len #[74] 3 #[false] #[(.slice s sn sc)] fun v7 w_1 =>
 kLoopF [(.int .i64 0)] w_1 fun cs ds w_2 N =>
 (fun x8 =>
 kBin (cR Tryz.prog R) w_2 .lss 3 x8 v7 fun v9 w_3 =>
 kIf v9 (
 kIa (cR Tryz.prog R) w_3 74 (.slice s sn sc) x8 fun v14 w_4 =>
 kLoad (cR Tryz.prog R) w_4 9 v14 fun v15 w_5 =>
 kEq (cR Tryz.prog R) w_5 .eql 9 (.tmp 11) (.tmp 15) (.string v) v15 fun v16 w_6 =>
 kIf v16 (
 R (.returned x8) w_6) (
 kBin (cR Tryz.prog R) w_6 .add 3 x8 (.int .i64 1) fun v18 w_7 =>
 kD [] [] (N [v18] w_7))) (
 R (.returned (.int .i64 (-1))) w_3)) (cs.getD 0 undef)
theorem c131 (s : Option Addr) (sn : Nat) (sc : Nat) (v : ByteArray) (R : Ending → World → Prop) (w : World) (h : vc131 s sn sc v R w) : Calls Tryz.prog 131 #[(.slice s sn sc), (.string v)] w R :=
  calls_of_vc (A := { loops := [(0, [8])], pars := [] }) (Eq.mpr (show FnVc Tryz.prog { loops := [(0, [8])], pars := [] } 19 131 [(.slice s sn sc), (.string v)] R w = vc131 s sn sc v R w by kernel_rfl) h)

/-- (*loupe/octet.left).has -/
def vc139 (l : Value) (n : Int) (R : Ending → World → Prop) (w : World) : Prop :=
 kNil (cR Tryz.prog R) w l fun v7 w_1 =>
 kFa (cR Tryz.prog R) w_1 192 v7 0 fun v8 w_2 =>
 kLoad (cR Tryz.prog R) w_2 44 v8 fun v9 w_3 =>
 kBlt (cR Tryz.prog R) w_3 .len #[44] 3 #[false] #[v9] fun v10 w_4 =>
 kConv (cR Tryz.prog R) w_4 3 145 v10 fun v11 w_5 =>
 kBin (cR Tryz.prog R) w_5 .leq 145 (.int .u64 n) v11 fun v12 w_6 =>
 R (.returned v12) w_6
theorem c139 (l : Value) (n : Int) (R : Ending → World → Prop) (w : World) (h : vc139 l n R w) : Calls Tryz.prog 139 #[l, (.int .u64 n)] w R :=
  calls_of_vc (A := { loops := [], pars := [] }) (Eq.mpr (show FnVc Tryz.prog { loops := [], pars := [] } 13 139 [l, (.int .u64 n)] R w = vc139 l n R w by kernel_rfl) h)

/-- (*loupe/octet.left).take -/
def vc140 (l : Value) (n : Int) (R : Ending → World → Prop) (w : World) : Prop :=
 kNil (cR Tryz.prog R) w l fun v7 w_1 =>
 kFa (cR Tryz.prog R) w_1 192 v7 0 fun v8 w_2 =>
 kLoad (cR Tryz.prog R) w_2 44 v8 fun v9 w_3 =>
 kSl (cR Tryz.prog R) w_3 44 v9 none (some (.int .i64 n)) (some (.int .i64 n)) fun v12 w_4 =>
 kNil (cR Tryz.prog R) w_4 l fun v15 w_5 =>
 kFa (cR Tryz.prog R) w_5 192 v15 0 fun v16 w_6 =>
 kLoad (cR Tryz.prog R) w_6 44 v16 fun v17 w_7 =>
 kSl (cR Tryz.prog R) w_7 44 v17 (some (.int .i64 n)) none none fun v19 w_8 =>
 kNil (cR Tryz.prog R) w_8 l fun v20 w_9 =>
 kFa (cR Tryz.prog R) w_9 192 v20 0 fun v21 w_10 =>
 kStore (cR Tryz.prog R) w_10 44 v21 v19 fun w_11 =>
 R (.returned v12) w_11
theorem c140 (l : Value) (n : Int) (R : Ending → World → Prop) (w : World) (h : vc140 l n R w) : Calls Tryz.prog 140 #[l, (.int .i64 n)] w R :=
  calls_of_vc (A := { loops := [], pars := [] }) (Eq.mpr (show FnVc Tryz.prog { loops := [], pars := [] } 23 140 [l, (.int .i64 n)] R w = vc140 l n R w by kernel_rfl) h)

/-- loupe/octet.Number -/
def vc141 (n : Int) (R : Ending → World → Prop) (w : World) : Prop :=
 kLoopF [(.slice none 0 0), (.int .u64 n)] w fun cs ds w_1 N =>
 (fun x2 x0 =>
 kBin (cR Tryz.prog R) w_1 .geq 145 x0 (.int .u64 128) fun v4 w_2 =>
 kIf v4 (
 kConv (cR Tryz.prog R) w_2 145 5 x0 fun v9 w_3 =>
 kBin (cR Tryz.prog R) w_3 .or 5 v9 (.int .u8 128) fun v10 w_4 =>
 kBuildS (cR Tryz.prog R) w_4 44 1 #[(0, v10)] fun v11 w_5 =>
 kBlt (cR Tryz.prog R) w_5 .append #[44, 44] 44 #[false, false] #[x2, v11] fun v12 w_6 =>
 kBin (cR Tryz.prog R) w_6 .shr 145 x0 (.int .u64 7) fun v6 w_7 =>
 kD [] [] (N [v12, v6] w_7)) (
 kConv (cR Tryz.prog R) w_2 145 5 x0 fun v15 w_8 =>
 kBuildS (cR Tryz.prog R) w_8 44 1 #[(0, v15)] fun v16 w_9 =>
 kBlt (cR Tryz.prog R) w_9 .append #[44, 44] 44 #[false, false] #[x2, v16] fun v17 w_10 =>
 R (.returned v17) w_10)) (cs.getD 0 undef) (cs.getD 1 undef)
theorem c141 (n : Int) (R : Ending → World → Prop) (w : World) (h : vc141 n R w) : Calls Tryz.prog 141 #[(.int .u64 n)] w R :=
  calls_of_vc (A := { loops := [(0, [2, 0])], pars := [] }) (Eq.mpr (show FnVc Tryz.prog { loops := [(0, [2, 0])], pars := [] } 18 141 [(.int .u64 n)] R w = vc141 n R w by kernel_rfl) h)

/-- slices.Values[[]loupe/api.Value,loupe/api.Value] -/
def vc142 (s : Option Addr) (sn : Nat) (sc : Nat) (R : Ending → World → Prop) (w : World) : Prop :=
 kBox (cR Tryz.prog R) w 104 (.slice s sn sc) fun v1 w_1 =>
 R (.returned (.func (.func 152) #[] #[v1])) w_1
theorem c142 (s : Option Addr) (sn : Nat) (sc : Nat) (R : Ending → World → Prop) (w : World) (h : vc142 s sn sc R w) : Calls Tryz.prog 142 #[(.slice s sn sc)] w R :=
  calls_of_vc (A := { loops := [], pars := [] }) (Eq.mpr (show FnVc Tryz.prog { loops := [], pars := [] } 4 142 [(.slice s sn sc)] R w = vc142 s sn sc R w by kernel_rfl) h)

/-- loupe/row.laid -/
def vc143  (R : Ending → World → Prop) (w : World) : Prop :=
 kMkMap (cR Tryz.prog R) w 200 none fun v2 w_1 =>
 kUpd (cR Tryz.prog R) w_1 200 v2 (.int .i64 0) (.func (.func 155) #[] #[]) fun w_2 =>
 kUpd (cR Tryz.prog R) w_2 200 v2 (.int .i64 1) (.func (.func 156) #[] #[]) fun w_3 =>
 kUpd (cR Tryz.prog R) w_3 200 v2 (.int .i64 2) (.func (.func 157) #[] #[]) fun w_4 =>
 kUpd (cR Tryz.prog R) w_4 200 v2 (.int .i64 3) (.func (.func 153) #[] #[]) fun w_5 =>
 kUpd (cR Tryz.prog R) w_5 200 v2 (.int .i64 4) (.func (.func 153) #[] #[]) fun w_6 =>
 R (.returned v2) w_6
theorem c143  (R : Ending → World → Prop) (w : World) (h : vc143  R w) : Calls Tryz.prog 143 #[] w R :=
  calls_of_vc (A := { loops := [], pars := [] }) (Eq.mpr (show FnVc Tryz.prog { loops := [], pars := [] } 6 143 [] R w = vc143  R w by kernel_rfl) h)

/-- slices.Values[[]loupe/api.Value,loupe/api.Value]$1 -/
def vc152 (yield : Value) (f0 : Value) (R : Ending → World → Prop) (w : World) : Prop :=
 kLoad (cR Tryz.prog R) w 104 f0 fun v5 w_1 =>
 kBlt (cR Tryz.prog R) w_1 .len #[104] 3 #[false] #[v5] fun v6 w_2 =>
 kLoopF [(.int .i64 0)] w_2 fun cs ds w_3 N =>
 (fun x7 =>
 kBin (cR Tryz.prog R) w_3 .lss 3 x7 v6 fun v8 w_4 =>
 kIf v8 (
 kIa (cR Tryz.prog R) w_4 104 v5 x7 fun v9 w_5 =>
 kLoad (cR Tryz.prog R) w_5 59 v9 fun v10 w_6 =>
 kAlloc (cR Tryz.prog R) w_6 59 fun v4 w_7 =>
 kStore (cR Tryz.prog R) w_7 59 v4 v10 fun w_8 =>
 kLoad (cR Tryz.prog R) w_8 59 v4 fun v12 w_9 =>
 kCallV (cR Tryz.prog R) w_9 yield #[v12] fun v13 w_10 =>
 kUn (cR Tryz.prog R) w_10 .not v13 fun v14 w_11 =>
 kIf v14 (
 R (.returned (.tuple #[])) w_11) (
 kBin (cR Tryz.prog R) w_11 .add 3 x7 (.int .i64 1) fun v15 w_12 =>
 kD [] [] (N [v15] w_12))) (
 R (.returned (.tuple #[])) w_4)) (cs.getD 0 undef)
theorem c152 (yield : Value) (f0 : Value) (R : Ending → World → Prop) (w : World) (h : vc152 yield f0 R w) : Calls Tryz.prog 152 #[yield, f0] w R :=
  calls_of_vc (A := { loops := [(0, [7])], pars := [] }) (Eq.mpr (show FnVc Tryz.prog { loops := [(0, [7])], pars := [] } 16 152 [yield, f0] R w = vc152 yield f0 R w by kernel_rfl) h)

/-- loupe/row.laid$1 -/
def vc153 (v0 : Int) (v1 : Int) (v2 : ByteArray) (R : Ending → World → Prop) (w : World) : Prop :=
 kBox (cR Tryz.prog R) w 59 (.agg #[(.int .i64 v0), (.int .i64 v1), (.string v2)]) fun v1_1 w_1 =>
 kFa (cR Tryz.prog R) w_1 59 v1_1 2 fun v3 w_2 =>
 kLoad (cR Tryz.prog R) w_2 9 v3 fun v4 w_3 =>
 kCall (cR Tryz.prog R) w_3 154 #[v4] fun v5 w_4 =>
 R (.returned v5) w_4
theorem c153 (v0 : Int) (v1 : Int) (v2 : ByteArray) (R : Ending → World → Prop) (w : World) (h : vc153 v0 v1 v2 R w) : Calls Tryz.prog 153 #[(.agg #[(.int .i64 v0), (.int .i64 v1), (.string v2)])] w R :=
  calls_of_vc (A := { loops := [], pars := [] }) (Eq.mpr (show FnVc Tryz.prog { loops := [], pars := [] } 6 153 [(.agg #[(.int .i64 v0), (.int .i64 v1), (.string v2)])] R w = vc153 v0 v1 v2 R w by kernel_rfl) h)

/-- loupe/octet.String -/
def vc154 (s : ByteArray) (R : Ending → World → Prop) (w : World) : Prop :=
 kBlt (cR Tryz.prog R) w .len #[9] 3 #[false] #[(.string s)] fun v4 w_1 =>
 kConv (cR Tryz.prog R) w_1 3 145 v4 fun v5 w_2 =>
 kCall (cR Tryz.prog R) w_2 141 #[v5] fun v6 w_3 =>
 kBlt (cR Tryz.prog R) w_3 .append #[44, 9] 44 #[false, false] #[v6, (.string s)] fun v8 w_4 =>
 R (.returned v8) w_4
theorem c154 (s : ByteArray) (R : Ending → World → Prop) (w : World) (h : vc154 s R w) : Calls Tryz.prog 154 #[(.string s)] w R :=
  calls_of_vc (A := { loops := [], pars := [] }) (Eq.mpr (show FnVc Tryz.prog { loops := [], pars := [] } 9 154 [(.string s)] R w = vc154 s R w by kernel_rfl) h)

/-- loupe/row.laid$2 -/
def vc155 (a0 : Int) (a1 : Int) (a2 : ByteArray) (R : Ending → World → Prop) (w : World) : Prop :=
 kBox (cR Tryz.prog R) w 59 (.agg #[(.int .i64 a0), (.int .i64 a1), (.string a2)]) fun v1 w_1 =>
 R (.returned (.slice none 0 0)) w_1
theorem c155 (a0 : Int) (a1 : Int) (a2 : ByteArray) (R : Ending → World → Prop) (w : World) (h : vc155 a0 a1 a2 R w) : Calls Tryz.prog 155 #[(.agg #[(.int .i64 a0), (.int .i64 a1), (.string a2)])] w R :=
  calls_of_vc (A := { loops := [], pars := [] }) (Eq.mpr (show FnVc Tryz.prog { loops := [], pars := [] } 3 155 [(.agg #[(.int .i64 a0), (.int .i64 a1), (.string a2)])] R w = vc155 a0 a1 a2 R w by kernel_rfl) h)

/-- loupe/row.laid$3 -/
def vc156 (v0 : Int) (v1 : Int) (v2 : ByteArray) (R : Ending → World → Prop) (w : World) : Prop :=
 kBox (cR Tryz.prog R) w 59 (.agg #[(.int .i64 v0), (.int .i64 v1), (.string v2)]) fun v1_1 w_1 =>
 kFa (cR Tryz.prog R) w_1 59 v1_1 1 fun v3 w_2 =>
 kLoad (cR Tryz.prog R) w_2 2 v3 fun v4 w_3 =>
 kConv (cR Tryz.prog R) w_3 2 5 v4 fun v5 w_4 =>
 kBuildS (cR Tryz.prog R) w_4 44 1 #[(0, v5)] fun v6 w_5 =>
 R (.returned v6) w_5
theorem c156 (v0 : Int) (v1 : Int) (v2 : ByteArray) (R : Ending → World → Prop) (w : World) (h : vc156 v0 v1 v2 R w) : Calls Tryz.prog 156 #[(.agg #[(.int .i64 v0), (.int .i64 v1), (.string v2)])] w R :=
  calls_of_vc (A := { loops := [], pars := [] }) (Eq.mpr (show FnVc Tryz.prog { loops := [], pars := [] } 7 156 [(.agg #[(.int .i64 v0), (.int .i64 v1), (.string v2)])] R w = vc156 v0 v1 v2 R w by kernel_rfl) h)

/-- loupe/row.laid$4 -/
def vc157 (v0 : Int) (v1 : Int) (v2 : ByteArray) (R : Ending → World → Prop) (w : World) : Prop :=
 kBox (cR Tryz.prog R) w 59 (.agg #[(.int .i64 v0), (.int .i64 v1), (.string v2)]) fun v1_1 w_1 =>
 kFa (cR Tryz.prog R) w_1 59 v1_1 1 fun v3 w_2 =>
 kLoad (cR Tryz.prog R) w_2 2 v3 fun v4 w_3 =>
 kBin (cR Tryz.prog R) w_3 .shl 2 v4 (.int .u64 1) fun v5 w_4 =>
 kConv (cR Tryz.prog R) w_4 2 145 v5 fun v6 w_5 =>
 kFa (cR Tryz.prog R) w_5 59 v1_1 1 fun v7 w_6 =>
 kLoad (cR Tryz.prog R) w_6 2 v7 fun v8 w_7 =>
 kBin (cR Tryz.prog R) w_7 .shr 2 v8 (.int .u64 63) fun v9 w_8 =>
 kConv (cR Tryz.prog R) w_8 2 145 v9 fun v10 w_9 =>
 kBin (cR Tryz.prog R) w_9 .xor 145 v6 v10 fun v11 w_10 =>
 kCall (cR Tryz.prog R) w_10 141 #[v11] fun v12 w_11 =>
 R (.returned v12) w_11
theorem c157 (v0 : Int) (v1 : Int) (v2 : ByteArray) (R : Ending → World → Prop) (w : World) (h : vc157 v0 v1 v2 R w) : Calls Tryz.prog 157 #[(.agg #[(.int .i64 v0), (.int .i64 v1), (.string v2)])] w R :=
  calls_of_vc (A := { loops := [], pars := [] }) (Eq.mpr (show FnVc Tryz.prog { loops := [], pars := [] } 13 157 [(.agg #[(.int .i64 v0), (.int .i64 v1), (.string v2)])] R w = vc157 v0 v1 v2 R w by kernel_rfl) h)

end Go.L
