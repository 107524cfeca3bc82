/- What is to be shown of single functions, printed by a program and compared with the translation by the kernel: no condition. -/
import Derived.Test.YtjifkcfmolnepaaA1
import Derived.Test.YtjifkcfmolnepaaProg
set_option linter.unusedVariables false
set_option linter.unusedSimpArgs false
namespace Go.L
open Go Go.RowKit Go.Proofs
set_option maxRecDepth 100000
set_option linter.unusedVariables false

/-- loupe/row.encoded -/
def vc41 (row : Option Addr) (rown : Nat) (rowc : Nat) (R : Ending → World → Prop) (w : World) : Prop :=
 kBlt (cR Try.prog R) w .len #[22] 3 #[false] #[(.slice row rown rowc)] fun v7 w_1 =>
 kConv (cR Try.prog R) w_1 3 84 v7 fun v8 w_2 =>
 kCall (cR Try.prog R) w_2 77 #[v8] fun v9 w_3 =>
 kAlloc (cR Try.prog R) w_3 38 fun v3 w_4 =>
 kStore (cR Try.prog R) w_4 38 v3 v9 fun w_5 =>
 kCall (cR Try.prog R) w_5 78 #[(.slice row rown rowc)] fun v11 w_6 =>
 kRange Try.prog none w_6 v11 1 (fun l D args w_7 Rr =>
 (fun p12 =>
 kAlloc (cN Try.prog) w_7 49 fun v4 w_8 =>
 kStore (cN Try.prog) w_8 49 v4 p12 fun w_9 =>
 rndMid l D w_7 w_9 fun lo w_10 =>
 (fun (c : Cx) =>
 kLoad c w_10 49 v4 fun v13 w_11 =>
 kCall c w_11 57 #[v13] fun v14 w_12 =>
 kEq c w_12 .eql 28 (.tmp 15) (.const (.int .i64 0)) v14 (.int .i64 0) fun v16 w_13 =>
 kCall c w_13 44 #[v16, v14] fun v18 w_14 =>
 kDrawn true (
 kPar w_14 13 [[], [], [1], [2], [3], [0, 4], [5], [], [7], [6, 8], [], [9, 10, 6], [5, 11], [12, 0, 1, 2, 3, 4, 5, 6, 7, 8, 9, 10, 11]] (fun Inv Cl =>
 (∀ (S : Nat → Bool) (vs : Nat → Value) (w_15 : World), Inv S vs w_15 → Cl S → S 0 = false → (∀ j, j ∈ ([] : List Nat) → S j = true) →
 kLoad (cN Try.prog) w_15 38 v3 fun v19 w_16 =>
 Inv (inc S 0) (setV vs 0 v19) w_16) ∧
 (∀ (S_1 : Nat → Bool) (vs_1 : Nat → Value) (w_17 : World), Inv S_1 vs_1 w_17 → Cl S_1 → S_1 1 = false → (∀ j, j ∈ ([] : List Nat) → S_1 j = true) →
 kFa (cN Try.prog) w_17 49 v4 0 fun v20 w_18 =>
 Inv (inc S_1 1) (setV vs_1 1 v20) w_18) ∧
 (∀ (S_2 : Nat → Bool) (vs_2 : Nat → Value) (w_19 : World), Inv S_2 vs_2 w_19 → Cl S_2 → S_2 2 = false → (∀ j, j ∈ ([1] : List Nat) → S_2 j = true) →
 kLoad (cN Try.prog) w_19 47 (vs_2 1) fun v21 w_20 =>
 Inv (inc S_2 2) (setV vs_2 2 v21) w_20) ∧
 (∀ (S_3 : Nat → Bool) (vs_3 : Nat → Value) (w_21 : World), Inv S_3 vs_3 w_21 → Cl S_3 → S_3 3 = false → (∀ j, j ∈ ([2] : List Nat) → S_3 j = true) →
 kConv (cN Try.prog) w_21 47 5 (vs_3 2) fun v22 w_22 =>
 Inv (inc S_3 3) (setV vs_3 3 v22) w_22) ∧
 (∀ (S_4 : Nat → Bool) (vs_4 : Nat → Value) (w_23 : World), Inv S_4 vs_4 w_23 → Cl S_4 → S_4 4 = false → (∀ j, j ∈ ([3] : List Nat) → S_4 j = true) →
 kBuildS (cN Try.prog) w_23 38 1 #[(0, (vs_4 3))] fun v23 w_24 =>
 Inv (inc S_4 4) (setV vs_4 4 v23) w_24) ∧
 (∀ (S_5 : Nat → Bool) (vs_5 : Nat → Value) (w_25 : World), Inv S_5 vs_5 w_25 → Cl S_5 → S_5 5 = false → (∀ j, j ∈ ([0, 4] : List Nat) → S_5 j = true) →
 kBlt (cN Try.prog) w_25 .append #[38, 38] 38 #[false, false] #[(vs_5 0), (vs_5 4)] fun v24 w_26 =>
 Inv (inc S_5 5) (setV vs_5 5 v24) w_26) ∧
 (∀ (S_6 : Nat → Bool) (vs_6 : Nat → Value) (w_27 : World), Inv S_6 vs_6 w_27 → Cl S_6 → S_6 6 = false → (∀ j, j ∈ ([5] : List Nat) → S_6 j = true) →
 kCall (cN Try.prog) w_27 79 #[] fun v25 w_28 =>
 Inv (inc S_6 6) (setV vs_6 6 v25) w_28) ∧
 (∀ (S_7 : Nat → Bool) (vs_7 : Nat → Value) (w_29 : World), Inv S_7 vs_7 w_29 → Cl S_7 → S_7 7 = false → (∀ j, j ∈ ([] : List Nat) → S_7 j = true) →
 kFa (cN Try.prog) w_29 49 v4 0 fun v26 w_30 =>
 Inv (inc S_7 7) (setV vs_7 7 v26) w_30) ∧
 (∀ (S_8 : Nat → Bool) (vs_8 : Nat → Value) (w_31 : World), Inv S_8 vs_8 w_31 → Cl S_8 → S_8 8 = false → (∀ j, j ∈ ([7] : List Nat) → S_8 j = true) →
 kLoad (cN Try.prog) w_31 47 (vs_8 7) fun v27 w_32 =>
 Inv (inc S_8 8) (setV vs_8 8 v27) w_32) ∧
 (∀ (S_9 : Nat → Bool) (vs_9 : Nat → Value) (w_33 : World), Inv S_9 vs_9 w_33 → Cl S_9 → S_9 9 = false → (∀ j, j ∈ ([6, 8] : List Nat) → S_9 j = true) →
 kLook (cN Try.prog) w_33 126 (vs_9 6) (vs_9 8) false fun v28 w_34 =>
 Inv (inc S_9 9) (setV vs_9 9 v28) w_34) ∧
 (∀ (S_10 : Nat → Bool) (vs_10 : Nat → Value) (w_35 : World), Inv S_10 vs_10 w_35 → Cl S_10 → S_10 10 = false → (∀ j, j ∈ ([] : List Nat) → S_10 j = true) →
 kLoad (cN Try.prog) w_35 49 v4 fun v29 w_36 =>
 Inv (inc S_10 10) (setV vs_10 10 v29) w_36) ∧
 (∀ (S_11 : Nat → Bool) (vs_11 : Nat → Value) (w_37 : World), Inv S_11 vs_11 w_37 → Cl S_11 → S_11 11 = false → (∀ j, j ∈ ([9, 10, 6] : List Nat) → S_11 j = true) →
 kCallV (cN Try.prog) w_37 (vs_11 9) #[(vs_11 10)] fun v30 w_38 =>
 Inv (inc S_11 11) (setV vs_11 11 v30) w_38) ∧
 (∀ (S_12 : Nat → Bool) (vs_12 : Nat → Value) (w_39 : World), Inv S_12 vs_12 w_39 → Cl S_12 → S_12 12 = false → (∀ j, j ∈ ([5, 11] : List Nat) → S_12 j = true) →
 kBlt (cN Try.prog) w_39 .append #[38, 38] 38 #[false, false] #[(vs_12 5), (vs_12 11)] fun v31 w_40 =>
 Inv (inc S_12 12) (setV vs_12 12 v31) w_40) ∧
 True) (fun vs_13 w_41 =>
 kStore c w_41 38 v3 (vs_13 12) fun w_42 =>
 rndEnd l D lo w_7 Rr .normal [] w_42))) ⟨Try.prog, fun ch w => rndEnd l D lo w_7 Rr (.panic ch) [] w, false⟩) (args.getD 0 undef))
  (fun D_1 w_43 =>
 (fun (c_1 : Cx) =>
 kBlt c_1 w_43 .len #[22] 3 #[false] #[(.slice row rown rowc)] fun v33 w_44 =>
 kBin c_1 w_44 .leq 3 v33 (.int .i64 32) fun v34 w_45 =>
 kIf v34 (
 kLoad c_1 w_45 38 v3 fun v36 w_46 =>
 kBlt c_1 w_46 .len #[38] 3 #[false] #[v36] fun v37 w_47 =>
 kBin c_1 w_47 .leq 3 v37 (.int .i64 4000) fun v38 w_48 =>
 kCall c_1 w_48 44 #[v38, (.int .i64 3)] fun v40 w_49 =>
 kLoad c_1 w_49 38 v3 fun v41 w_50 =>
 Lv Try.prog [.val v41] R [markOf D_1] .returning w_50) (
 kCall c_1 w_45 44 #[(.bool false), (.int .i64 3)] fun v40_1 w_51 =>
 kLoad c_1 w_51 38 v3 fun v41_1 w_52 =>
 Lv Try.prog [.val v41_1] R [markOf D_1] .returning w_52)) ⟨Try.prog, fun ch w => Lv Try.prog [.val (.slice none 0 0)] R [markOf D_1] (.panicking ch) w, false⟩)
  (fun _ _ => False)
  (fun _ _ _ => False)
  (fun D_1 ch w_55 => (fun ch w => Lv Try.prog [.val (.slice none 0 0)] R [markOf D_1] (.panicking ch) w) ch w_55)
theorem c41 (row : Option Addr) (rown : Nat) (rowc : Nat) (R : Ending → World → Prop) (w : World) (h : vc41 row rown rowc R w) : Calls Try.prog 41 #[(.slice row rown rowc)] w R :=
  calls_of_vc (A := { loops := [], pars := [6] }) (Eq.mpr (show FnVc Try.prog { loops := [], pars := [6] } 42 41 [(.slice row rown rowc)] R w = vc41 row rown rowc R w by kernel_rfl) h)

/-- loupe/row.Decode$1 -/
def vc42 (f0 : Value) (R : Ending → World → Prop) (w : World) : Prop :=
 kStore (cR Try.prog R) w 22 f0 (.slice none 0 0) fun w_1 =>
 R (.returned (.tuple #[])) w_1
theorem c42 (f0 : Value) (R : Ending → World → Prop) (w : World) (h : vc42 f0 R w) : Calls Try.prog 42 #[f0] w R :=
  calls_of_vc (A := { loops := [], pars := [] }) (Eq.mpr (show FnVc Try.prog { loops := [], pars := [] } 1 42 [f0] R w = vc42 f0 R w by kernel_rfl) h)

/-- (*loupe/row.reader).number -/
def vc43 (r : Value) (R : Ending → World → Prop) (w : World) : Prop :=
 kNil (cR Try.prog R) w r fun v8 w_1 =>
 kFa (cR Try.prog R) w_1 83 v8 0 fun v9 w_2 =>
 kFa (cR Try.prog R) w_2 81 v9 0 fun v10 w_3 =>
 kLoad (cR Try.prog R) w_3 38 v10 fun v11 w_4 =>
 kCall (cR Try.prog R) w_4 80 #[v11] fun v12 w_5 =>
 kExt v12 0 fun v13 =>
 kExt v12 1 fun v14 =>
 kExt v12 2 fun v15 =>
 kEq (cR Try.prog R) w_5 .eql 28 (.tmp 16) (.const (.int .i64 0)) v15 (.int .i64 0) fun v17 w_6 =>
 kCall (cR Try.prog R) w_6 44 #[v17, (.int .i64 210)] fun v18 w_7 =>
 kNil (cR Try.prog R) w_7 r fun v20 w_8 =>
 kFa (cR Try.prog R) w_8 83 v20 0 fun v21 w_9 =>
 kCall (cR Try.prog R) w_9 81 #[v21, v14] fun v23 w_10 =>
 R (.returned v13) w_10
theorem c43 (r : Value) (R : Ending → World → Prop) (w : World) (h : vc43 r R w) : Calls Try.prog 43 #[r] w R :=
  calls_of_vc (A := { loops := [], pars := [] }) (Eq.mpr (show FnVc Try.prog { loops := [], pars := [] } 25 43 [r] R w = vc43 r R w by kernel_rfl) h)

/-- loupe/row.must -/
def vc44 (fine : Bool) (eA : Int) (R : Ending → World → Prop) (w : World) : Prop :=
 kUn (cR Try.prog R) w .not (.bool fine) fun v5 w_1 =>
 kIf v5 (
 kMkI (cR Try.prog R) w_1 28 (.int .i64 eA) fun v7 w_2 =>
 kPanic (cR Try.prog R) w_2 v7) (
 R (.returned (.tuple #[])) w_1)
theorem c44 (fine : Bool) (eA : Int) (R : Ending → World → Prop) (w : World) (h : vc44 fine eA R w) : Calls Try.prog 44 #[(.bool fine), (.int .i64 eA)] w R :=
  calls_of_vc (A := { loops := [], pars := [] }) (Eq.mpr (show FnVc Try.prog { loops := [], pars := [] } 8 44 [(.bool fine), (.int .i64 eA)] R w = vc44 fine eA R w by kernel_rfl) h)

/-- (*loupe/row.reader).value -/
def vc45 (r : Value) (R : Ending → World → Prop) (w : World) : Prop :=
 kAlloc (cR Try.prog R) w 49 fun v2 w_1 =>
 kNil (cR Try.prog R) w_1 r fun v8 w_2 =>
 kFa (cR Try.prog R) w_2 83 v8 0 fun v9 w_3 =>
 kCall (cR Try.prog R) w_3 81 #[v9, (.int .i64 1)] fun v10 w_4 =>
 kIa (cR Try.prog R) w_4 38 v10 (.int .i64 0) fun v11 w_5 =>
 kLoad (cR Try.prog R) w_5 5 v11 fun v12 w_6 =>
 kConv (cR Try.prog R) w_6 5 47 v12 fun v13 w_7 =>
 kFa (cR Try.prog R) w_7 49 v2 0 fun v14 w_8 =>
 kStore (cR Try.prog R) w_8 47 v14 v13 fun w_9 =>
 kFa (cR Try.prog R) w_9 49 v2 0 fun v15 w_10 =>
 kLoad (cR Try.prog R) w_10 47 v15 fun v16 w_11 =>
 kEq (cR Try.prog R) w_11 .eql 47 (.tmp 16) (.const (.int .i64 0)) v16 (.int .i64 0) fun v19 w_12 =>
 kIf v19 (
 kLoad (cR Try.prog R) w_12 49 v2 fun v66 w_13 =>
 kStore (cR Try.prog R) w_13 49 v2 v66 fun w_14 =>
 RetK Try.prog [.cell v2 49] R w_14) (
 kEq (cR Try.prog R) w_12 .eql 47 (.tmp 16) (.const (.int .i64 1)) v16 (.int .i64 1) fun v21 w_15 =>
 kIf v21 (
 kNil (cR Try.prog R) w_15 r fun v23 w_16 =>
 kFa (cR Try.prog R) w_16 83 v23 0 fun v24 w_17 =>
 kCall (cR Try.prog R) w_17 81 #[v24, (.int .i64 1)] fun v25 w_18 =>
 kIa (cR Try.prog R) w_18 38 v25 (.int .i64 0) fun v26 w_19 =>
 kLoad (cR Try.prog R) w_19 5 v26 fun v27 w_20 =>
 kConv (cR Try.prog R) w_20 5 2 v27 fun v28 w_21 =>
 kFa (cR Try.prog R) w_21 49 v2 1 fun v29 w_22 =>
 kStore (cR Try.prog R) w_22 2 v29 v28 fun w_23 =>
 kLoad (cR Try.prog R) w_23 49 v2 fun v66_1 w_24 =>
 kStore (cR Try.prog R) w_24 49 v2 v66_1 fun w_25 =>
 RetK Try.prog [.cell v2 49] R w_25) (
 kEq (cR Try.prog R) w_15 .eql 47 (.tmp 16) (.const (.int .i64 2)) v16 (.int .i64 2) fun v31 w_26 =>
 kIf v31 (
 kCall (cR Try.prog R) w_26 43 #[r] fun v33 w_27 =>
 kBin (cR Try.prog R) w_27 .shr 84 v33 (.int .u64 1) fun v35 w_28 =>
 kConv (cR Try.prog R) w_28 84 2 v35 fun v36 w_29 =>
 kBin (cR Try.prog R) w_29 .and 84 v33 (.int .u64 1) fun v38 w_30 =>
 kConv (cR Try.prog R) w_30 84 2 v38 fun v39 w_31 =>
 kUn (cR Try.prog R) w_31 .neg v39 fun v40 w_32 =>
 kBin (cR Try.prog R) w_32 .xor 2 v36 v40 fun v41 w_33 =>
 kFa (cR Try.prog R) w_33 49 v2 1 fun v42 w_34 =>
 kStore (cR Try.prog R) w_34 2 v42 v41 fun w_35 =>
 kLoad (cR Try.prog R) w_35 49 v2 fun v66_2 w_36 =>
 kStore (cR Try.prog R) w_36 49 v2 v66_2 fun w_37 =>
 RetK Try.prog [.cell v2 49] R w_37) (
 kJn (fun J =>
 kEq (cR Try.prog R) w_26 .eql 47 (.tmp 16) (.const (.int .i64 3)) v16 (.int .i64 3) fun v44 w_54 =>
 kIf v44 (
 kD [] [] (J [v44] w_54)) (
 kEq (cR Try.prog R) w_54 .eql 47 (.tmp 16) (.const (.int .i64 4)) v16 (.int .i64 4) fun v45 w_55 =>
 kD [] [] (J [v45] w_55))) (fun cs w_38 => ∀ ds : List Value,
 (fun j43 =>
 kIf j43 (
 kNil (cR Try.prog R) w_38 r fun v48 w_39 =>
 kFa (cR Try.prog R) w_39 83 v48 0 fun v49 w_40 =>
 kFa (cR Try.prog R) w_40 81 v49 0 fun v50 w_41 =>
 kLoad (cR Try.prog R) w_41 38 v50 fun v51 w_42 =>
 kCall (cR Try.prog R) w_42 82 #[v51] fun v52 w_43 =>
 kExt v52 0 fun v53 =>
 kExt v52 1 fun v54 =>
 kExt v52 2 fun v55 =>
 kEq (cR Try.prog R) w_43 .eql 28 (.tmp 56) (.const (.int .i64 0)) v55 (.int .i64 0) fun v57 w_44 =>
 kCall (cR Try.prog R) w_44 44 #[v57, (.int .i64 210)] fun v58 w_45 =>
 kNil (cR Try.prog R) w_45 r fun v60 w_46 =>
 kFa (cR Try.prog R) w_46 83 v60 0 fun v61 w_47 =>
 kCall (cR Try.prog R) w_47 81 #[v61, v54] fun v63 w_48 =>
 kFa (cR Try.prog R) w_48 49 v2 2 fun v65 w_49 =>
 kStore (cR Try.prog R) w_49 9 v65 v53 fun w_50 =>
 kLoad (cR Try.prog R) w_50 49 v2 fun v66_3 w_51 =>
 kStore (cR Try.prog R) w_51 49 v2 v66_3 fun w_52 =>
 RetK Try.prog [.cell v2 49] R w_52) (
 kMkI (cR Try.prog R) w_38 28 (.int .i64 210) fun v17 w_53 =>
 kPanic (cR Try.prog R) w_53 v17)) (cs.getD 0 undef)))))
theorem c45 (r : Value) (R : Ending → World → Prop) (w : World) (h : vc45 r R w) : Calls Try.prog 45 #[r] w R :=
  calls_of_vc (A := { loops := [(1000012, [43])], pars := [] }) (Eq.mpr (show FnVc Try.prog { loops := [(1000012, [43])], pars := [] } 67 45 [r] R w = vc45 r R w by kernel_rfl) h)

/-- slices.Equal[[]byte,byte] -/
def vc46 (s1 : Option Addr) (s1n : Nat) (s1c : Nat) (s2 : Option Addr) (s2n : Nat) (s2c : Nat) (R : Ending → World → Prop) (w : World) : Prop :=
 kBlt (cR Try.prog R) w .len #[38] 3 #[false] #[(.slice s1 s1n s1c)] fun v7 w_1 =>
 kBlt (cR Try.prog R) w_1 .len #[38] 3 #[false] #[(.slice s2 s2n s2c)] fun v9 w_2 =>
 kEq (cR Try.prog R) w_2 .neq 3 (.tmp 7) (.tmp 9) v7 v9 fun v10 w_3 =>
 kIf v10 (
 R (.returned (.bool false)) w_3) (
 kBlt (cR Try.prog R) w_3 .len #[38] 3 #[false] #[(.slice s1 s1n s1c)] fun v12 w_4 =>
 kLoopF [(.int .i64 0)] w_4 fun cs ds w_5 N =>
 (fun x13 =>
 kBin (cR Try.prog R) w_5 .lss 3 x13 v12 fun v14 w_6 =>
 kIf v14 (
 kDrawn true (
 kIa (cQ Try.prog) w_6 38 (.slice s1 s1n s1c) x13 fun v18 w_7 =>
 kLoad (cQ Try.prog) w_7 5 v18 fun v19 w_8 =>
 kIa (cQ Try.prog) w_8 38 (.slice s2 s2n s2c) x13 fun v22 w_9 =>
 kLoad (cQ Try.prog) w_9 5 v22 fun v23 w_10 =>
 kEq (cQ Try.prog) w_10 .neq 5 (.tmp 19) (.tmp 23) v19 v23 fun v24 w_11 =>
 kDrew w_6 fun w_12 =>
 kIf v24 (
 R (.returned (.bool false)) w_12) (
 kBin (cR Try.prog R) w_12 .add 3 x13 (.int .i64 1) fun v25 w_13 =>
 kD [] [] (N [v25] w_13)))) (
 R (.returned (.bool true)) w_6)) (cs.getD 0 undef))
theorem c46 (s1 : Option Addr) (s1n : Nat) (s1c : Nat) (s2 : Option Addr) (s2n : Nat) (s2c : Nat) (R : Ending → World → Prop) (w : World) (h : vc46 s1 s1n s1c s2 s2n s2c R w) : Calls Try.prog 46 #[(.slice s1 s1n s1c), (.slice s2 s2n s2c)] w R :=
  calls_of_vc (A := { loops := [(0, [13])], pars := [] }) (Eq.mpr (show FnVc Try.prog { loops := [(0, [13])], pars := [] } 26 46 [(.slice s1 s1n s1c), (.slice s2 s2n s2c)] R w = vc46 s1 s1n s1c s2 s2n s2c R w by kernel_rfl) h)

/-- loupe/louperef03.ReadNumber -/
def vc47 (b : Option Addr) (bn : Nat) (bc : Nat) (R : Ending → World → Prop) (w : World) : Prop :=
 kLoopF [(.int .u64 0), (.int .u64 1), (.int .i64 0)] w fun cs ds w_1 N =>
 (fun x5 x6 x7 =>
 kJn (fun J =>
 kBlt (cR Try.prog R) w_1 .len #[38] 3 #[false] #[(.slice b bn bc)] fun v11 w_25 =>
 kBin (cR Try.prog R) w_25 .lss 3 x7 v11 fun v12 w_26 =>
 kIf v12 (
 kBin (cR Try.prog R) w_26 .lss 3 x7 (.int .i64 10) fun v15 w_27 =>
 kIf v15 (
 kD [] [] (J [] w_27)) (
 R (.returned (.tuple #[(.int .u64 0), (.int .i64 0), (.int .i64 130)])) w_27)) (
 kIf (.bool false) (
 kD [] [] (J [] w_26)) (
 R (.returned (.tuple #[(.int .u64 0), (.int .i64 0), (.int .i64 130)])) w_26))) (fun cs_1 w_2 => ∀ ds_1 : List Value,
 kIa (cR Try.prog R) w_2 38 (.slice b bn bc) x7 fun v21 w_3 =>
 kLoad (cR Try.prog R) w_3 5 v21 fun v22 w_4 =>
 kBin (cR Try.prog R) w_4 .rem 5 v22 (.int .u8 128) fun v23 w_5 =>
 kConv (cR Try.prog R) w_5 5 84 v23 fun v24 w_6 =>
 kJn (fun J_1 =>
 kEq (cR Try.prog R) w_6 .eql 3 (.tmp 25) (.const (.int .i64 9)) x7 (.int .i64 9) fun v26 w_21 =>
 kIf v26 (
 kIa (cR Try.prog R) w_21 38 (.slice b bn bc) x7 fun v30 w_22 =>
 kLoad (cR Try.prog R) w_22 5 v30 fun v31 w_23 =>
 kBin (cR Try.prog R) w_23 .gtr 5 v31 (.int .u8 1) fun v32 w_24 =>
 kIf v32 (
 R (.returned (.tuple #[(.int .u64 0), (.int .i64 0), (.int .i64 130)])) w_24) (
 kD [] [] (J_1 [] w_24))) (
 kIf (.bool false) (
 R (.returned (.tuple #[(.int .u64 0), (.int .i64 0), (.int .i64 130)])) w_21) (
 kD [] [] (J_1 [] w_21)))) (fun cs_2 w_7 => ∀ ds_2 : List Value,
 kBin (cR Try.prog R) w_7 .mul 84 v24 x6 fun v37 w_8 =>
 kBin (cR Try.prog R) w_8 .add 84 x5 v37 fun v38 w_9 =>
 kIa (cR Try.prog R) w_9 38 (.slice b bn bc) x7 fun v41 w_10 =>
 kLoad (cR Try.prog R) w_10 5 v41 fun v42 w_11 =>
 kBin (cR Try.prog R) w_11 .lss 5 v42 (.int .u8 128) fun v43 w_12 =>
 kIf v43 (
 kJn (fun J_2 =>
 kEq (cR Try.prog R) w_12 .eql 84 (.tmp 44) (.const (.int .u64 0)) v24 (.int .u64 0) fun v45 w_15 =>
 kIf v45 (
 kBin (cR Try.prog R) w_15 .gtr 3 x7 (.int .i64 0) fun v48 w_16 =>
 kIf v48 (
 R (.returned (.tuple #[(.int .u64 0), (.int .i64 0), (.int .i64 130)])) w_16) (
 kD [] [] (J_2 [] w_16))) (
 kIf (.bool false) (
 R (.returned (.tuple #[(.int .u64 0), (.int .i64 0), (.int .i64 130)])) w_15) (
 kD [] [] (J_2 [] w_15)))) (fun cs_3 w_13 => ∀ ds_3 : List Value,
 kBin (cR Try.prog R) w_13 .add 3 x7 (.int .i64 1) fun v52 w_14 =>
 R (.returned (.tuple #[v38, v52, (.int .i64 0)])) w_14)) (
 kBin (cR Try.prog R) w_12 .lss 3 x7 (.int .i64 9) fun v54 w_17 =>
 kIf v54 (
 kBin (cR Try.prog R) w_17 .mul 84 x6 (.int .u64 128) fun v56 w_18 =>
 kBin (cR Try.prog R) w_18 .add 3 x7 (.int .i64 1) fun v18 w_19 =>
 kD [] [] (N [v38, v56, v18] w_19)) (
 kBin (cR Try.prog R) w_17 .add 3 x7 (.int .i64 1) fun v18_1 w_20 =>
 kD [] [] (N [v38, x6, v18_1] w_20)))))) (cs.getD 0 undef) (cs.getD 1 undef) (cs.getD 2 undef)
theorem c47 (b : Option Addr) (bn : Nat) (bc : Nat) (R : Ending → World → Prop) (w : World) (h : vc47 b bn bc R w) : Calls Try.prog 47 #[(.slice b bn bc)] w R :=
  calls_of_vc (A := { loops := [(1000012, []), (1000008, []), (1000005, []), (0, [5, 6, 7])], pars := [] }) (Eq.mpr (show FnVc Try.prog { loops := [(1000012, []), (1000008, []), (1000005, []), (0, [5, 6, 7])], pars := [] } 57 47 [(.slice b bn bc)] R w = vc47 b bn bc R w by kernel_rfl) h)

/-- loupe/louperef11.one -/
def vc48 (b : Option Addr) (bn : Nat) (bc : Nat) (R : Ending → World → Prop) (w : World) : Prop :=
 kAlloc (cR Try.prog R) w 49 fun v2 w_1 =>
 kBlt (cR Try.prog R) w_1 .len #[38] 3 #[false] #[(.slice b bn bc)] fun v12 w_2 =>
 kEq (cR Try.prog R) w_2 .eql 3 (.tmp 12) (.const (.int .i64 0)) v12 (.int .i64 0) fun v13 w_3 =>
 kIf v13 (
 kBuild (cR Try.prog R) w_3 49 #[] fun v14 w_4 =>
 kStore (cR Try.prog R) w_4 49 v2 v14 fun w_5 =>
 RetK Try.prog [.cell v2 49, .val (.int .i64 0)] R w_5) (
 kIa (cR Try.prog R) w_3 38 (.slice b bn bc) (.int .i64 0) fun v16 w_6 =>
 kLoad (cR Try.prog R) w_6 5 v16 fun v17 w_7 =>
 kConv (cR Try.prog R) w_7 5 3 v17 fun v18 w_8 =>
 kBuild (cR Try.prog R) w_8 49 #[(0, v18)] fun v19 w_9 =>
 kAlloc (cR Try.prog R) w_9 49 fun v4 w_10 =>
 kStore (cR Try.prog R) w_10 49 v4 v19 fun w_11 =>
 kIa (cR Try.prog R) w_11 38 (.slice b bn bc) (.int .i64 0) fun v21 w_12 =>
 kLoad (cR Try.prog R) w_12 5 v21 fun v22 w_13 =>
 kEq (cR Try.prog R) w_13 .eql 5 (.tmp 22) (.const (.int .u8 0)) v22 (.int .u8 0) fun v24 w_14 =>
 kIf v24 (
 kLoad (cR Try.prog R) w_14 49 v4 fun v25 w_15 =>
 kStore (cR Try.prog R) w_15 49 v2 v25 fun w_16 =>
 RetK Try.prog [.cell v2 49, .val (.int .i64 1)] R w_16) (
 kEq (cR Try.prog R) w_14 .eql 5 (.tmp 22) (.const (.int .u8 1)) v22 (.int .u8 1) fun v27 w_17 =>
 kIf v27 (
 kJn (fun J =>
 kBlt (cR Try.prog R) w_17 .len #[38] 3 #[false] #[(.slice b bn bc)] fun v29 w_28 =>
 kBin (cR Try.prog R) w_28 .gtr 3 v29 (.int .i64 1) fun v30 w_29 =>
 kIf v30 (
 kIa (cR Try.prog R) w_29 38 (.slice b bn bc) (.int .i64 1) fun v33 w_30 =>
 kLoad (cR Try.prog R) w_30 5 v33 fun v34 w_31 =>
 kBin (cR Try.prog R) w_31 .leq 5 v34 (.int .u8 1) fun v35 w_32 =>
 kD [] [] (J [v35] w_32)) (
 kD [] [] (J [(.bool false)] w_29))) (fun cs w_18 => ∀ ds : List Value,
 (fun j36 =>
 kIf j36 (
 kIa (cR Try.prog R) w_18 38 (.slice b bn bc) (.int .i64 1) fun v38 w_19 =>
 kLoad (cR Try.prog R) w_19 5 v38 fun v39 w_20 =>
 kConv (cR Try.prog R) w_20 5 2 v39 fun v40 w_21 =>
 kFa (cR Try.prog R) w_21 49 v4 1 fun v41 w_22 =>
 kStore (cR Try.prog R) w_22 2 v41 v40 fun w_23 =>
 kLoad (cR Try.prog R) w_23 49 v4 fun v42 w_24 =>
 kStore (cR Try.prog R) w_24 49 v2 v42 fun w_25 =>
 RetK Try.prog [.cell v2 49, .val (.int .i64 2)] R w_25) (
 kBuild (cR Try.prog R) w_18 49 #[] fun v86 w_26 =>
 kStore (cR Try.prog R) w_26 49 v2 v86 fun w_27 =>
 RetK Try.prog [.cell v2 49, .val (.int .i64 0)] R w_27)) (cs.getD 0 undef))) (
 kEq (cR Try.prog R) w_17 .eql 5 (.tmp 22) (.const (.int .u8 2)) v22 (.int .u8 2) fun v44 w_33 =>
 kIf v44 (
 kSl (cR Try.prog R) w_33 38 (.slice b bn bc) (some (.int .i64 1)) none none fun v47 w_34 =>
 kCall (cR Try.prog R) w_34 47 #[v47] fun v48 w_35 =>
 kExt v48 0 fun v49 =>
 kExt v48 1 fun v50 =>
 kExt v48 2 fun v51 =>
 kEq (cR Try.prog R) w_35 .eql 3 (.tmp 52) (.const (.int .i64 0)) v51 (.int .i64 0) fun v53 w_36 =>
 kIf v53 (
 kBin (cR Try.prog R) w_36 .quo 84 v49 (.int .u64 2) fun v55 w_37 =>
 kConv (cR Try.prog R) w_37 84 2 v55 fun v56 w_38 =>
 kFa (cR Try.prog R) w_38 49 v4 1 fun v57 w_39 =>
 kStore (cR Try.prog R) w_39 2 v57 v56 fun w_40 =>
 kJn (fun J_1 =>
 kBin (cR Try.prog R) w_40 .rem 84 v49 (.int .u64 2) fun v59 w_45 =>
 kEq (cR Try.prog R) w_45 .eql 84 (.tmp 59) (.const (.int .u64 1)) v59 (.int .u64 1) fun v60 w_46 =>
 kIf v60 (
 kFa (cR Try.prog R) w_46 49 v4 1 fun v61 w_47 =>
 kLoad (cR Try.prog R) w_47 2 v61 fun v62 w_48 =>
 kUn (cR Try.prog R) w_48 .neg v62 fun v63 w_49 =>
 kBin (cR Try.prog R) w_49 .sub 2 v63 (.int .i64 1) fun v64 w_50 =>
 kFa (cR Try.prog R) w_50 49 v4 1 fun v65 w_51 =>
 kStore (cR Try.prog R) w_51 2 v65 v64 fun w_52 =>
 kD [] [] (J_1 [] w_52)) (
 kD [] [] (J_1 [] w_46))) (fun cs_1 w_41 => ∀ ds_1 : List Value,
 kLoad (cR Try.prog R) w_41 49 v4 fun v66 w_42 =>
 kBin (cR Try.prog R) w_42 .add 3 v50 (.int .i64 1) fun v68 w_43 =>
 kStore (cR Try.prog R) w_43 49 v2 v66 fun w_44 =>
 RetK Try.prog [.cell v2 49, .val v68] R w_44)) (
 kBuild (cR Try.prog R) w_36 49 #[] fun v86_1 w_53 =>
 kStore (cR Try.prog R) w_53 49 v2 v86_1 fun w_54 =>
 RetK Try.prog [.cell v2 49, .val (.int .i64 0)] R w_54)) (
 kJn (fun J_2 =>
 kEq (cR Try.prog R) w_33 .eql 5 (.tmp 22) (.const (.int .u8 3)) v22 (.int .u8 3) fun v70 w_68 =>
 kIf v70 (
 kD [] [] (J_2 [v70] w_68)) (
 kEq (cR Try.prog R) w_68 .eql 5 (.tmp 22) (.const (.int .u8 4)) v22 (.int .u8 4) fun v71 w_69 =>
 kD [] [] (J_2 [v71] w_69))) (fun cs_2 w_55 => ∀ ds_2 : List Value,
 (fun j69 =>
 kIf j69 (
 kSl (cR Try.prog R) w_55 38 (.slice b bn bc) (some (.int .i64 1)) none none fun v74 w_56 =>
 kCall (cR Try.prog R) w_56 83 #[v74] fun v75 w_57 =>
 kExt v75 0 fun v76 =>
 kExt v75 1 fun v77 =>
 kExt v75 2 fun v78 =>
 kEq (cR Try.prog R) w_57 .eql 3 (.tmp 79) (.const (.int .i64 0)) v78 (.int .i64 0) fun v80 w_58 =>
 kIf v80 (
 kFa (cR Try.prog R) w_58 49 v4 2 fun v82 w_59 =>
 kStore (cR Try.prog R) w_59 9 v82 v76 fun w_60 =>
 kLoad (cR Try.prog R) w_60 49 v4 fun v83 w_61 =>
 kBin (cR Try.prog R) w_61 .add 3 v77 (.int .i64 1) fun v85 w_62 =>
 kStore (cR Try.prog R) w_62 49 v2 v83 fun w_63 =>
 RetK Try.prog [.cell v2 49, .val v85] R w_63) (
 kBuild (cR Try.prog R) w_58 49 #[] fun v86_2 w_64 =>
 kStore (cR Try.prog R) w_64 49 v2 v86_2 fun w_65 =>
 RetK Try.prog [.cell v2 49, .val (.int .i64 0)] R w_65)) (
 kBuild (cR Try.prog R) w_55 49 #[] fun v86_3 w_66 =>
 kStore (cR Try.prog R) w_66 49 v2 v86_3 fun w_67 =>
 RetK Try.prog [.cell v2 49, .val (.int .i64 0)] R w_67)) (cs_2.getD 0 undef))))))
theorem c48 (b : Option Addr) (bn : Nat) (bc : Nat) (R : Ending → World → Prop) (w : World) (h : vc48 b bn bc R w) : Calls Try.prog 48 #[(.slice b bn bc)] w R :=
  calls_of_vc (A := { loops := [(1000009, [36]), (1000017, []), (1000020, [69])], pars := [] }) (Eq.mpr (show FnVc Try.prog { loops := [(1000009, [36]), (1000017, []), (1000020, [69])], pars := [] } 87 48 [(.slice b bn bc)] R w = vc48 b bn bc R w by kernel_rfl) h)

/-- loupe/louperef11.Encode -/
def vc49 (row : Option Addr) (rown : Nat) (rowc : Nat) (R : Ending → World → Prop) (w : World) : Prop :=
 kBlt (cR Try.prog R) w .len #[22] 3 #[false] #[(.slice row rown rowc)] fun v9 w_1 =>
 kConv (cR Try.prog R) w_1 3 84 v9 fun v10 w_2 =>
 kCall (cR Try.prog R) w_2 84 #[v10] fun v11 w_3 =>
 kLoopF [v11, (.int .i64 0)] w_3 fun cs ds w_4 N =>
 (fun x4 x5 =>
 kBlt (cR Try.prog R) w_4 .len #[22] 3 #[false] #[(.slice row rown rowc)] fun v14 w_5 =>
 kBin (cR Try.prog R) w_5 .lss 3 x5 v14 fun v15 w_6 =>
 kIf v15 (
 kIa (cR Try.prog R) w_6 22 (.slice row rown rowc) x5 fun v20 w_7 =>
 kLoad (cR Try.prog R) w_7 49 v20 fun v21 w_8 =>
 kAlloc (cR Try.prog R) w_8 49 fun v6 w_9 =>
 kStore (cR Try.prog R) w_9 49 v6 v21 fun w_10 =>
 kLoad (cR Try.prog R) w_10 49 v6 fun v22 w_11 =>
 kCall (cR Try.prog R) w_11 64 #[v22] fun v23 w_12 =>
 kEq (cR Try.prog R) w_12 .neq 3 (.tmp 24) (.const (.int .i64 0)) v23 (.int .i64 0) fun v25 w_13 =>
 kIf v25 (
 R (.returned (.tuple #[(.slice none 0 0), v23])) w_13) (
 kFa (cR Try.prog R) w_13 49 v6 0 fun v28 w_14 =>
 kLoad (cR Try.prog R) w_14 47 v28 fun v29 w_15 =>
 kConv (cR Try.prog R) w_15 3 5 v29 fun v30 w_16 =>
 kBuildS (cR Try.prog R) w_16 38 1 #[(0, v30)] fun v31 w_17 =>
 kBlt (cR Try.prog R) w_17 .append #[38, 38] 38 #[false, false] #[x4, v31] fun v32 w_18 =>
 kFa (cR Try.prog R) w_18 49 v6 0 fun v33 w_19 =>
 kLoad (cR Try.prog R) w_19 47 v33 fun v34 w_20 =>
 kEq (cR Try.prog R) w_20 .eql 3 (.tmp 34) (.const (.int .i64 1)) v34 (.int .i64 1) fun v36 w_21 =>
 kIf v36 (
 kFa (cR Try.prog R) w_21 49 v6 1 fun v38 w_22 =>
 kLoad (cR Try.prog R) w_22 2 v38 fun v39 w_23 =>
 kConv (cR Try.prog R) w_23 2 5 v39 fun v40 w_24 =>
 kBuildS (cR Try.prog R) w_24 38 1 #[(0, v40)] fun v41 w_25 =>
 kBlt (cR Try.prog R) w_25 .append #[38, 38] 38 #[false, false] #[v32, v41] fun v42 w_26 =>
 kBin (cR Try.prog R) w_26 .add 3 x5 (.int .i64 1) fun v17 w_27 =>
 kD [] [] (N [v42, v17] w_27)) (
 kEq (cR Try.prog R) w_21 .eql 3 (.tmp 34) (.const (.int .i64 2)) v34 (.int .i64 2) fun v44 w_28 =>
 kIf v44 (
 kFa (cR Try.prog R) w_28 49 v6 1 fun v46 w_29 =>
 kLoad (cR Try.prog R) w_29 2 v46 fun v47 w_30 =>
 kCall (cR Try.prog R) w_30 85 #[v47] fun v48 w_31 =>
 kCall (cR Try.prog R) w_31 84 #[v48] fun v49 w_32 =>
 kBlt (cR Try.prog R) w_32 .append #[38, 38] 38 #[false, false] #[v32, v49] fun v50 w_33 =>
 kBin (cR Try.prog R) w_33 .add 3 x5 (.int .i64 1) fun v17_1 w_34 =>
 kD [] [] (N [v50, v17_1] w_34)) (
 kJn (fun J =>
 kEq (cR Try.prog R) w_28 .eql 3 (.tmp 34) (.const (.int .i64 3)) v34 (.int .i64 3) fun v52 w_42 =>
 kIf v52 (
 kD [] [] (J [v52] w_42)) (
 kEq (cR Try.prog R) w_42 .eql 3 (.tmp 34) (.const (.int .i64 4)) v34 (.int .i64 4) fun v53 w_43 =>
 kD [] [] (J [v53] w_43))) (fun cs_1 w_35 => ∀ ds_1 : List Value,
 (fun j51 =>
 kIf j51 (
 kFa (cR Try.prog R) w_35 49 v6 2 fun v55 w_36 =>
 kLoad (cR Try.prog R) w_36 9 v55 fun v56 w_37 =>
 kCall (cR Try.prog R) w_37 86 #[v56] fun v57 w_38 =>
 kBlt (cR Try.prog R) w_38 .append #[38, 38] 38 #[false, false] #[v32, v57] fun v58 w_39 =>
 kBin (cR Try.prog R) w_39 .add 3 x5 (.int .i64 1) fun v17_2 w_40 =>
 kD [] [] (N [v58, v17_2] w_40)) (
 kBin (cR Try.prog R) w_35 .add 3 x5 (.int .i64 1) fun v17_3 w_41 =>
 kD [] [] (N [v32, v17_3] w_41))) (cs_1.getD 0 undef)))))) (
 kBlt (cR Try.prog R) w_6 .len #[22] 3 #[false] #[(.slice row rown rowc)] fun v60 w_44 =>
 kBin (cR Try.prog R) w_44 .gtr 3 v60 (.int .i64 32) fun v61 w_45 =>
 kIf v61 (
 kIf (.bool true) (
 R (.returned (.tuple #[(.slice none 0 0), (.int .i64 3)])) w_45) (
 R (.returned (.tuple #[x4, (.int .i64 0)])) w_45)) (
 kBlt (cR Try.prog R) w_45 .len #[38] 3 #[false] #[x4] fun v64 w_46 =>
 kBin (cR Try.prog R) w_46 .gtr 3 v64 (.int .i64 4000) fun v65 w_47 =>
 kIf v65 (
 R (.returned (.tuple #[(.slice none 0 0), (.int .i64 3)])) w_47) (
 R (.returned (.tuple #[x4, (.int .i64 0)])) w_47)))) (cs.getD 0 undef) (cs.getD 1 undef)
theorem c49 (row : Option Addr) (rown : Nat) (rowc : Nat) (R : Ending → World → Prop) (w : World) (h : vc49 row rown rowc R w) : Calls Try.prog 49 #[(.slice row rown rowc)] w R :=
  calls_of_vc (A := { loops := [(1000017, [51]), (0, [4, 5])], pars := [] }) (Eq.mpr (show FnVc Try.prog { loops := [(1000017, [51]), (0, [4, 5])], pars := [] } 68 49 [(.slice row rown rowc)] R w = vc49 row rown rowc R w by kernel_rfl) h)

/-- loupe/row.Columns$1 -/
def vc50 (yield : Value) (f0 : Value) (R : Ending → World → Prop) (w : World) : Prop :=
 kLoad (cR Try.prog R) w 22 f0 fun v5 w_1 =>
 kBlt (cR Try.prog R) w_1 .len #[22] 3 #[false] #[v5] fun v6 w_2 =>
 kLoopF [(.int .i64 0)] w_2 fun cs ds w_3 N =>
 (fun x7 =>
 kBin (cR Try.prog R) w_3 .lss 3 x7 v6 fun v8 w_4 =>
 kIf v8 (
 kIa (cR Try.prog R) w_4 22 v5 x7 fun v10 w_5 =>
 kLoad (cR Try.prog R) w_5 49 v10 fun v11 w_6 =>
 kAlloc (cR Try.prog R) w_6 49 fun v4 w_7 =>
 kStore (cR Try.prog R) w_7 49 v4 v11 fun w_8 =>
 kLoad (cR Try.prog R) w_8 49 v4 fun v14 w_9 =>
 kCallV (cR Try.prog R) w_9 yield #[x7, v14] fun v15 w_10 =>
 kUn (cR Try.prog R) w_10 .not v15 fun v16 w_11 =>
 kIf v16 (
 R (.returned (.tuple #[])) w_11) (
 kBin (cR Try.prog R) w_11 .add 3 x7 (.int .i64 1) fun v17 w_12 =>
 kD [] [] (N [v17] w_12))) (
 R (.returned (.tuple #[])) w_4)) (cs.getD 0 undef)
theorem c50 (yield : Value) (f0 : Value) (R : Ending → World → Prop) (w : World) (h : vc50 yield f0 R w) : Calls Try.prog 50 #[yield, f0] w R :=
  calls_of_vc (A := { loops := [(0, [7])], pars := [] }) (Eq.mpr (show FnVc Try.prog { loops := [(0, [7])], pars := [] } 18 50 [yield, f0] R w = vc50 yield f0 R w by kernel_rfl) h)

/-- loupe/louperef01.Of -/
def vc51 (t : Int) (R : Ending → World → Prop) (w : World) : Prop :=
 kAlloc (cR Try.prog R) w 49 fun v2 w_1 =>
 kEq (cR Try.prog R) w_1 .eql 3 (.tmp 3) (.const (.int .i64 0)) (.int .i64 t) (.int .i64 0) fun v4 w_2 =>
 kIf v4 (
 kIf (.bool true) (
 kBuild (cR Try.prog R) w_2 49 #[(0, (.int .i64 1)), (1, (.int .i64 t))] fun v10 w_3 =>
 kStore (cR Try.prog R) w_3 49 v2 v10 fun w_4 =>
 RetK Try.prog [.cell v2 49] R w_4) (
 kBuild (cR Try.prog R) w_2 49 #[] fun v11 w_5 =>
 kStore (cR Try.prog R) w_5 49 v2 v11 fun w_6 =>
 RetK Try.prog [.cell v2 49] R w_6)) (
 kEq (cR Try.prog R) w_2 .eql 3 (.tmp 6) (.const (.int .i64 1)) (.int .i64 t) (.int .i64 1) fun v7 w_7 =>
 kIf v7 (
 kBuild (cR Try.prog R) w_7 49 #[(0, (.int .i64 1)), (1, (.int .i64 t))] fun v10_1 w_8 =>
 kStore (cR Try.prog R) w_8 49 v2 v10_1 fun w_9 =>
 RetK Try.prog [.cell v2 49] R w_9) (
 kBuild (cR Try.prog R) w_7 49 #[] fun v11_1 w_10 =>
 kStore (cR Try.prog R) w_10 49 v2 v11_1 fun w_11 =>
 RetK Try.prog [.cell v2 49] R w_11))
theorem c51 (t : Int) (R : Ending → World → Prop) (w : World) (h : vc51 t R w) : Calls Try.prog 51 #[(.int .i64 t)] w R :=
  calls_of_vc (A := { loops := [], pars := [] }) (Eq.mpr (show FnVc Try.prog { loops := [], pars := [] } 12 51 [(.int .i64 t)] R w = vc51 t R w by kernel_rfl) h)

/-- loupe/sum.Do$1 -/
def vc53 (f0 : Value) (R : Ending → World → Prop) (w : World) : Prop :=
 kBuild (cR Try.prog R) w 49 #[] fun v1 w_1 =>
 kStore (cR Try.prog R) w_1 49 f0 v1 fun w_2 =>
 R (.returned (.tuple #[])) w_2
theorem c53 (f0 : Value) (R : Ending → World → Prop) (w : World) (h : vc53 f0 R w) : Calls Try.prog 53 #[f0] w R :=
  calls_of_vc (A := { loops := [], pars := [] }) (Eq.mpr (show FnVc Try.prog { loops := [], pars := [] } 2 53 [f0] R w = vc53 f0 R w by kernel_rfl) h)

/-- loupe/sum.must -/
def vc54 (fine : Bool) (eA : Int) (R : Ending → World → Prop) (w : World) : Prop :=
 kUn (cR Try.prog R) w .not (.bool fine) fun v5 w_1 =>
 kIf v5 (
 kMkI (cR Try.prog R) w_1 28 (.int .i64 eA) fun v7 w_2 =>
 kPanic (cR Try.prog R) w_2 v7) (
 R (.returned (.tuple #[])) w_1)
theorem c54 (fine : Bool) (eA : Int) (R : Ending → World → Prop) (w : World) (h : vc54 fine eA R w) : Calls Try.prog 54 #[(.bool fine), (.int .i64 eA)] w R :=
  calls_of_vc (A := { loops := [], pars := [] }) (Eq.mpr (show FnVc Try.prog { loops := [], pars := [] } 8 54 [(.bool fine), (.int .i64 eA)] R w = vc54 fine eA R w by kernel_rfl) h)

/-- loupe/sum.all[loupe/api.Value] -/
def vc55 (l : Option Addr) (ln : Nat) (lc : Nat) (such : Value) (R : Ending → World → Prop) (w : World) : Prop :=
 kBox (cR Try.prog R) w 98 such fun v3 w_1 =>
 kAlloc (cR Try.prog R) w_1 4 fun v4 w_2 =>
 kCall (cR Try.prog R) w_2 78 #[(.slice l ln lc)] fun v7 w_3 =>
 kRange Try.prog none w_3 v7 1 (fun l_1 D args w_4 Rr =>
 (fun p8 =>
 kAlloc (cN Try.prog) w_4 49 fun v5 w_5 =>
 kStore (cN Try.prog) w_5 49 v5 p8 fun w_6 =>
 rndMid l_1 D w_4 w_6 fun lo w_7 =>
 (fun (c : Cx) =>
 kLoad c w_7 98 v3 fun v9 w_8 =>
 kLoad c w_8 49 v5 fun v10 w_9 =>
 kCallV c w_9 v9 #[v10] fun v11 w_10 =>
 kUn c w_10 .not v11 fun v12 w_11 =>
 kIf v12 (
 kStore c w_11 4 v4 (.bool false) fun w_12 =>
 rndEnd l_1 D lo w_4 Rr .ret [] w_12) (
 rndEnd l_1 D lo w_4 Rr .normal [] w_11)) ⟨Try.prog, fun ch w => rndEnd l_1 D lo w_4 Rr (.panic ch) [] w, false⟩) (args.getD 0 undef))
  (fun D_1 w_13 =>
 (fun (c_1 : Cx) =>
 kStore c_1 w_13 4 v4 (.bool true) fun w_14 =>
 Lv Try.prog [.cell v4 4] R [markOf D_1] .returning w_14) ⟨Try.prog, fun ch w => Lv Try.prog [.cell v4 4] R [markOf D_1] (.panicking ch) w, false⟩)
  (fun D_1 w_15 =>
 Lv Try.prog [.cell v4 4] R [markOf D_1] .returning w_15)
  (fun _ _ _ => False)
  (fun D_1 ch w_17 => (fun ch w => Lv Try.prog [.cell v4 4] R [markOf D_1] (.panicking ch) w) ch w_17)
theorem c55 (l : Option Addr) (ln : Nat) (lc : Nat) (such : Value) (R : Ending → World → Prop) (w : World) (h : vc55 l ln lc such R w) : Calls Try.prog 55 #[(.slice l ln lc), such] w R :=
  calls_of_vc (A := { loops := [], pars := [] }) (Eq.mpr (show FnVc Try.prog { loops := [], pars := [] } 13 55 [(.slice l ln lc), such] R w = vc55 l ln lc such R w by kernel_rfl) h)

/-- loupe/sum.Do$2 -/
def vc56 (v0 : Int) (v1 : Int) (v2 : ByteArray) (R : Ending → World → Prop) (w : World) : Prop :=
 kBox (cR Try.prog R) w 49 (.agg #[(.int .i64 v0), (.int .i64 v1), (.string v2)]) fun v1_1 w_1 =>
 kLoad (cR Try.prog R) w_1 49 v1_1 fun v3 w_2 =>
 kCall (cR Try.prog R) w_2 57 #[v3] fun v4 w_3 =>
 kEq (cR Try.prog R) w_3 .eql 28 (.tmp 4) (.const (.int .i64 0)) v4 (.int .i64 0) fun v5 w_4 =>
 R (.returned v5) w_4
theorem c56 (v0 : Int) (v1 : Int) (v2 : ByteArray) (R : Ending → World → Prop) (w : World) (h : vc56 v0 v1 v2 R w) : Calls Try.prog 56 #[(.agg #[(.int .i64 v0), (.int .i64 v1), (.string v2)])] w R :=
  calls_of_vc (A := { loops := [], pars := [] }) (Eq.mpr (show FnVc Try.prog { loops := [], pars := [] } 6 56 [(.agg #[(.int .i64 v0), (.int .i64 v1), (.string v2)])] R w = vc56 v0 v1 v2 R w by kernel_rfl) h)

/-- loupe/value.Check -/
def vc57 (v0 : Int) (v1 : Int) (v2 : ByteArray) (R : Ending → World → Prop) (w : World) : Prop :=
 kBox (cR Try.prog R) w 49 (.agg #[(.int .i64 v0), (.int .i64 v1), (.string v2)]) fun v1_1 w_1 =>
 kAlloc (cR Try.prog R) w_1 28 fun v2_1 w_2 =>
 (fun (c : Cx) =>
 kLoad c w_2 49 v1_1 fun v3 w_3 =>
 kCall c w_3 89 #[v3] fun v4 w_4 =>
 kStore c w_4 28 v2_1 (.int .i64 0) fun w_5 =>
 Lv Try.prog [.cell v2_1 28] R [{ target := .fn (.func 87) #[], args := #[v2_1, (.func (.func 88) #[] #[])] }] .returning w_5) ⟨Try.prog, fun ch w => Lv Try.prog [.cell v2_1 28] R [{ target := .fn (.func 87) #[], args := #[v2_1, (.func (.func 88) #[] #[])] }] (.panicking ch) w, false⟩
theorem c57 (v0 : Int) (v1 : Int) (v2 : ByteArray) (R : Ending → World → Prop) (w : World) (h : vc57 v0 v1 v2 R w) : Calls Try.prog 57 #[(.agg #[(.int .i64 v0), (.int .i64 v1), (.string v2)])] w R :=
  calls_of_vc (A := { loops := [], pars := [] }) (Eq.mpr (show FnVc Try.prog { loops := [], pars := [] } 5 57 [(.agg #[(.int .i64 v0), (.int .i64 v1), (.string v2)])] R w = vc57 v0 v1 v2 R w by kernel_rfl) h)

/-- loupe/sum.typed -/
def vc58 (o : Int) (l : Option Addr) (ln : Nat) (lc : Nat) (R : Ending → World → Prop) (w : World) : Prop :=
 kBox (cR Try.prog R) w 53 (.int .i64 o) fun v2 w_1 =>
 kLoad (cR Try.prog R) w_1 53 v2 fun v11 w_2 =>
 kCall (cR Try.prog R) w_2 28 #[v11] fun v12 w_3 =>
 kExt v12 0 fun v13 =>
 kExt v12 1 fun v14 =>
 kAlloc (cR Try.prog R) w_3 62 fun v5 w_4 =>
 kStore (cR Try.prog R) w_4 62 v5 v13 fun w_5 =>
 kJn (fun J =>
 kIf v14 (
 kBlt (cR Try.prog R) w_5 .len #[24] 3 #[false] #[(.slice l ln lc)] fun v18 w_31 =>
 kFa (cR Try.prog R) w_31 62 v5 1 fun v19 w_32 =>
 kLoad (cR Try.prog R) w_32 3 v19 fun v20 w_33 =>
 kEq (cR Try.prog R) w_33 .eql 3 (.tmp 18) (.tmp 20) v18 v20 fun v21 w_34 =>
 kIf v21 (
 kCall (cR Try.prog R) w_34 90 #[(.slice l ln lc), (.func (.func 91) #[] #[])] fun v25 w_35 =>
 kCall (cR Try.prog R) w_35 54 #[v25, (.int .i64 2)] fun v27 w_36 =>
 kD [] [] (J [] w_36)) (
 kCall (cR Try.prog R) w_34 54 #[(.bool false), (.int .i64 2)] fun v27_1 w_37 =>
 kD [] [] (J [] w_37))) (
 kCall (cR Try.prog R) w_5 54 #[(.bool false), (.int .i64 2)] fun v27_2 w_38 =>
 kD [] [] (J [] w_38))) (fun cs w_6 => ∀ ds : List Value,
 kCall (cR Try.prog R) w_6 90 #[(.slice l ln lc), (.func (.func 92) #[] #[v5, v2])] fun v30 w_7 =>
 kCall (cR Try.prog R) w_7 54 #[v30, (.int .i64 120)] fun v31 w_8 =>
 kBlt (cR Try.prog R) w_8 .len #[24] 3 #[false] #[(.slice l ln lc)] fun v33 w_9 =>
 kLoopF [(.int .i64 0), (.int .i64 0)] w_9 fun cs_1 ds_1 w_10 N =>
 (fun x7 x34 =>
 kBin (cR Try.prog R) w_10 .lss 3 x34 v33 fun v35 w_11 =>
 kIf v35 (
 kIa (cR Try.prog R) w_11 24 (.slice l ln lc) x34 fun v36 w_12 =>
 kLoad (cR Try.prog R) w_12 27 v36 fun v37 w_13 =>
 kJn (fun J_1 =>
 kLoad (cR Try.prog R) w_13 53 v2 fun v38 w_17 =>
 kCall (cR Try.prog R) w_17 60 #[v38, (.int .i64 6), (.int .i64 12)] fun v39 w_18 =>
 kUn (cR Try.prog R) w_18 .not v39 fun v40 w_19 =>
 kIf v40 (
 kCall (cR Try.prog R) w_19 54 #[(.bool true), (.int .i64 120)] fun v54 w_20 =>
 kD [] [] (J_1 [] w_20)) (
 kEq (cR Try.prog R) w_19 .eql 27 (.tmp 42) (.const (.int .i64 0)) v37 (.int .i64 0) fun v43 w_21 =>
 kIf v43 (
 kCall (cR Try.prog R) w_21 54 #[(.bool true), (.int .i64 120)] fun v54_1 w_22 =>
 kD [] [] (J_1 [] w_22)) (
 kEq (cR Try.prog R) w_21 .eql 27 (.tmp 46) (.const (.int .i64 0)) x7 (.int .i64 0) fun v47 w_23 =>
 kIf v47 (
 kCall (cR Try.prog R) w_23 54 #[(.bool true), (.int .i64 120)] fun v54_2 w_24 =>
 kD [] [] (J_1 [] w_24)) (
 kEq (cR Try.prog R) w_23 .eql 27 (.tmp 50) (.tmp 51) x7 v37 fun v52 w_25 =>
 kCall (cR Try.prog R) w_25 54 #[v52, (.int .i64 120)] fun v54_3 w_26 =>
 kD [] [] (J_1 [] w_26))))) (fun cs_2 w_14 => ∀ ds_2 : List Value,
 kBlt (cR Try.prog R) w_14 .max #[27, 27] 27 #[false, false] #[x7, v37] fun v57 w_15 =>
 kBin (cR Try.prog R) w_15 .add 3 x34 (.int .i64 1) fun v58 w_16 =>
 kD [] [] (N [v57, v58] w_16))) (
 kLoad (cR Try.prog R) w_11 53 v2 fun v59 w_27 =>
 kEq (cR Try.prog R) w_27 .eql 53 (.tmp 59) (.const (.int .i64 6)) v59 (.int .i64 6) fun v60 w_28 =>
 kIf v60 (
 R (.returned x7) w_28) (
 kFa (cR Try.prog R) w_28 62 v5 3 fun v62 w_29 =>
 kLoad (cR Try.prog R) w_29 27 v62 fun v63 w_30 =>
 R (.returned v63) w_30))) (cs_1.getD 0 undef) (cs_1.getD 1 undef))
theorem c58 (o : Int) (l : Option Addr) (ln : Nat) (lc : Nat) (R : Ending → World → Prop) (w : World) (h : vc58 o l ln lc R w) : Calls Try.prog 58 #[(.int .i64 o), (.slice l ln lc)] w R :=
  calls_of_vc (A := { loops := [(1000009, []), (0, [7, 34]), (1000003, [])], pars := [] }) (Eq.mpr (show FnVc Try.prog { loops := [(1000009, []), (0, [7, 34]), (1000003, [])], pars := [] } 64 58 [(.int .i64 o), (.slice l ln lc)] R w = vc58 o l ln lc R w by kernel_rfl) h)

/-- loupe/sum.truth -/
def vc59 (is : Bool) (R : Ending → World → Prop) (w : World) : Prop :=
 kAlloc (cR Try.prog R) w 49 fun v2 w_1 =>
 kIf (.bool is) (
 kCall (cR Try.prog R) w_1 93 #[(.int .i64 1)] fun v4 w_2 =>
 kStore (cR Try.prog R) w_2 49 v2 v4 fun w_3 =>
 RetK Try.prog [.cell v2 49] R w_3) (
 kCall (cR Try.prog R) w_1 93 #[(.int .i64 0)] fun v5 w_4 =>
 kStore (cR Try.prog R) w_4 49 v2 v5 fun w_5 =>
 RetK Try.prog [.cell v2 49] R w_5)
theorem c59 (is : Bool) (R : Ending → World → Prop) (w : World) (h : vc59 is R w) : Calls Try.prog 59 #[(.bool is)] w R :=
  calls_of_vc (A := { loops := [], pars := [] }) (Eq.mpr (show FnVc Try.prog { loops := [], pars := [] } 6 59 [(.bool is)] R w = vc59 is R w by kernel_rfl) h)

/-- loupe/sum.within -/
def vc60 (o : Int) (fromA : Int) (untilA : Int) (R : Ending → World → Prop) (w : World) : Prop :=
 kBin (cR Try.prog R) w .geq 53 (.int .i64 o) (.int .i64 fromA) fun v9 w_1 =>
 kIf v9 (
 kBin (cR Try.prog R) w_1 .leq 53 (.int .i64 o) (.int .i64 untilA) fun v13 w_2 =>
 R (.returned v13) w_2) (
 R (.returned (.bool false)) w_1)
theorem c60 (o : Int) (fromA : Int) (untilA : Int) (R : Ending → World → Prop) (w : World) (h : vc60 o fromA untilA R w) : Calls Try.prog 60 #[(.int .i64 o), (.int .i64 fromA), (.int .i64 untilA)] w R :=
  calls_of_vc (A := { loops := [], pars := [] }) (Eq.mpr (show FnVc Try.prog { loops := [], pars := [] } 15 60 [(.int .i64 o), (.int .i64 fromA), (.int .i64 untilA)] R w = vc60 o fromA untilA R w by kernel_rfl) h)

/-- (loupe/sum.sum).logic -/
def vc61 (s0 : Int) (s1 : Int) (s2 : ByteArray) (s3 : Int) (s4 : Int) (s5 : ByteArray) (s6 : Int) (R : Ending → World → Prop) (w : World) : Prop :=
 kBox (cR Try.prog R) w 103 (.agg #[(.int .i64 s0), (.int .i64 s1), (.string s2), (.int .i64 s3), (.int .i64 s4), (.string s5), (.int .i64 s6)]) fun v1 w_1 =>
 kAlloc (cR Try.prog R) w_1 49 fun v2 w_2 =>
 kFa (cR Try.prog R) w_2 103 v1 0 fun v8 w_3 =>
 kFa (cR Try.prog R) w_3 101 v8 0 fun v9 w_4 =>
 kLoad (cR Try.prog R) w_4 49 v9 fun v10 w_5 =>
 kCall (cR Try.prog R) w_5 94 #[v10] fun v11 w_6 =>
 kExt v11 0 fun v12 =>
 kExt v11 1 fun v13 =>
 kFa (cR Try.prog R) w_6 103 v1 0 fun v15 w_7 =>
 kFa (cR Try.prog R) w_7 101 v15 1 fun v16 w_8 =>
 kLoad (cR Try.prog R) w_8 49 v16 fun v17 w_9 =>
 kCall (cR Try.prog R) w_9 94 #[v17] fun v18 w_10 =>
 kExt v18 0 fun v19 =>
 kExt v18 1 fun v20 =>
 kFa (cR Try.prog R) w_10 103 v1 1 fun v21 w_11 =>
 kLoad (cR Try.prog R) w_11 53 v21 fun v22 w_12 =>
 kEq (cR Try.prog R) w_12 .eql 53 (.tmp 22) (.const (.int .i64 13)) v22 (.int .i64 13) fun v24 w_13 =>
 kIf v24 (
 kBuildS (cR Try.prog R) w_13 160 2 #[(0, v12), (1, v19)] fun v27 w_14 =>
 kCall (cR Try.prog R) w_14 95 #[v27] fun v28 w_15 =>
 kCall (cR Try.prog R) w_15 93 #[v28] fun v29 w_16 =>
 kStore (cR Try.prog R) w_16 49 v2 v29 fun w_17 =>
 RetK Try.prog [.cell v2 49] R w_17) (
 kEq (cR Try.prog R) w_13 .eql 53 (.tmp 22) (.const (.int .i64 14)) v22 (.int .i64 14) fun v31 w_18 =>
 kIf v31 (
 kBuildS (cR Try.prog R) w_18 160 2 #[(0, v12), (1, v19)] fun v34 w_19 =>
 kCall (cR Try.prog R) w_19 96 #[v34] fun v35 w_20 =>
 kCall (cR Try.prog R) w_20 93 #[v35] fun v36 w_21 =>
 kStore (cR Try.prog R) w_21 49 v2 v36 fun w_22 =>
 RetK Try.prog [.cell v2 49] R w_22) (
 kCall (cR Try.prog R) w_18 97 #[v12] fun v38 w_23 =>
 kCall (cR Try.prog R) w_23 93 #[v38] fun v39 w_24 =>
 kStore (cR Try.prog R) w_24 49 v2 v39 fun w_25 =>
 RetK Try.prog [.cell v2 49] R w_25))
theorem c61 (s0 : Int) (s1 : Int) (s2 : ByteArray) (s3 : Int) (s4 : Int) (s5 : ByteArray) (s6 : Int) (R : Ending → World → Prop) (w : World) (h : vc61 s0 s1 s2 s3 s4 s5 s6 R w) : Calls Try.prog 61 #[(.agg #[(.int .i64 s0), (.int .i64 s1), (.string s2), (.int .i64 s3), (.int .i64 s4), (.string s5), (.int .i64 s6)])] w R :=
  calls_of_vc (A := { loops := [], pars := [] }) (Eq.mpr (show FnVc Try.prog { loops := [], pars := [] } 40 61 [(.agg #[(.int .i64 s0), (.int .i64 s1), (.string s2), (.int .i64 s3), (.int .i64 s4), (.string s5), (.int .i64 s6)])] R w = vc61 s0 s1 s2 s3 s4 s5 s6 R w by kernel_rfl) h)

/-- (loupe/sum.sum).ordered -/
def vc62 (s0 : Int) (s1 : Int) (s2 : ByteArray) (s3 : Int) (s4 : Int) (s5 : ByteArray) (s6 : Int) (R : Ending → World → Prop) (w : World) : Prop :=
 kBox (cR Try.prog R) w 103 (.agg #[(.int .i64 s0), (.int .i64 s1), (.string s2), (.int .i64 s3), (.int .i64 s4), (.string s5), (.int .i64 s6)]) fun v1 w_1 =>
 kAlloc (cR Try.prog R) w_1 49 fun v2 w_2 =>
 kFa (cR Try.prog R) w_2 103 v1 0 fun v4 w_3 =>
 kFa (cR Try.prog R) w_3 101 v4 0 fun v5 w_4 =>
 kLoad (cR Try.prog R) w_4 49 v5 fun v6 w_5 =>
 kFa (cR Try.prog R) w_5 103 v1 0 fun v7 w_6 =>
 kFa (cR Try.prog R) w_6 101 v7 1 fun v8 w_7 =>
 kLoad (cR Try.prog R) w_7 49 v8 fun v9 w_8 =>
 kCall (cR Try.prog R) w_8 98 #[v6, v9] fun v10 w_9 =>
 kEq (cR Try.prog R) w_9 .eql 3 (.tmp 11) (.const (.int .i64 0)) v10 (.int .i64 0) fun v12 w_10 =>
 kEq (cR Try.prog R) w_10 .neq 3 (.tmp 13) (.const (.int .i64 0)) v10 (.int .i64 0) fun v14 w_11 =>
 kBin (cR Try.prog R) w_11 .lss 3 v10 (.int .i64 0) fun v16 w_12 =>
 kBin (cR Try.prog R) w_12 .leq 3 v10 (.int .i64 0) fun v18 w_13 =>
 kBin (cR Try.prog R) w_13 .gtr 3 v10 (.int .i64 0) fun v20 w_14 =>
 kBin (cR Try.prog R) w_14 .geq 3 v10 (.int .i64 0) fun v22 w_15 =>
 kBuild (cR Try.prog R) w_15 147 #[(0, v12), (1, v14), (2, v16), (3, v18), (4, v20), (5, v22)] fun v23 w_16 =>
 kFa (cR Try.prog R) w_16 103 v1 1 fun v24 w_17 =>
 kLoad (cR Try.prog R) w_17 53 v24 fun v25 w_18 =>
 kBin (cR Try.prog R) w_18 .sub 53 v25 (.int .i64 7) fun v26 w_19 =>
 kIx (cR Try.prog R) w_19 147 v23 v26 fun v27 w_20 =>
 kCall (cR Try.prog R) w_20 59 #[v27] fun v28 w_21 =>
 kStore (cR Try.prog R) w_21 49 v2 v28 fun w_22 =>
 RetK Try.prog [.cell v2 49] R w_22
theorem c62 (s0 : Int) (s1 : Int) (s2 : ByteArray) (s3 : Int) (s4 : Int) (s5 : ByteArray) (s6 : Int) (R : Ending → World → Prop) (w : World) (h : vc62 s0 s1 s2 s3 s4 s5 s6 R w) : Calls Try.prog 62 #[(.agg #[(.int .i64 s0), (.int .i64 s1), (.string s2), (.int .i64 s3), (.int .i64 s4), (.string s5), (.int .i64 s6)])] w R :=
  calls_of_vc (A := { loops := [], pars := [] }) (Eq.mpr (show FnVc Try.prog { loops := [], pars := [] } 29 62 [(.agg #[(.int .i64 s0), (.int .i64 s1), (.string s2), (.int .i64 s3), (.int .i64 s4), (.string s5), (.int .i64 s6)])] R w = vc62 s0 s1 s2 s3 s4 s5 s6 R w by kernel_rfl) h)

/-- loupe/sum.does -/
def vc63  (R : Ending → World → Prop) (w : World) : Prop :=
 kMkMap (cR Try.prog R) w 107 none fun v1 w_1 =>
 kUpd (cR Try.prog R) w_1 107 v1 (.int .i64 1) (.func (.func 99) #[] #[]) fun w_2 =>
 kUpd (cR Try.prog R) w_2 107 v1 (.int .i64 2) (.func (.func 100) #[] #[]) fun w_3 =>
 kUpd (cR Try.prog R) w_3 107 v1 (.int .i64 3) (.func (.func 101) #[] #[]) fun w_4 =>
 kUpd (cR Try.prog R) w_4 107 v1 (.int .i64 4) (.func (.func 102) #[] #[]) fun w_5 =>
 kUpd (cR Try.prog R) w_5 107 v1 (.int .i64 5) (.func (.func 103) #[] #[]) fun w_6 =>
 kUpd (cR Try.prog R) w_6 107 v1 (.int .i64 15) (.func (.func 104) #[] #[]) fun w_7 =>
 kUpd (cR Try.prog R) w_7 107 v1 (.int .i64 20) (.func (.func 105) #[] #[]) fun w_8 =>
 kUpd (cR Try.prog R) w_8 107 v1 (.int .i64 6) (.func (.func 106) #[] #[]) fun w_9 =>
 kUpd (cR Try.prog R) w_9 107 v1 (.int .i64 19) (.func (.func 107) #[] #[]) fun w_10 =>
 R (.returned v1) w_10
theorem c63  (R : Ending → World → Prop) (w : World) (h : vc63  R w) : Calls Try.prog 63 #[] w R :=
  calls_of_vc (A := { loops := [], pars := [] }) (Eq.mpr (show FnVc Try.prog { loops := [], pars := [] } 3 63 [] R w = vc63  R w by kernel_rfl) h)

/-- loupe/louperef01.Check -/
def vc64 (v0 : Int) (v1 : Int) (v2 : ByteArray) (R : Ending → World → Prop) (w : World) : Prop :=
 kBox (cR Try.prog R) w 49 (.agg #[(.int .i64 v0), (.int .i64 v1), (.string v2)]) fun v1_1 w_1 =>
 kFa (cR Try.prog R) w_1 49 v1_1 0 fun v4 w_2 =>
 kLoad (cR Try.prog R) w_2 47 v4 fun v5 w_3 =>
 kFa (cR Try.prog R) w_3 49 v1_1 2 fun v6 w_4 =>
 kLoad (cR Try.prog R) w_4 9 v6 fun v7 w_5 =>
 kBlt (cR Try.prog R) w_5 .len #[9] 3 #[false] #[v7] fun v8 w_6 =>
 kBin (cR Try.prog R) w_6 .gtr 3 v8 (.int .i64 1000) fun v9 w_7 =>
 kIf v9 (
 R (.returned (.int .i64 3)) w_7) (
 kBin (cR Try.prog R) w_7 .lss 3 v5 (.int .i64 0) fun v11 w_8 =>
 kIf v11 (
 kIf (.bool true) (
 R (.returned (.int .i64 2)) w_8) (
 R (.returned (.int .i64 0)) w_8)) (
 kBin (cR Try.prog R) w_8 .gtr 3 v5 (.int .i64 4) fun v14 w_9 =>
 kIf v14 (
 kIf (.bool true) (
 R (.returned (.int .i64 2)) w_9) (
 R (.returned (.int .i64 0)) w_9)) (
 kBin (cR Try.prog R) w_9 .lss 3 v5 (.int .i64 3) fun v18 w_10 =>
 kIf v18 (
 kFa (cR Try.prog R) w_10 49 v1_1 2 fun v20 w_11 =>
 kLoad (cR Try.prog R) w_11 9 v20 fun v21 w_12 =>
 kEq (cR Try.prog R) w_12 .neq 9 (.tmp 21) (.const (.string ⟨#[]⟩)) v21 (.string ⟨#[]⟩) fun v22 w_13 =>
 kIf v22 (
 kIf (.bool true) (
 R (.returned (.int .i64 2)) w_13) (
 R (.returned (.int .i64 0)) w_13)) (
 kEq (cR Try.prog R) w_13 .neq 3 (.tmp 26) (.const (.int .i64 1)) v5 (.int .i64 1) fun v27 w_14 =>
 kIf v27 (
 kEq (cR Try.prog R) w_14 .neq 3 (.tmp 29) (.const (.int .i64 2)) v5 (.int .i64 2) fun v30 w_15 =>
 kIf v30 (
 kFa (cR Try.prog R) w_15 49 v1_1 1 fun v33 w_16 =>
 kLoad (cR Try.prog R) w_16 2 v33 fun v34 w_17 =>
 kEq (cR Try.prog R) w_17 .neq 2 (.tmp 34) (.const (.int .i64 0)) v34 (.int .i64 0) fun v35 w_18 =>
 kIf v35 (
 kIf (.bool true) (
 R (.returned (.int .i64 2)) w_18) (
 R (.returned (.int .i64 0)) w_18)) (
 kEq (cR Try.prog R) w_18 .eql 3 (.tmp 39) (.const (.int .i64 1)) v5 (.int .i64 1) fun v40 w_19 =>
 kIf v40 (
 kFa (cR Try.prog R) w_19 49 v1_1 1 fun v42 w_20 =>
 kLoad (cR Try.prog R) w_20 2 v42 fun v43 w_21 =>
 kEq (cR Try.prog R) w_21 .neq 2 (.tmp 43) (.const (.int .i64 0)) v43 (.int .i64 0) fun v44 w_22 =>
 kIf v44 (
 kFa (cR Try.prog R) w_22 49 v1_1 1 fun v47 w_23 =>
 kLoad (cR Try.prog R) w_23 2 v47 fun v48 w_24 =>
 kEq (cR Try.prog R) w_24 .neq 2 (.tmp 48) (.const (.int .i64 1)) v48 (.int .i64 1) fun v49 w_25 =>
 kIf v49 (
 R (.returned (.int .i64 2)) w_25) (
 R (.returned (.int .i64 0)) w_25)) (
 kIf (.bool false) (
 R (.returned (.int .i64 2)) w_22) (
 R (.returned (.int .i64 0)) w_22))) (
 kIf (.bool false) (
 R (.returned (.int .i64 2)) w_19) (
 R (.returned (.int .i64 0)) w_19)))) (
 kEq (cR Try.prog R) w_15 .eql 3 (.tmp 39) (.const (.int .i64 1)) v5 (.int .i64 1) fun v40_1 w_26 =>
 kIf v40_1 (
 kFa (cR Try.prog R) w_26 49 v1_1 1 fun v42_1 w_27 =>
 kLoad (cR Try.prog R) w_27 2 v42_1 fun v43_1 w_28 =>
 kEq (cR Try.prog R) w_28 .neq 2 (.tmp 43) (.const (.int .i64 0)) v43_1 (.int .i64 0) fun v44_1 w_29 =>
 kIf v44_1 (
 kFa (cR Try.prog R) w_29 49 v1_1 1 fun v47_1 w_30 =>
 kLoad (cR Try.prog R) w_30 2 v47_1 fun v48_1 w_31 =>
 kEq (cR Try.prog R) w_31 .neq 2 (.tmp 48) (.const (.int .i64 1)) v48_1 (.int .i64 1) fun v49_1 w_32 =>
 kIf v49_1 (
 R (.returned (.int .i64 2)) w_32) (
 R (.returned (.int .i64 0)) w_32)) (
 kIf (.bool false) (
 R (.returned (.int .i64 2)) w_29) (
 R (.returned (.int .i64 0)) w_29))) (
 kIf (.bool false) (
 R (.returned (.int .i64 2)) w_26) (
 R (.returned (.int .i64 0)) w_26)))) (
 kEq (cR Try.prog R) w_14 .eql 3 (.tmp 39) (.const (.int .i64 1)) v5 (.int .i64 1) fun v40_2 w_33 =>
 kIf v40_2 (
 kFa (cR Try.prog R) w_33 49 v1_1 1 fun v42_2 w_34 =>
 kLoad (cR Try.prog R) w_34 2 v42_2 fun v43_2 w_35 =>
 kEq (cR Try.prog R) w_35 .neq 2 (.tmp 43) (.const (.int .i64 0)) v43_2 (.int .i64 0) fun v44_2 w_36 =>
 kIf v44_2 (
 kFa (cR Try.prog R) w_36 49 v1_1 1 fun v47_2 w_37 =>
 kLoad (cR Try.prog R) w_37 2 v47_2 fun v48_2 w_38 =>
 kEq (cR Try.prog R) w_38 .neq 2 (.tmp 48) (.const (.int .i64 1)) v48_2 (.int .i64 1) fun v49_2 w_39 =>
 kIf v49_2 (
 R (.returned (.int .i64 2)) w_39) (
 R (.returned (.int .i64 0)) w_39)) (
 kIf (.bool false) (
 R (.returned (.int .i64 2)) w_36) (
 R (.returned (.int .i64 0)) w_36))) (
 kIf (.bool false) (
 R (.returned (.int .i64 2)) w_33) (
 R (.returned (.int .i64 0)) w_33))))) (
 kEq (cR Try.prog R) w_10 .neq 3 (.tmp 26) (.const (.int .i64 1)) v5 (.int .i64 1) fun v27_1 w_40 =>
 kIf v27_1 (
 kEq (cR Try.prog R) w_40 .neq 3 (.tmp 29) (.const (.int .i64 2)) v5 (.int .i64 2) fun v30_1 w_41 =>
 kIf v30_1 (
 kFa (cR Try.prog R) w_41 49 v1_1 1 fun v33_1 w_42 =>
 kLoad (cR Try.prog R) w_42 2 v33_1 fun v34_1 w_43 =>
 kEq (cR Try.prog R) w_43 .neq 2 (.tmp 34) (.const (.int .i64 0)) v34_1 (.int .i64 0) fun v35_1 w_44 =>
 kIf v35_1 (
 kIf (.bool true) (
 R (.returned (.int .i64 2)) w_44) (
 R (.returned (.int .i64 0)) w_44)) (
 kEq (cR Try.prog R) w_44 .eql 3 (.tmp 39) (.const (.int .i64 1)) v5 (.int .i64 1) fun v40_3 w_45 =>
 kIf v40_3 (
 kFa (cR Try.prog R) w_45 49 v1_1 1 fun v42_3 w_46 =>
 kLoad (cR Try.prog R) w_46 2 v42_3 fun v43_3 w_47 =>
 kEq (cR Try.prog R) w_47 .neq 2 (.tmp 43) (.const (.int .i64 0)) v43_3 (.int .i64 0) fun v44_3 w_48 =>
 kIf v44_3 (
 kFa (cR Try.prog R) w_48 49 v1_1 1 fun v47_3 w_49 =>
 kLoad (cR Try.prog R) w_49 2 v47_3 fun v48_3 w_50 =>
 kEq (cR Try.prog R) w_50 .neq 2 (.tmp 48) (.const (.int .i64 1)) v48_3 (.int .i64 1) fun v49_3 w_51 =>
 kIf v49_3 (
 R (.returned (.int .i64 2)) w_51) (
 R (.returned (.int .i64 0)) w_51)) (
 kIf (.bool false) (
 R (.returned (.int .i64 2)) w_48) (
 R (.returned (.int .i64 0)) w_48))) (
 kIf (.bool false) (
 R (.returned (.int .i64 2)) w_45) (
 R (.returned (.int .i64 0)) w_45)))) (
 kEq (cR Try.prog R) w_41 .eql 3 (.tmp 39) (.const (.int .i64 1)) v5 (.int .i64 1) fun v40_4 w_52 =>
 kIf v40_4 (
 kFa (cR Try.prog R) w_52 49 v1_1 1 fun v42_4 w_53 =>
 kLoad (cR Try.prog R) w_53 2 v42_4 fun v43_4 w_54 =>
 kEq (cR Try.prog R) w_54 .neq 2 (.tmp 43) (.const (.int .i64 0)) v43_4 (.int .i64 0) fun v44_4 w_55 =>
 kIf v44_4 (
 kFa (cR Try.prog R) w_55 49 v1_1 1 fun v47_4 w_56 =>
 kLoad (cR Try.prog R) w_56 2 v47_4 fun v48_4 w_57 =>
 kEq (cR Try.prog R) w_57 .neq 2 (.tmp 48) (.const (.int .i64 1)) v48_4 (.int .i64 1) fun v49_4 w_58 =>
 kIf v49_4 (
 R (.returned (.int .i64 2)) w_58) (
 R (.returned (.int .i64 0)) w_58)) (
 kIf (.bool false) (
 R (.returned (.int .i64 2)) w_55) (
 R (.returned (.int .i64 0)) w_55))) (
 kIf (.bool false) (
 R (.returned (.int .i64 2)) w_52) (
 R (.returned (.int .i64 0)) w_52)))) (
 kEq (cR Try.prog R) w_40 .eql 3 (.tmp 39) (.const (.int .i64 1)) v5 (.int .i64 1) fun v40_5 w_59 =>
 kIf v40_5 (
 kFa (cR Try.prog R) w_59 49 v1_1 1 fun v42_5 w_60 =>
 kLoad (cR Try.prog R) w_60 2 v42_5 fun v43_5 w_61 =>
 kEq (cR Try.prog R) w_61 .neq 2 (.tmp 43) (.const (.int .i64 0)) v43_5 (.int .i64 0) fun v44_5 w_62 =>
 kIf v44_5 (
 kFa (cR Try.prog R) w_62 49 v1_1 1 fun v47_5 w_63 =>
 kLoad (cR Try.prog R) w_63 2 v47_5 fun v48_5 w_64 =>
 kEq (cR Try.prog R) w_64 .neq 2 (.tmp 48) (.const (.int .i64 1)) v48_5 (.int .i64 1) fun v49_5 w_65 =>
 kIf v49_5 (
 R (.returned (.int .i64 2)) w_65) (
 R (.returned (.int .i64 0)) w_65)) (
 kIf (.bool false) (
 R (.returned (.int .i64 2)) w_62) (
 R (.returned (.int .i64 0)) w_62))) (
 kIf (.bool false) (
 R (.returned (.int .i64 2)) w_59) (
 R (.returned (.int .i64 0)) w_59)))))))
theorem c64 (v0 : Int) (v1 : Int) (v2 : ByteArray) (R : Ending → World → Prop) (w : World) (h : vc64 v0 v1 v2 R w) : Calls Try.prog 64 #[(.agg #[(.int .i64 v0), (.int .i64 v1), (.string v2)])] w R :=
  calls_of_vc (A := { loops := [], pars := [] }) (Eq.mpr (show FnVc Try.prog { loops := [], pars := [] } 52 64 [(.agg #[(.int .i64 v0), (.int .i64 v1), (.string v2)])] R w = vc64 v0 v1 v2 R w by kernel_rfl) h)

/-- loupe/louperef01.And -/
def vc65 (a : Int) (b : Int) (R : Ending → World → Prop) (w : World) : Prop :=
 kJn (fun J =>
 kEq (cR Try.prog R) w .eql 3 (.tmp 5) (.const (.int .i64 0)) (.int .i64 a) (.int .i64 0) fun v6 w_4 =>
 kIf v6 (
 kIf (.bool true) (
 R (.returned (.int .i64 0)) w_4) (
 kD [] [] (J [] w_4))) (
 kEq (cR Try.prog R) w_4 .eql 3 (.tmp 8) (.const (.int .i64 0)) (.int .i64 b) (.int .i64 0) fun v9 w_5 =>
 kIf v9 (
 R (.returned (.int .i64 0)) w_5) (
 kD [] [] (J [] w_5)))) (fun cs w_1 => ∀ ds : List Value,
 kEq (cR Try.prog R) w_1 .eql 3 (.tmp 11) (.const (.int .i64 1)) (.int .i64 a) (.int .i64 1) fun v12 w_2 =>
 kIf v12 (
 kEq (cR Try.prog R) w_2 .eql 3 (.tmp 14) (.const (.int .i64 1)) (.int .i64 b) (.int .i64 1) fun v15 w_3 =>
 kIf v15 (
 R (.returned (.int .i64 1)) w_3) (
 R (.returned (.int .i64 2)) w_3)) (
 kIf (.bool false) (
 R (.returned (.int .i64 1)) w_2) (
 R (.returned (.int .i64 2)) w_2)))
theorem c65 (a : Int) (b : Int) (R : Ending → World → Prop) (w : World) (h : vc65 a b R w) : Calls Try.prog 65 #[(.int .i64 a), (.int .i64 b)] w R :=
  calls_of_vc (A := { loops := [(1000003, [])], pars := [] }) (Eq.mpr (show FnVc Try.prog { loops := [(1000003, [])], pars := [] } 17 65 [(.int .i64 a), (.int .i64 b)] R w = vc65 a b R w by kernel_rfl) h)

/-- loupe/louperef01.Known -/
def vc66 (v0 : Int) (v1 : Int) (v2 : ByteArray) (R : Ending → World → Prop) (w : World) : Prop :=
 kBox (cR Try.prog R) w 49 (.agg #[(.int .i64 v0), (.int .i64 v1), (.string v2)]) fun v1_1 w_1 =>
 kLoad (cR Try.prog R) w_1 49 v1_1 fun v3 w_2 =>
 kCall (cR Try.prog R) w_2 64 #[v3] fun v4 w_3 =>
 kEq (cR Try.prog R) w_3 .neq 3 (.tmp 4) (.const (.int .i64 0)) v4 (.int .i64 0) fun v5 w_4 =>
 kIf v5 (
 R (.returned (.int .i64 (-1))) w_4) (
 kFa (cR Try.prog R) w_4 49 v1_1 0 fun v6 w_5 =>
 kLoad (cR Try.prog R) w_5 47 v6 fun v7 w_6 =>
 kEq (cR Try.prog R) w_6 .eql 3 (.tmp 7) (.const (.int .i64 0)) v7 (.int .i64 0) fun v9 w_7 =>
 kIf v9 (
 R (.returned (.int .i64 2)) w_7) (
 kEq (cR Try.prog R) w_7 .eql 3 (.tmp 7) (.const (.int .i64 1)) v7 (.int .i64 1) fun v11 w_8 =>
 kIf v11 (
 kFa (cR Try.prog R) w_8 49 v1_1 1 fun v12 w_9 =>
 kLoad (cR Try.prog R) w_9 2 v12 fun v13 w_10 =>
 R (.returned v13) w_10) (
 R (.returned (.int .i64 (-1))) w_8)))
theorem c66 (v0 : Int) (v1 : Int) (v2 : ByteArray) (R : Ending → World → Prop) (w : World) (h : vc66 v0 v1 v2 R w) : Calls Try.prog 66 #[(.agg #[(.int .i64 v0), (.int .i64 v1), (.string v2)])] w R :=
  calls_of_vc (A := { loops := [], pars := [] }) (Eq.mpr (show FnVc Try.prog { loops := [], pars := [] } 14 66 [(.agg #[(.int .i64 v0), (.int .i64 v1), (.string v2)])] R w = vc66 v0 v1 v2 R w by kernel_rfl) h)

/-- loupe/louperef01.Or -/
def vc67 (a : Int) (b : Int) (R : Ending → World → Prop) (w : World) : Prop :=
 kCall (cR Try.prog R) w 69 #[(.int .i64 a)] fun v6 w_1 =>
 kCall (cR Try.prog R) w_1 69 #[(.int .i64 b)] fun v8 w_2 =>
 kCall (cR Try.prog R) w_2 65 #[v6, v8] fun v9 w_3 =>
 kCall (cR Try.prog R) w_3 69 #[v9] fun v10 w_4 =>
 R (.returned v10) w_4
theorem c67 (a : Int) (b : Int) (R : Ending → World → Prop) (w : World) (h : vc67 a b R w) : Calls Try.prog 67 #[(.int .i64 a), (.int .i64 b)] w R :=
  calls_of_vc (A := { loops := [], pars := [] }) (Eq.mpr (show FnVc Try.prog { loops := [], pars := [] } 11 67 [(.int .i64 a), (.int .i64 b)] R w = vc67 a b R w by kernel_rfl) h)

/-- loupe/louperef02.Bool -/
def vc68 (is : Bool) (R : Ending → World → Prop) (w : World) : Prop :=
 kAlloc (cR Try.prog R) w 49 fun v2 w_1 =>
 kIf (.bool is) (
 kCall (cR Try.prog R) w_1 51 #[(.int .i64 1)] fun v4 w_2 =>
 kStore (cR Try.prog R) w_2 49 v2 v4 fun w_3 =>
 RetK Try.prog [.cell v2 49] R w_3) (
 kCall (cR Try.prog R) w_1 51 #[(.int .i64 0)] fun v5 w_4 =>
 kStore (cR Try.prog R) w_4 49 v2 v5 fun w_5 =>
 RetK Try.prog [.cell v2 49] R w_5)
theorem c68 (is : Bool) (R : Ending → World → Prop) (w : World) (h : vc68 is R w) : Calls Try.prog 68 #[(.bool is)] w R :=
  calls_of_vc (A := { loops := [], pars := [] }) (Eq.mpr (show FnVc Try.prog { loops := [], pars := [] } 6 68 [(.bool is)] R w = vc68 is R w by kernel_rfl) h)

/-- loupe/louperef01.Not -/
def vc69 (a : Int) (R : Ending → World → Prop) (w : World) : Prop :=
 kEq (cR Try.prog R) w .eql 3 (.tmp 3) (.const (.int .i64 0)) (.int .i64 a) (.int .i64 0) fun v4 w_1 =>
 kIf v4 (
 kIf (.bool true) (
 kBin (cR Try.prog R) w_1 .sub 3 (.int .i64 1) (.int .i64 a) fun v10 w_2 =>
 R (.returned v10) w_2) (
 R (.returned (.int .i64 2)) w_1)) (
 kEq (cR Try.prog R) w_1 .eql 3 (.tmp 6) (.const (.int .i64 1)) (.int .i64 a) (.int .i64 1) fun v7 w_3 =>
 kIf v7 (
 kBin (cR Try.prog R) w_3 .sub 3 (.int .i64 1) (.int .i64 a) fun v10_1 w_4 =>
 R (.returned v10_1) w_4) (
 R (.returned (.int .i64 2)) w_3))
theorem c69 (a : Int) (R : Ending → World → Prop) (w : World) (h : vc69 a R w) : Calls Try.prog 69 #[(.int .i64 a)] w R :=
  calls_of_vc (A := { loops := [], pars := [] }) (Eq.mpr (show FnVc Try.prog { loops := [], pars := [] } 11 69 [(.int .i64 a)] R w = vc69 a R w by kernel_rfl) h)

/-- loupe/louperef02.truth -/
def vc70 (o : Int) (n : Int) (R : Ending → World → Prop) (w : World) : Prop :=
 kEq (cR Try.prog R) w .eql 3 (.tmp 5) (.const (.int .i64 7)) (.int .i64 o) (.int .i64 7) fun v7 w_1 =>
 kIf v7 (
 kEq (cR Try.prog R) w_1 .eql 3 (.tmp 8) (.const (.int .i64 0)) (.int .i64 n) (.int .i64 0) fun v9 w_2 =>
 R (.returned v9) w_2) (
 kEq (cR Try.prog R) w_1 .eql 3 (.tmp 5) (.const (.int .i64 8)) (.int .i64 o) (.int .i64 8) fun v11 w_3 =>
 kIf v11 (
 kEq (cR Try.prog R) w_3 .neq 3 (.tmp 12) (.const (.int .i64 0)) (.int .i64 n) (.int .i64 0) fun v13 w_4 =>
 R (.returned v13) w_4) (
 kEq (cR Try.prog R) w_3 .eql 3 (.tmp 5) (.const (.int .i64 9)) (.int .i64 o) (.int .i64 9) fun v15 w_5 =>
 kIf v15 (
 kBin (cR Try.prog R) w_5 .lss 3 (.int .i64 n) (.int .i64 0) fun v17 w_6 =>
 R (.returned v17) w_6) (
 kEq (cR Try.prog R) w_5 .eql 3 (.tmp 5) (.const (.int .i64 10)) (.int .i64 o) (.int .i64 10) fun v19 w_7 =>
 kIf v19 (
 kBin (cR Try.prog R) w_7 .leq 3 (.int .i64 n) (.int .i64 0) fun v21 w_8 =>
 R (.returned v21) w_8) (
 kEq (cR Try.prog R) w_7 .eql 3 (.tmp 5) (.const (.int .i64 11)) (.int .i64 o) (.int .i64 11) fun v23 w_9 =>
 kIf v23 (
 kBin (cR Try.prog R) w_9 .gtr 3 (.int .i64 n) (.int .i64 0) fun v25 w_10 =>
 R (.returned v25) w_10) (
 kBin (cR Try.prog R) w_9 .geq 3 (.int .i64 n) (.int .i64 0) fun v27 w_11 =>
 R (.returned v27) w_11)))))
theorem c70 (o : Int) (n : Int) (R : Ending → World → Prop) (w : World) (h : vc70 o n R w) : Calls Try.prog 70 #[(.int .i64 o), (.int .i64 n)] w R :=
  calls_of_vc (A := { loops := [], pars := [] }) (Eq.mpr (show FnVc Try.prog { loops := [], pars := [] } 28 70 [(.int .i64 o), (.int .i64 n)] R w = vc70 o n R w by kernel_rfl) h)

/-- loupe/louperef01.Order -/
def vc71 (a0 : Int) (a1 : Int) (a2 : ByteArray) (b0 : Int) (b1 : Int) (b2 : ByteArray) (R : Ending → World → Prop) (w : World) : Prop :=
 kBox (cR Try.prog R) w 49 (.agg #[(.int .i64 a0), (.int .i64 a1), (.string a2)]) fun v2 w_1 =>
 kBox (cR Try.prog R) w_1 49 (.agg #[(.int .i64 b0), (.int .i64 b1), (.string b2)]) fun v3 w_2 =>
 kFa (cR Try.prog R) w_2 49 v2 0 fun v7 w_3 =>
 kLoad (cR Try.prog R) w_3 47 v7 fun v8 w_4 =>
 kFa (cR Try.prog R) w_4 49 v3 0 fun v9 w_5 =>
 kLoad (cR Try.prog R) w_5 47 v9 fun v10 w_6 =>
 kCall (cR Try.prog R) w_6 108 #[v8, v10] fun v11 w_7 =>
 kEq (cR Try.prog R) w_7 .neq 3 (.tmp 12) (.const (.int .i64 0)) v11 (.int .i64 0) fun v13 w_8 =>
 kIf v13 (
 R (.returned v11) w_8) (
 kFa (cR Try.prog R) w_8 49 v2 1 fun v15 w_9 =>
 kLoad (cR Try.prog R) w_9 2 v15 fun v16 w_10 =>
 kFa (cR Try.prog R) w_10 49 v3 1 fun v17 w_11 =>
 kLoad (cR Try.prog R) w_11 2 v17 fun v18 w_12 =>
 kCall (cR Try.prog R) w_12 108 #[v16, v18] fun v19 w_13 =>
 kEq (cR Try.prog R) w_13 .neq 3 (.tmp 20) (.const (.int .i64 0)) v19 (.int .i64 0) fun v21 w_14 =>
 kIf v21 (
 R (.returned v19) w_14) (
 kFa (cR Try.prog R) w_14 49 v2 2 fun v23 w_15 =>
 kLoad (cR Try.prog R) w_15 9 v23 fun v24 w_16 =>
 kFa (cR Try.prog R) w_16 49 v3 2 fun v25 w_17 =>
 kLoad (cR Try.prog R) w_17 9 v25 fun v26 w_18 =>
 kBin (cR Try.prog R) w_18 .lss 9 v24 v26 fun v27 w_19 =>
 kIf v27 (
 R (.returned (.int .i64 (-1))) w_19) (
 kFa (cR Try.prog R) w_19 49 v2 2 fun v28 w_20 =>
 kLoad (cR Try.prog R) w_20 9 v28 fun v29 w_21 =>
 kFa (cR Try.prog R) w_21 49 v3 2 fun v30 w_22 =>
 kLoad (cR Try.prog R) w_22 9 v30 fun v31 w_23 =>
 kBin (cR Try.prog R) w_23 .gtr 9 v29 v31 fun v32 w_24 =>
 kIf v32 (
 R (.returned (.int .i64 1)) w_24) (
 R (.returned (.int .i64 0)) w_24))))
theorem c71 (a0 : Int) (a1 : Int) (a2 : ByteArray) (b0 : Int) (b1 : Int) (b2 : ByteArray) (R : Ending → World → Prop) (w : World) (h : vc71 a0 a1 a2 b0 b1 b2 R w) : Calls Try.prog 71 #[(.agg #[(.int .i64 a0), (.int .i64 a1), (.string a2)]), (.agg #[(.int .i64 b0), (.int .i64 b1), (.string b2)])] w R :=
  calls_of_vc (A := { loops := [], pars := [] }) (Eq.mpr (show FnVc Try.prog { loops := [], pars := [] } 33 71 [(.agg #[(.int .i64 a0), (.int .i64 a1), (.string a2)]), (.agg #[(.int .i64 b0), (.int .i64 b1), (.string b2)])] R w = vc71 a0 a1 a2 b0 b1 b2 R w by kernel_rfl) h)

/-- loupe/louperef02.whole -/
def vc72 (o : Int) (a : Int) (b : Int) (R : Ending → World → Prop) (w : World) : Prop :=
 kJn (fun J =>
 kEq (cR Try.prog R) w .eql 3 (.tmp 8) (.const (.int .i64 1)) (.int .i64 o) (.int .i64 1) fun v10 w_3 =>
 kIf v10 (
 kCall (cR Try.prog R) w_3 109 #[(.int .i64 a), (.int .i64 b)] fun v13 w_4 =>
 kExt v13 0 fun v14 =>
 kExt v13 1 fun v15 =>
 R (.returned (.tuple #[v14, v15])) w_4) (
 kEq (cR Try.prog R) w_3 .eql 3 (.tmp 8) (.const (.int .i64 2)) (.int .i64 o) (.int .i64 2) fun v17 w_5 =>
 kIf v17 (
 kCall (cR Try.prog R) w_5 110 #[(.int .i64 a), (.int .i64 b)] fun v20 w_6 =>
 kExt v20 0 fun v21 =>
 kExt v20 1 fun v22 =>
 R (.returned (.tuple #[v21, v22])) w_6) (
 kEq (cR Try.prog R) w_5 .eql 3 (.tmp 8) (.const (.int .i64 3)) (.int .i64 o) (.int .i64 3) fun v24 w_7 =>
 kIf v24 (
 kCall (cR Try.prog R) w_7 111 #[(.int .i64 a), (.int .i64 b)] fun v27 w_8 =>
 kExt v27 0 fun v28 =>
 kExt v27 1 fun v29 =>
 R (.returned (.tuple #[v28, v29])) w_8) (
 kJn (fun J_1 =>
 kEq (cR Try.prog R) w_7 .eql 3 (.tmp 8) (.const (.int .i64 4)) (.int .i64 o) (.int .i64 4) fun v31 w_21 =>
 kIf v31 (
 kD [] [] (J_1 [v31] w_21)) (
 kEq (cR Try.prog R) w_21 .eql 3 (.tmp 8) (.const (.int .i64 5)) (.int .i64 o) (.int .i64 5) fun v32 w_22 =>
 kD [] [] (J_1 [v32] w_22))) (fun cs_1 w_9 => ∀ ds_1 : List Value,
 (fun j30 =>
 kIf j30 (
 kEq (cR Try.prog R) w_9 .eql 2 (.tmp 33) (.const (.int .i64 0)) (.int .i64 b) (.int .i64 0) fun v34 w_10 =>
 kIf v34 (
 R (.returned (.tuple #[(.int .i64 0), (.int .i64 121)])) w_10) (
 kJn (fun J_2 =>
 kEq (cR Try.prog R) w_10 .eql 2 (.tmp 35) (.const (.int .i64 (-1))) (.int .i64 b) (.int .i64 (-1)) fun v36 w_17 =>
 kIf v36 (
 kEq (cR Try.prog R) w_17 .eql 3 (.tmp 38) (.const (.int .i64 5)) (.int .i64 o) (.int .i64 5) fun v39 w_18 =>
 kIf v39 (
 R (.returned (.tuple #[(.int .i64 0), (.int .i64 0)])) w_18) (
 kD [] [] (J_2 [] w_18))) (
 kIf (.bool false) (
 R (.returned (.tuple #[(.int .i64 0), (.int .i64 0)])) w_17) (
 kD [] [] (J_2 [] w_17)))) (fun cs_2 w_11 => ∀ ds_2 : List Value,
 kEq (cR Try.prog R) w_11 .eql 2 (.tmp 41) (.const (.int .i64 (-1))) (.int .i64 b) (.int .i64 (-1)) fun v42 w_12 =>
 kIf v42 (
 kCall (cR Try.prog R) w_12 110 #[(.int .i64 0), (.int .i64 a)] fun v44 w_13 =>
 kExt v44 0 fun v45 =>
 kExt v44 1 fun v46 =>
 R (.returned (.tuple #[v45, v46])) w_13) (
 kEq (cR Try.prog R) w_12 .eql 3 (.tmp 47) (.const (.int .i64 4)) (.int .i64 o) (.int .i64 4) fun v48 w_14 =>
 kIf v48 (
 kBin (cR Try.prog R) w_14 .quo 2 (.int .i64 a) (.int .i64 b) fun v51 w_15 =>
 R (.returned (.tuple #[v51, (.int .i64 0)])) w_15) (
 kBin (cR Try.prog R) w_14 .rem 2 (.int .i64 a) (.int .i64 b) fun v54 w_16 =>
 R (.returned (.tuple #[v54, (.int .i64 0)])) w_16))))) (
 kEq (cR Try.prog R) w_9 .eql 3 (.tmp 8) (.const (.int .i64 20)) (.int .i64 o) (.int .i64 20) fun v56 w_19 =>
 kIf v56 (
 kBin (cR Try.prog R) w_19 .geq 2 (.int .i64 a) (.int .i64 0) fun v58 w_20 =>
 kIf v58 (
 R (.returned (.tuple #[(.int .i64 a), (.int .i64 0)])) w_20) (
 kD [] [] (J [] w_20))) (
 kD [] [] (J [] w_19)))) (cs_1.getD 0 undef)))))) (fun cs w_1 => ∀ ds : List Value,
 kCall (cR Try.prog R) w_1 110 #[(.int .i64 0), (.int .i64 a)] fun v61 w_2 =>
 kExt v61 0 fun v62 =>
 kExt v61 1 fun v63 =>
 R (.returned (.tuple #[v62, v63])) w_2)
theorem c72 (o : Int) (a : Int) (b : Int) (R : Ending → World → Prop) (w : World) (h : vc72 o a b R w) : Calls Try.prog 72 #[(.int .i64 o), (.int .i64 a), (.int .i64 b)] w R :=
  calls_of_vc (A := { loops := [(1000022, []), (1000014, []), (1000010, [30])], pars := [] }) (Eq.mpr (show FnVc Try.prog { loops := [(1000022, []), (1000014, []), (1000010, [30])], pars := [] } 64 72 [(.int .i64 o), (.int .i64 a), (.int .i64 b)] R w = vc72 o a b R w by kernel_rfl) h)

/-- loupe/sum.Makes$1 -/
def vc73 (f0 : Value) (R : Ending → World → Prop) (w : World) : Prop :=
 kStore (cR Try.prog R) w 27 f0 (.int .i64 0) fun w_1 =>
 R (.returned (.tuple #[])) w_1
theorem c73 (f0 : Value) (R : Ending → World → Prop) (w : World) (h : vc73 f0 R w) : Calls Try.prog 73 #[f0] w R :=
  calls_of_vc (A := { loops := [], pars := [] }) (Eq.mpr (show FnVc Try.prog { loops := [], pars := [] } 1 73 [f0] R w = vc73 f0 R w by kernel_rfl) h)

/-- loupe/sum.rows -/
def vc74  (R : Ending → World → Prop) (w : World) : Prop :=
 kAlloc (cR Try.prog R) w 116 fun v0 w_1 =>
 kBuild (cR Try.prog R) w_1 62 #[(0, (.string ⟨#[43]⟩)), (1, (.int .i64 2)), (2, (.int .i64 2)), (3, (.int .i64 2))] fun v5 w_2 =>
 kBuild (cR Try.prog R) w_2 62 #[(0, (.string ⟨#[45]⟩)), (1, (.int .i64 2)), (2, (.int .i64 2)), (3, (.int .i64 2))] fun v8 w_3 =>
 kBuild (cR Try.prog R) w_3 62 #[(0, (.string ⟨#[42]⟩)), (1, (.int .i64 2)), (2, (.int .i64 2)), (3, (.int .i64 2))] fun v11 w_4 =>
 kBuild (cR Try.prog R) w_4 62 #[(0, (.string ⟨#[47]⟩)), (1, (.int .i64 2)), (2, (.int .i64 2)), (3, (.int .i64 2))] fun v14 w_5 =>
 kBuild (cR Try.prog R) w_5 62 #[(0, (.string ⟨#[37]⟩)), (1, (.int .i64 2)), (2, (.int .i64 2)), (3, (.int .i64 2))] fun v17 w_6 =>
 kBuild (cR Try.prog R) w_6 62 #[(0, (.string ⟨#[124, 124]⟩)), (1, (.int .i64 2))] fun v18 w_7 =>
 kBuild (cR Try.prog R) w_7 62 #[(0, (.string ⟨#[61]⟩)), (1, (.int .i64 2)), (3, (.int .i64 1))] fun v20 w_8 =>
 kBuild (cR Try.prog R) w_8 62 #[(0, (.string ⟨#[60, 62]⟩)), (1, (.int .i64 2)), (3, (.int .i64 1))] fun v22 w_9 =>
 kBuild (cR Try.prog R) w_9 62 #[(0, (.string ⟨#[60]⟩)), (1, (.int .i64 2)), (3, (.int .i64 1))] fun v24 w_10 =>
 kBuild (cR Try.prog R) w_10 62 #[(0, (.string ⟨#[60, 61]⟩)), (1, (.int .i64 2)), (3, (.int .i64 1))] fun v26 w_11 =>
 kBuild (cR Try.prog R) w_11 62 #[(0, (.string ⟨#[62]⟩)), (1, (.int .i64 2)), (3, (.int .i64 1))] fun v28 w_12 =>
 kBuild (cR Try.prog R) w_12 62 #[(0, (.string ⟨#[62, 61]⟩)), (1, (.int .i64 2)), (3, (.int .i64 1))] fun v30 w_13 =>
 kBuild (cR Try.prog R) w_13 62 #[(0, (.string ⟨#[97, 110, 100]⟩)), (1, (.int .i64 2)), (2, (.int .i64 1)), (3, (.int .i64 1))] fun v33 w_14 =>
 kBuild (cR Try.prog R) w_14 62 #[(0, (.string ⟨#[111, 114]⟩)), (1, (.int .i64 2)), (2, (.int .i64 1)), (3, (.int .i64 1))] fun v36 w_15 =>
 kBuild (cR Try.prog R) w_15 62 #[(0, (.string ⟨#[45]⟩)), (1, (.int .i64 1)), (2, (.int .i64 2)), (3, (.int .i64 2))] fun v39 w_16 =>
 kBuild (cR Try.prog R) w_16 62 #[(0, (.string ⟨#[110, 111, 116]⟩)), (1, (.int .i64 1)), (2, (.int .i64 1)), (3, (.int .i64 1))] fun v42 w_17 =>
 kBuild (cR Try.prog R) w_17 62 #[(0, (.string ⟨#[105, 115, 32, 110, 117, 108, 108]⟩)), (1, (.int .i64 1)), (3, (.int .i64 1))] fun v44 w_18 =>
 kBuild (cR Try.prog R) w_18 62 #[(0, (.string ⟨#[105, 115, 32, 110, 111, 116, 32, 110, 117, 108, 108]⟩)), (1, (.int .i64 1)), (3, (.int .i64 1))] fun v46 w_19 =>
 kBuild (cR Try.prog R) w_19 62 #[(0, (.string ⟨#[108, 101, 110, 103, 116, 104]⟩)), (1, (.int .i64 1)), (3, (.int .i64 2))] fun v48 w_20 =>
 kBuild (cR Try.prog R) w_20 62 #[(0, (.string ⟨#[97, 98, 115]⟩)), (1, (.int .i64 1)), (2, (.int .i64 2)), (3, (.int .i64 2))] fun v51 w_21 =>
 kBuild (cR Try.prog R) w_21 116 #[(1, v5), (2, v8), (3, v11), (4, v14), (5, v17), (6, v18), (7, v20), (8, v22), (9, v24), (10, v26), (11, v28), (12, v30), (13, v33), (14, v36), (15, v39), (16, v42), (17, v44), (18, v46), (19, v48), (20, v51)] fun v52 w_22 =>
 kStore (cR Try.prog R) w_22 116 v0 v52 fun w_23 =>
 RetK Try.prog [.cell v0 116] R w_23
theorem c74  (R : Ending → World → Prop) (w : World) (h : vc74  R w) : Calls Try.prog 74 #[] w R :=
  calls_of_vc (A := { loops := [], pars := [] }) (Eq.mpr (show FnVc Try.prog { loops := [], pars := [] } 53 74 [] R w = vc74  R w by kernel_rfl) h)

/-- loupe/sum.Ops$1 -/
def vc75 (yield : Value) (R : Ending → World → Prop) (w : World) : Prop :=
 kCall (cR Try.prog R) w 74 #[] fun v4 w_1 =>
 kLoopF [(.int .i64 0)] w_1 fun cs ds w_2 N =>
 (fun x5 =>
 kBin (cR Try.prog R) w_2 .lss 3 x5 (.int .i64 21) fun v6 w_3 =>
 kIf v6 (
 kIx (cR Try.prog R) w_3 116 v4 x5 fun v8 w_4 =>
 kAlloc (cR Try.prog R) w_4 62 fun v3 w_5 =>
 kStore (cR Try.prog R) w_5 62 v3 v8 fun w_6 =>
 kBin (cR Try.prog R) w_6 .gtr 3 x5 (.int .i64 0) fun v10 w_7 =>
 kIf v10 (
 kLoad (cR Try.prog R) w_7 62 v3 fun v14 w_8 =>
 kCallV (cR Try.prog R) w_8 yield #[x5, v14] fun v15 w_9 =>
 kUn (cR Try.prog R) w_9 .not v15 fun v16 w_10 =>
 kIf v16 (
 R (.returned (.tuple #[])) w_10) (
 kBin (cR Try.prog R) w_10 .add 3 x5 (.int .i64 1) fun v18 w_11 =>
 kD [] [] (N [v18] w_11))) (
 kIf (.bool false) (
 R (.returned (.tuple #[])) w_7) (
 kBin (cR Try.prog R) w_7 .add 3 x5 (.int .i64 1) fun v18_1 w_12 =>
 kD [] [] (N [v18_1] w_12)))) (
 R (.returned (.tuple #[])) w_3)) (cs.getD 0 undef)
theorem c75 (yield : Value) (R : Ending → World → Prop) (w : World) (h : vc75 yield R w) : Calls Try.prog 75 #[yield] w R :=
  calls_of_vc (A := { loops := [(0, [5])], pars := [] }) (Eq.mpr (show FnVc Try.prog { loops := [(0, [5])], pars := [] } 19 75 [yield] R w = vc75 yield R w by kernel_rfl) h)

/-- loupe/louperef10.Order -/
def vc76 (a : Option Addr) (an : Nat) (ac : Nat) (b : Option Addr) (bn : Nat) (bc : Nat) (R : Ending → World → Prop) (w : World) : Prop :=
 kLoopF [(.int .i64 0)] w fun cs ds w_1 N =>
 (fun x5 =>
 kJn (fun J =>
 kBlt (cR Try.prog R) w_1 .len #[22] 3 #[false] #[(.slice a an ac)] fun v9 w_20 =>
 kBin (cR Try.prog R) w_20 .lss 3 x5 v9 fun v10 w_21 =>
 kIf v10 (
 kBlt (cR Try.prog R) w_21 .len #[22] 3 #[false] #[(.slice b bn bc)] fun v14 w_22 =>
 kBin (cR Try.prog R) w_22 .lss 3 x5 v14 fun v15 w_23 =>
 kIf v15 (
 kD [] [] (J [] w_23)) (
 kBlt (cR Try.prog R) w_23 .len #[22] 3 #[false] #[(.slice a an ac)] fun v32 w_24 =>
 kBlt (cR Try.prog R) w_24 .len #[22] 3 #[false] #[(.slice b bn bc)] fun v34 w_25 =>
 kBin (cR Try.prog R) w_25 .lss 3 v32 v34 fun v35 w_26 =>
 kIf v35 (
 R (.returned (.int .i64 (-1))) w_26) (
 kBlt (cR Try.prog R) w_26 .len #[22] 3 #[false] #[(.slice a an ac)] fun v37 w_27 =>
 kBlt (cR Try.prog R) w_27 .len #[22] 3 #[false] #[(.slice b bn bc)] fun v39 w_28 =>
 kBin (cR Try.prog R) w_28 .gtr 3 v37 v39 fun v40 w_29 =>
 kIf v40 (
 R (.returned (.int .i64 1)) w_29) (
 R (.returned (.int .i64 0)) w_29)))) (
 kIf (.bool false) (
 kD [] [] (J [] w_21)) (
 kBlt (cR Try.prog R) w_21 .len #[22] 3 #[false] #[(.slice a an ac)] fun v32_1 w_30 =>
 kBlt (cR Try.prog R) w_30 .len #[22] 3 #[false] #[(.slice b bn bc)] fun v34_1 w_31 =>
 kBin (cR Try.prog R) w_31 .lss 3 v32_1 v34_1 fun v35_1 w_32 =>
 kIf v35_1 (
 R (.returned (.int .i64 (-1))) w_32) (
 kBlt (cR Try.prog R) w_32 .len #[22] 3 #[false] #[(.slice a an ac)] fun v37_1 w_33 =>
 kBlt (cR Try.prog R) w_33 .len #[22] 3 #[false] #[(.slice b bn bc)] fun v39_1 w_34 =>
 kBin (cR Try.prog R) w_34 .gtr 3 v37_1 v39_1 fun v40_1 w_35 =>
 kIf v40_1 (
 R (.returned (.int .i64 1)) w_35) (
 R (.returned (.int .i64 0)) w_35))))) (fun cs_1 w_2 => ∀ ds_1 : List Value,
 kDrawn true (
 kPar w_2 9 [[], [], [0, 1], [2], [], [], [4, 5], [6], [3, 7], [8, 0, 1, 2, 3, 4, 5, 6, 7]] (fun Inv Cl =>
 (∀ (S : Nat → Bool) (vs : Nat → Value) (w_3 : World), Inv S vs w_3 → Cl S → S 0 = false → (∀ j, j ∈ ([] : List Nat) → S j = true) →
 Inv (inc S 0) (setV vs 0 (.slice a an ac)) w_3) ∧
 (∀ (S_1 : Nat → Bool) (vs_1 : Nat → Value) (w_4 : World), Inv S_1 vs_1 w_4 → Cl S_1 → S_1 1 = false → (∀ j, j ∈ ([] : List Nat) → S_1 j = true) →
 Inv (inc S_1 1) (setV vs_1 1 x5) w_4) ∧
 (∀ (S_2 : Nat → Bool) (vs_2 : Nat → Value) (w_5 : World), Inv S_2 vs_2 w_5 → Cl S_2 → S_2 2 = false → (∀ j, j ∈ ([0, 1] : List Nat) → S_2 j = true) →
 kIa (cN Try.prog) w_5 22 (vs_2 0) (vs_2 1) fun v21 w_6 =>
 Inv (inc S_2 2) (setV vs_2 2 v21) w_6) ∧
 (∀ (S_3 : Nat → Bool) (vs_3 : Nat → Value) (w_7 : World), Inv S_3 vs_3 w_7 → Cl S_3 → S_3 3 = false → (∀ j, j ∈ ([2] : List Nat) → S_3 j = true) →
 kLoad (cN Try.prog) w_7 49 (vs_3 2) fun v22 w_8 =>
 Inv (inc S_3 3) (setV vs_3 3 v22) w_8) ∧
 (∀ (S_4 : Nat → Bool) (vs_4 : Nat → Value) (w_9 : World), Inv S_4 vs_4 w_9 → Cl S_4 → S_4 4 = false → (∀ j, j ∈ ([] : List Nat) → S_4 j = true) →
 Inv (inc S_4 4) (setV vs_4 4 (.slice b bn bc)) w_9) ∧
 (∀ (S_5 : Nat → Bool) (vs_5 : Nat → Value) (w_10 : World), Inv S_5 vs_5 w_10 → Cl S_5 → S_5 5 = false → (∀ j, j ∈ ([] : List Nat) → S_5 j = true) →
 Inv (inc S_5 5) (setV vs_5 5 x5) w_10) ∧
 (∀ (S_6 : Nat → Bool) (vs_6 : Nat → Value) (w_11 : World), Inv S_6 vs_6 w_11 → Cl S_6 → S_6 6 = false → (∀ j, j ∈ ([4, 5] : List Nat) → S_6 j = true) →
 kIa (cN Try.prog) w_11 22 (vs_6 4) (vs_6 5) fun v25 w_12 =>
 Inv (inc S_6 6) (setV vs_6 6 v25) w_12) ∧
 (∀ (S_7 : Nat → Bool) (vs_7 : Nat → Value) (w_13 : World), Inv S_7 vs_7 w_13 → Cl S_7 → S_7 7 = false → (∀ j, j ∈ ([6] : List Nat) → S_7 j = true) →
 kLoad (cN Try.prog) w_13 49 (vs_7 6) fun v26 w_14 =>
 Inv (inc S_7 7) (setV vs_7 7 v26) w_14) ∧
 (∀ (S_8 : Nat → Bool) (vs_8 : Nat → Value) (w_15 : World), Inv S_8 vs_8 w_15 → Cl S_8 → S_8 8 = false → (∀ j, j ∈ ([3, 7] : List Nat) → S_8 j = true) →
 kCall (cN Try.prog) w_15 71 #[(vs_8 3), (vs_8 7)] fun v27 w_16 =>
 Inv (inc S_8 8) (setV vs_8 8 v27) w_16) ∧
 True) (fun vs_9 w_17 =>
 kEq (cR Try.prog R) w_17 .neq 3 (.tmp 28) (.const (.int .i64 0)) (vs_9 8) (.int .i64 0) fun v29 w_18 =>
 kIf v29 (
 R (.returned (vs_9 8)) w_18) (
 kBin (cR Try.prog R) w_18 .add 3 x5 (.int .i64 1) fun v18 w_19 =>
 kD [] [] (N [v18] w_19)))))) (cs.getD 0 undef)
theorem c76 (a : Option Addr) (an : Nat) (ac : Nat) (b : Option Addr) (bn : Nat) (bc : Nat) (R : Ending → World → Prop) (w : World) (h : vc76 a an ac b bn bc R w) : Calls Try.prog 76 #[(.slice a an ac), (.slice b bn bc)] w R :=
  calls_of_vc (A := { loops := [(1000004, []), (0, [5])], pars := [4] }) (Eq.mpr (show FnVc Try.prog { loops := [(1000004, []), (0, [5])], pars := [4] } 41 76 [(.slice a an ac), (.slice b bn bc)] R w = vc76 a an ac b bn bc R w by kernel_rfl) h)

/-- loupe/octet.Number -/
def vc77 (n : Int) (R : Ending → World → Prop) (w : World) : Prop :=
 kLoopF [(.slice none 0 0), (.int .u64 n)] w fun cs ds w_1 N =>
 (fun x2 x0 =>
 kBin (cR Try.prog R) w_1 .geq 84 x0 (.int .u64 128) fun v4 w_2 =>
 kIf v4 (
 kConv (cR Try.prog R) w_2 84 5 x0 fun v9 w_3 =>
 kBin (cR Try.prog R) w_3 .or 5 v9 (.int .u8 128) fun v10 w_4 =>
 kBuildS (cR Try.prog R) w_4 38 1 #[(0, v10)] fun v11 w_5 =>
 kBlt (cR Try.prog R) w_5 .append #[38, 38] 38 #[false, false] #[x2, v11] fun v12 w_6 =>
 kBin (cR Try.prog R) w_6 .shr 84 x0 (.int .u64 7) fun v6 w_7 =>
 kD [] [] (N [v12, v6] w_7)) (
 kConv (cR Try.prog R) w_2 84 5 x0 fun v15 w_8 =>
 kBuildS (cR Try.prog R) w_8 38 1 #[(0, v15)] fun v16 w_9 =>
 kBlt (cR Try.prog R) w_9 .append #[38, 38] 38 #[false, false] #[x2, v16] fun v17 w_10 =>
 R (.returned v17) w_10)) (cs.getD 0 undef) (cs.getD 1 undef)
theorem c77 (n : Int) (R : Ending → World → Prop) (w : World) (h : vc77 n R w) : Calls Try.prog 77 #[(.int .u64 n)] w R :=
  calls_of_vc (A := { loops := [(0, [2, 0])], pars := [] }) (Eq.mpr (show FnVc Try.prog { loops := [(0, [2, 0])], pars := [] } 18 77 [(.int .u64 n)] R w = vc77 n R w by kernel_rfl) h)

/-- slices.Values[[]loupe/api.Value,loupe/api.Value] -/
def vc78 (s : Option Addr) (sn : Nat) (sc : Nat) (R : Ending → World → Prop) (w : World) : Prop :=
 kBox (cR Try.prog R) w 22 (.slice s sn sc) fun v1 w_1 =>
 R (.returned (.func (.func 112) #[] #[v1])) w_1
theorem c78 (s : Option Addr) (sn : Nat) (sc : Nat) (R : Ending → World → Prop) (w : World) (h : vc78 s sn sc R w) : Calls Try.prog 78 #[(.slice s sn sc)] w R :=
  calls_of_vc (A := { loops := [], pars := [] }) (Eq.mpr (show FnVc Try.prog { loops := [], pars := [] } 4 78 [(.slice s sn sc)] R w = vc78 s sn sc R w by kernel_rfl) h)

/-- loupe/row.laid -/
def vc79  (R : Ending → World → Prop) (w : World) : Prop :=
 kMkMap (cR Try.prog R) w 126 none fun v2 w_1 =>
 kUpd (cR Try.prog R) w_1 126 v2 (.int .i64 0) (.func (.func 115) #[] #[]) fun w_2 =>
 kUpd (cR Try.prog R) w_2 126 v2 (.int .i64 1) (.func (.func 116) #[] #[]) fun w_3 =>
 kUpd (cR Try.prog R) w_3 126 v2 (.int .i64 2) (.func (.func 117) #[] #[]) fun w_4 =>
 kUpd (cR Try.prog R) w_4 126 v2 (.int .i64 3) (.func (.func 113) #[] #[]) fun w_5 =>
 kUpd (cR Try.prog R) w_5 126 v2 (.int .i64 4) (.func (.func 113) #[] #[]) fun w_6 =>
 R (.returned v2) w_6
theorem c79  (R : Ending → World → Prop) (w : World) (h : vc79  R w) : Calls Try.prog 79 #[] w R :=
  calls_of_vc (A := { loops := [], pars := [] }) (Eq.mpr (show FnVc Try.prog { loops := [], pars := [] } 6 79 [] R w = vc79  R w by kernel_rfl) h)

/-- loupe/octet.ReadNumber -/
def vc80 (b : Option Addr) (bn : Nat) (bc : Nat) (R : Ending → World → Prop) (w : World) : Prop :=
 kBlt (cR Try.prog R) w .len #[38] 3 #[false] #[(.slice b bn bc)] fun v9 w_1 =>
 kBlt (cR Try.prog R) w_1 .min #[3, 3] 3 #[false, true] #[v9, (.int .i64 10)] fun v10 w_2 =>
 kSl (cR Try.prog R) w_2 38 (.slice b bn bc) none (some v10) none fun v11 w_3 =>
 kBlt (cR Try.prog R) w_3 .len #[38] 3 #[false] #[v11] fun v12 w_4 =>
 kLoopF [(.int .u64 0), (.int .i64 0)] w_4 fun cs ds w_5 N =>
 (fun x2 x13 =>
 kBin (cR Try.prog R) w_5 .lss 3 x13 v12 fun v14 w_6 =>
 kIf v14 (
 kIa (cR Try.prog R) w_6 38 v11 x13 fun v16 w_7 =>
 kLoad (cR Try.prog R) w_7 5 v16 fun v17 w_8 =>
 kJn (fun J =>
 kEq (cR Try.prog R) w_8 .eql 3 (.tmp 18) (.const (.int .i64 9)) x13 (.int .i64 9) fun v19 w_21 =>
 kIf v19 (
 kBin (cR Try.prog R) w_21 .gtr 5 v17 (.int .u8 1) fun v22 w_22 =>
 kIf v22 (
 R (.returned (.tuple #[(.int .u64 0), (.int .i64 0), (.int .i64 130)])) w_22) (
 kD [] [] (J [] w_22))) (
 kIf (.bool false) (
 R (.returned (.tuple #[(.int .u64 0), (.int .i64 0), (.int .i64 130)])) w_21) (
 kD [] [] (J [] w_21)))) (fun cs_1 w_9 => ∀ ds_1 : List Value,
 kBin (cR Try.prog R) w_9 .andNot 5 v17 (.int .u8 128) fun v26 w_10 =>
 kConv (cR Try.prog R) w_10 5 84 v26 fun v27 w_11 =>
 kBin (cR Try.prog R) w_11 .mul 3 (.int .i64 7) x13 fun v29 w_12 =>
 kBin (cR Try.prog R) w_12 .shl 84 v27 v29 fun v30 w_13 =>
 kBin (cR Try.prog R) w_13 .or 84 x2 v30 fun v31 w_14 =>
 kBin (cR Try.prog R) w_14 .geq 5 v17 (.int .u8 128) fun v33 w_15 =>
 kIf v33 (
 kBin (cR Try.prog R) w_15 .add 3 x13 (.int .i64 1) fun v43 w_16 =>
 kD [] [] (N [v31, v43] w_16)) (
 kJn (fun J_1 =>
 kEq (cR Try.prog R) w_15 .eql 5 (.tmp 34) (.const (.int .u8 0)) v17 (.int .u8 0) fun v35 w_19 =>
 kIf v35 (
 kBin (cR Try.prog R) w_19 .gtr 3 x13 (.int .i64 0) fun v38 w_20 =>
 kIf v38 (
 R (.returned (.tuple #[(.int .u64 0), (.int .i64 0), (.int .i64 130)])) w_20) (
 kD [] [] (J_1 [] w_20))) (
 kIf (.bool false) (
 R (.returned (.tuple #[(.int .u64 0), (.int .i64 0), (.int .i64 130)])) w_19) (
 kD [] [] (J_1 [] w_19)))) (fun cs_2 w_17 => ∀ ds_2 : List Value,
 kBin (cR Try.prog R) w_17 .add 3 x13 (.int .i64 1) fun v42 w_18 =>
 R (.returned (.tuple #[v31, v42, (.int .i64 0)])) w_18)))) (
 R (.returned (.tuple #[(.int .u64 0), (.int .i64 0), (.int .i64 130)])) w_6)) (cs.getD 0 undef) (cs.getD 1 undef)
theorem c80 (b : Option Addr) (bn : Nat) (bc : Nat) (R : Ending → World → Prop) (w : World) (h : vc80 b bn bc R w) : Calls Try.prog 80 #[(.slice b bn bc)] w R :=
  calls_of_vcG (A := { loops := [(1000008, []), (1000005, []), (0, [2, 13])], pars := [] }) (Eq.mpr (show FnVcG Try.prog { loops := [(1000008, []), (1000005, []), (0, [2, 13])], pars := [] } 44 80 [(.slice b bn bc)] R w = vc80 b bn bc R w by kernel_rfl) h)

/-- (*loupe/row.left).take -/
def vc81 (l : Value) (n : Int) (R : Ending → World → Prop) (w : World) : Prop :=
 kNil (cR Try.prog R) w l fun v8 w_1 =>
 kFa (cR Try.prog R) w_1 81 v8 0 fun v9 w_2 =>
 kLoad (cR Try.prog R) w_2 38 v9 fun v10 w_3 =>
 kBlt (cR Try.prog R) w_3 .len #[38] 3 #[false] #[v10] fun v11 w_4 =>
 kBin (cR Try.prog R) w_4 .leq 3 (.int .i64 n) v11 fun v12 w_5 =>
 kCall (cR Try.prog R) w_5 44 #[v12, (.int .i64 210)] fun v13 w_6 =>
 kNil (cR Try.prog R) w_6 l fun v15 w_7 =>
 kFa (cR Try.prog R) w_7 81 v15 0 fun v16 w_8 =>
 kLoad (cR Try.prog R) w_8 38 v16 fun v17 w_9 =>
 kSl (cR Try.prog R) w_9 38 v17 none (some (.int .i64 n)) (some (.int .i64 n)) fun v20 w_10 =>
 kNil (cR Try.prog R) w_10 l fun v23 w_11 =>
 kFa (cR Try.prog R) w_11 81 v23 0 fun v24 w_12 =>
 kLoad (cR Try.prog R) w_12 38 v24 fun v25 w_13 =>
 kSl (cR Try.prog R) w_13 38 v25 (some (.int .i64 n)) none none fun v27 w_14 =>
 kNil (cR Try.prog R) w_14 l fun v28 w_15 =>
 kFa (cR Try.prog R) w_15 81 v28 0 fun v29 w_16 =>
 kStore (cR Try.prog R) w_16 38 v29 v27 fun w_17 =>
 R (.returned v20) w_17
theorem c81 (l : Value) (n : Int) (R : Ending → World → Prop) (w : World) (h : vc81 l n R w) : Calls Try.prog 81 #[l, (.int .i64 n)] w R :=
  calls_of_vc (A := { loops := [], pars := [] }) (Eq.mpr (show FnVc Try.prog { loops := [], pars := [] } 31 81 [l, (.int .i64 n)] R w = vc81 l n R w by kernel_rfl) h)

/-- loupe/octet.ReadString -/
def vc82 (b : Option Addr) (bn : Nat) (bc : Nat) (R : Ending → World → Prop) (w : World) : Prop :=
 kCall (cR Try.prog R) w 80 #[(.slice b bn bc)] fun v11 w_1 =>
 kExt v11 0 fun v12 =>
 kExt v11 1 fun v13 =>
 kExt v11 2 fun v14 =>
 kSl (cR Try.prog R) w_1 38 (.slice b bn bc) (some v13) none none fun v17 w_2 =>
 kBuild (cR Try.prog R) w_2 153 #[(0, v17)] fun v18 w_3 =>
 kBuild (cR Try.prog R) w_3 155 #[(0, v18)] fun v19 w_4 =>
 kBox (cR Try.prog R) w_4 155 v19 fun v20 w_5 =>
 kJn (fun J =>
 kEq (cR Try.prog R) w_5 .neq 28 (.tmp 21) (.const (.int .i64 0)) v14 (.int .i64 0) fun v22 w_14 =>
 kIf v22 (
 kIf (.bool true) (
 R (.returned (.tuple #[(.string ⟨#[]⟩), (.int .i64 0), (.int .i64 130)])) w_14) (
 kD [] [] (J [] w_14))) (
 kNil (cR Try.prog R) w_14 v20 fun v25 w_15 =>
 kFa (cR Try.prog R) w_15 155 v25 0 fun v26 w_16 =>
 kCall (cR Try.prog R) w_16 118 #[v26, v12] fun v28 w_17 =>
 kUn (cR Try.prog R) w_17 .not v28 fun v29 w_18 =>
 kIf v29 (
 R (.returned (.tuple #[(.string ⟨#[]⟩), (.int .i64 0), (.int .i64 130)])) w_18) (
 kD [] [] (J [] w_18)))) (fun cs w_6 => ∀ ds : List Value,
 kNil (cR Try.prog R) w_6 v20 fun v32 w_7 =>
 kFa (cR Try.prog R) w_7 155 v32 0 fun v33 w_8 =>
 kConv (cR Try.prog R) w_8 84 3 v12 fun v35 w_9 =>
 kCall (cR Try.prog R) w_9 119 #[v33, v35] fun v36 w_10 =>
 kConv (cR Try.prog R) w_10 38 9 v36 fun v37 w_11 =>
 kConv (cR Try.prog R) w_11 84 3 v12 fun v40 w_12 =>
 kBin (cR Try.prog R) w_12 .add 3 v13 v40 fun v41 w_13 =>
 R (.returned (.tuple #[v37, v41, (.int .i64 0)])) w_13)
theorem c82 (b : Option Addr) (bn : Nat) (bc : Nat) (R : Ending → World → Prop) (w : World) (h : vc82 b bn bc R w) : Calls Try.prog 82 #[(.slice b bn bc)] w R :=
  calls_of_vc (A := { loops := [(1000005, [])], pars := [] }) (Eq.mpr (show FnVc Try.prog { loops := [(1000005, [])], pars := [] } 42 82 [(.slice b bn bc)] R w = vc82 b bn bc R w by kernel_rfl) h)

/-- loupe/louperef03.ReadString -/
def vc83 (b : Option Addr) (bn : Nat) (bc : Nat) (R : Ending → World → Prop) (w : World) : Prop :=
 kCall (cR Try.prog R) w 47 #[(.slice b bn bc)] fun v10 w_1 =>
 kExt v10 0 fun v11 =>
 kExt v10 1 fun v12 =>
 kExt v10 2 fun v13 =>
 kJn (fun J =>
 kEq (cR Try.prog R) w_1 .neq 3 (.tmp 14) (.const (.int .i64 0)) v13 (.int .i64 0) fun v15 w_9 =>
 kIf v15 (
 kIf (.bool true) (
 R (.returned (.tuple #[(.string ⟨#[]⟩), (.int .i64 0), (.int .i64 130)])) w_9) (
 kD [] [] (J [] w_9))) (
 kBlt (cR Try.prog R) w_9 .len #[38] 3 #[false] #[(.slice b bn bc)] fun v19 w_10 =>
 kBin (cR Try.prog R) w_10 .sub 3 v19 v12 fun v21 w_11 =>
 kConv (cR Try.prog R) w_11 3 84 v21 fun v22 w_12 =>
 kBin (cR Try.prog R) w_12 .gtr 84 v11 v22 fun v23 w_13 =>
 kIf v23 (
 R (.returned (.tuple #[(.string ⟨#[]⟩), (.int .i64 0), (.int .i64 130)])) w_13) (
 kD [] [] (J [] w_13)))) (fun cs w_2 => ∀ ds : List Value,
 kConv (cR Try.prog R) w_2 84 3 v11 fun v29 w_3 =>
 kBin (cR Try.prog R) w_3 .add 3 v12 v29 fun v30 w_4 =>
 kSl (cR Try.prog R) w_4 38 (.slice b bn bc) (some v12) (some v30) none fun v31 w_5 =>
 kConv (cR Try.prog R) w_5 38 9 v31 fun v32 w_6 =>
 kConv (cR Try.prog R) w_6 84 3 v11 fun v35 w_7 =>
 kBin (cR Try.prog R) w_7 .add 3 v12 v35 fun v36 w_8 =>
 R (.returned (.tuple #[v32, v36, (.int .i64 0)])) w_8)
theorem c83 (b : Option Addr) (bn : Nat) (bc : Nat) (R : Ending → World → Prop) (w : World) (h : vc83 b bn bc R w) : Calls Try.prog 83 #[(.slice b bn bc)] w R :=
  calls_of_vc (A := { loops := [(1000004, [])], pars := [] }) (Eq.mpr (show FnVc Try.prog { loops := [(1000004, [])], pars := [] } 37 83 [(.slice b bn bc)] R w = vc83 b bn bc R w by kernel_rfl) h)

/-- loupe/louperef03.Number -/
def vc84 (n : Int) (R : Ending → World → Prop) (w : World) : Prop :=
 kLoopF [(.slice none 0 0), (.int .u64 n)] w fun cs ds w_1 N =>
 (fun x3 x0 =>
 kBin (cR Try.prog R) w_1 .geq 84 x0 (.int .u64 128) fun v5 w_2 =>
 kIf v5 (
 kBin (cR Try.prog R) w_2 .rem 84 x0 (.int .u64 128) fun v8 w_3 =>
 kBin (cR Try.prog R) w_3 .add 84 v8 (.int .u64 128) fun v9 w_4 =>
 kConv (cR Try.prog R) w_4 84 5 v9 fun v10 w_5 =>
 kBuildS (cR Try.prog R) w_5 38 1 #[(0, v10)] fun v11 w_6 =>
 kBlt (cR Try.prog R) w_6 .append #[38, 38] 38 #[false, false] #[x3, v11] fun v12 w_7 =>
 kBin (cR Try.prog R) w_7 .quo 84 x0 (.int .u64 128) fun v14 w_8 =>
 kD [] [] (N [v12, v14] w_8)) (
 kConv (cR Try.prog R) w_2 84 5 x0 fun v17 w_9 =>
 kBuildS (cR Try.prog R) w_9 38 1 #[(0, v17)] fun v18 w_10 =>
 kBlt (cR Try.prog R) w_10 .append #[38, 38] 38 #[false, false] #[x3, v18] fun v19 w_11 =>
 R (.returned v19) w_11)) (cs.getD 0 undef) (cs.getD 1 undef)
theorem c84 (n : Int) (R : Ending → World → Prop) (w : World) (h : vc84 n R w) : Calls Try.prog 84 #[(.int .u64 n)] w R :=
  calls_of_vc (A := { loops := [(0, [3, 0])], pars := [] }) (Eq.mpr (show FnVc Try.prog { loops := [(0, [3, 0])], pars := [] } 20 84 [(.int .u64 n)] R w = vc84 n R w by kernel_rfl) h)

/-- loupe/louperef11.fold -/
def vc85 (n : Int) (R : Ending → World → Prop) (w : World) : Prop :=
 kBin (cR Try.prog R) w .geq 2 (.int .i64 n) (.int .i64 0) fun v4 w_1 =>
 kIf v4 (
 kConv (cR Try.prog R) w_1 2 84 (.int .i64 n) fun v6 w_2 =>
 kBin (cR Try.prog R) w_2 .mul 84 (.int .u64 2) v6 fun v7 w_3 =>
 R (.returned v7) w_3) (
 kBin (cR Try.prog R) w_1 .add 2 (.int .i64 n) (.int .i64 1) fun v9 w_4 =>
 kUn (cR Try.prog R) w_4 .neg v9 fun v10 w_5 =>
 kConv (cR Try.prog R) w_5 2 84 v10 fun v11 w_6 =>
 kBin (cR Try.prog R) w_6 .mul 84 (.int .u64 2) v11 fun v12 w_7 =>
 kBin (cR Try.prog R) w_7 .add 84 v12 (.int .u64 1) fun v13 w_8 =>
 R (.returned v13) w_8)
theorem c85 (n : Int) (R : Ending → World → Prop) (w : World) (h : vc85 n R w) : Calls Try.prog 85 #[(.int .i64 n)] w R :=
  calls_of_vc (A := { loops := [], pars := [] }) (Eq.mpr (show FnVc Try.prog { loops := [], pars := [] } 14 85 [(.int .i64 n)] R w = vc85 n R w by kernel_rfl) h)

/-- loupe/louperef03.String -/
def vc86 (s : ByteArray) (R : Ending → World → Prop) (w : World) : Prop :=
 kBlt (cR Try.prog R) w .len #[9] 3 #[false] #[(.string s)] fun v4 w_1 =>
 kConv (cR Try.prog R) w_1 3 84 v4 fun v5 w_2 =>
 kCall (cR Try.prog R) w_2 84 #[v5] fun v6 w_3 =>
 kBlt (cR Try.prog R) w_3 .append #[38, 9] 38 #[false, false] #[v6, (.string s)] fun v8 w_4 =>
 R (.returned v8) w_4
theorem c86 (s : ByteArray) (R : Ending → World → Prop) (w : World) (h : vc86 s R w) : Calls Try.prog 86 #[(.string s)] w R :=
  calls_of_vc (A := { loops := [], pars := [] }) (Eq.mpr (show FnVc Try.prog { loops := [], pars := [] } 9 86 [(.string s)] R w = vc86 s R w by kernel_rfl) h)

/-- loupe/value.Check$1 -/
def vc88  (R : Ending → World → Prop) (w : World) : Prop :=
 R (.returned (.tuple #[])) w
theorem c88  (R : Ending → World → Prop) (w : World) (h : vc88  R w) : Calls Try.prog 88 #[] w R :=
  calls_of_vc (A := { loops := [], pars := [] }) (Eq.mpr (show FnVc Try.prog { loops := [], pars := [] } 0 88 [] R w = vc88  R w by kernel_rfl) h)

/-- loupe/value.right -/
def vc89 (v0 : Int) (v1 : Int) (v2 : ByteArray) (R : Ending → World → Prop) (w : World) : Prop :=
 kBox (cR Try.prog R) w 49 (.agg #[(.int .i64 v0), (.int .i64 v1), (.string v2)]) fun v1_1 w_1 =>
 kFa (cR Try.prog R) w_1 49 v1_1 2 fun v3 w_2 =>
 kLoad (cR Try.prog R) w_2 9 v3 fun v4 w_3 =>
 kBlt (cR Try.prog R) w_3 .len #[9] 3 #[false] #[v4] fun v5 w_4 =>
 kBin (cR Try.prog R) w_4 .leq 3 v5 (.int .i64 1000) fun v6 w_5 =>
 kCall (cR Try.prog R) w_5 120 #[v6, (.int .i64 3)] fun v7 w_6 =>
 kFa (cR Try.prog R) w_6 49 v1_1 0 fun v8 w_7 =>
 kLoad (cR Try.prog R) w_7 47 v8 fun v9 w_8 =>
 kBuild (cR Try.prog R) w_8 49 #[(0, v9)] fun v10 w_9 =>
 kAlloc (cR Try.prog R) w_9 49 fun v2_1 w_10 =>
 kStore (cR Try.prog R) w_10 49 v2_1 v10 fun w_11 =>
 kJn (fun J =>
 kFa (cR Try.prog R) w_11 49 v1_1 0 fun v11 w_25 =>
 kLoad (cR Try.prog R) w_25 47 v11 fun v12 w_26 =>
 kEq (cR Try.prog R) w_26 .eql 47 (.tmp 12) (.const (.int .i64 1)) v12 (.int .i64 1) fun v14 w_27 =>
 kIf v14 (
 kFa (cR Try.prog R) w_27 49 v1_1 1 fun v15 w_28 =>
 kLoad (cR Try.prog R) w_28 2 v15 fun v16 w_29 =>
 kBin (cR Try.prog R) w_29 .and 2 v16 (.int .i64 1) fun v17 w_30 =>
 kFa (cR Try.prog R) w_30 49 v2_1 1 fun v18 w_31 =>
 kStore (cR Try.prog R) w_31 2 v18 v17 fun w_32 =>
 kD [] [] (J [] w_32)) (
 kEq (cR Try.prog R) w_27 .eql 47 (.tmp 12) (.const (.int .i64 2)) v12 (.int .i64 2) fun v20 w_33 =>
 kIf v20 (
 kFa (cR Try.prog R) w_33 49 v1_1 1 fun v21 w_34 =>
 kLoad (cR Try.prog R) w_34 2 v21 fun v22 w_35 =>
 kFa (cR Try.prog R) w_35 49 v2_1 1 fun v23 w_36 =>
 kStore (cR Try.prog R) w_36 2 v23 v22 fun w_37 =>
 kD [] [] (J [] w_37)) (
 kJn (fun J_1 =>
 kEq (cR Try.prog R) w_33 .eql 47 (.tmp 12) (.const (.int .i64 3)) v12 (.int .i64 3) fun v25 w_43 =>
 kIf v25 (
 kD [] [] (J_1 [v25] w_43)) (
 kEq (cR Try.prog R) w_43 .eql 47 (.tmp 12) (.const (.int .i64 4)) v12 (.int .i64 4) fun v26 w_44 =>
 kD [] [] (J_1 [v26] w_44))) (fun cs_1 w_38 => ∀ ds_1 : List Value,
 (fun j24 =>
 kIf j24 (
 kFa (cR Try.prog R) w_38 49 v1_1 2 fun v27 w_39 =>
 kLoad (cR Try.prog R) w_39 9 v27 fun v28 w_40 =>
 kFa (cR Try.prog R) w_40 49 v2_1 2 fun v29 w_41 =>
 kStore (cR Try.prog R) w_41 9 v29 v28 fun w_42 =>
 kD [] [] (J [] w_42)) (
 kD [] [] (J [] w_38))) (cs_1.getD 0 undef))))) (fun cs w_12 => ∀ ds : List Value,
 kLoad (cR Try.prog R) w_12 49 v2_1 fun v30 w_13 =>
 kLoad (cR Try.prog R) w_13 49 v1_1 fun v31 w_14 =>
 kEq (cR Try.prog R) w_14 .eql 49 (.tmp 30) (.tmp 31) v30 v31 fun v32 w_15 =>
 kIf v32 (
 kFa (cR Try.prog R) w_15 49 v1_1 0 fun v34 w_16 =>
 kLoad (cR Try.prog R) w_16 47 v34 fun v35 w_17 =>
 kBin (cR Try.prog R) w_17 .geq 47 v35 (.int .i64 0) fun v36 w_18 =>
 kIf v36 (
 kFa (cR Try.prog R) w_18 49 v1_1 0 fun v39 w_19 =>
 kLoad (cR Try.prog R) w_19 47 v39 fun v40 w_20 =>
 kBin (cR Try.prog R) w_20 .leq 47 v40 (.int .i64 4) fun v41 w_21 =>
 kCall (cR Try.prog R) w_21 120 #[v41, (.int .i64 2)] fun v43 w_22 =>
 R (.returned (.tuple #[])) w_22) (
 kCall (cR Try.prog R) w_18 120 #[(.bool false), (.int .i64 2)] fun v43_1 w_23 =>
 R (.returned (.tuple #[])) w_23)) (
 kCall (cR Try.prog R) w_15 120 #[(.bool false), (.int .i64 2)] fun v43_2 w_24 =>
 R (.returned (.tuple #[])) w_24))
theorem c89 (v0 : Int) (v1 : Int) (v2 : ByteArray) (R : Ending → World → Prop) (w : World) (h : vc89 v0 v1 v2 R w) : Calls Try.prog 89 #[(.agg #[(.int .i64 v0), (.int .i64 v1), (.string v2)])] w R :=
  calls_of_vc (A := { loops := [(1000011, []), (1000010, [24])], pars := [] }) (Eq.mpr (show FnVc Try.prog { loops := [(1000011, []), (1000010, [24])], pars := [] } 44 89 [(.agg #[(.int .i64 v0), (.int .i64 v1), (.string v2)])] R w = vc89 v0 v1 v2 R w by kernel_rfl) h)

/-- loupe/sum.all[loupe/api.Type] -/
def vc90 (l : Option Addr) (ln : Nat) (lc : Nat) (such : Value) (R : Ending → World → Prop) (w : World) : Prop :=
 kBox (cR Try.prog R) w 140 such fun v3 w_1 =>
 kAlloc (cR Try.prog R) w_1 4 fun v4 w_2 =>
 kCall (cR Try.prog R) w_2 121 #[(.slice l ln lc)] fun v7 w_3 =>
 kRange Try.prog none w_3 v7 1 (fun l_1 D args w_4 Rr =>
 (fun p8 =>
 rndMid l_1 D w_4 w_4 fun lo w_5 =>
 (fun (c : Cx) =>
 kLoad c w_5 140 v3 fun v9 w_6 =>
 kCallV c w_6 v9 #[p8] fun v11 w_7 =>
 kUn c w_7 .not v11 fun v12 w_8 =>
 kIf v12 (
 kStore c w_8 4 v4 (.bool false) fun w_9 =>
 rndEnd l_1 D lo w_4 Rr .ret [] w_9) (
 rndEnd l_1 D lo w_4 Rr .normal [] w_8)) ⟨Try.prog, fun ch w => rndEnd l_1 D lo w_4 Rr (.panic ch) [] w, false⟩) (args.getD 0 undef))
  (fun D_1 w_10 =>
 (fun (c_1 : Cx) =>
 kStore c_1 w_10 4 v4 (.bool true) fun w_11 =>
 Lv Try.prog [.cell v4 4] R [markOf D_1] .returning w_11) ⟨Try.prog, fun ch w => Lv Try.prog [.cell v4 4] R [markOf D_1] (.panicking ch) w, false⟩)
  (fun D_1 w_12 =>
 Lv Try.prog [.cell v4 4] R [markOf D_1] .returning w_12)
  (fun _ _ _ => False)
  (fun D_1 ch w_14 => (fun ch w => Lv Try.prog [.cell v4 4] R [markOf D_1] (.panicking ch) w) ch w_14)
theorem c90 (l : Option Addr) (ln : Nat) (lc : Nat) (such : Value) (R : Ending → World → Prop) (w : World) (h : vc90 l ln lc such R w) : Calls Try.prog 90 #[(.slice l ln lc), such] w R :=
  calls_of_vc (A := { loops := [], pars := [] }) (Eq.mpr (show FnVc Try.prog { loops := [], pars := [] } 13 90 [(.slice l ln lc), such] R w = vc90 l ln lc such R w by kernel_rfl) h)

/-- loupe/sum.typed$1 -/
def vc91 (t : Int) (R : Ending → World → Prop) (w : World) : Prop :=
 kBin (cR Try.prog R) w .geq 27 (.int .i64 t) (.int .i64 0) fun v4 w_1 =>
 kIf v4 (
 kBin (cR Try.prog R) w_1 .leq 27 (.int .i64 t) (.int .i64 4) fun v7 w_2 =>
 R (.returned v7) w_2) (
 R (.returned (.bool false)) w_1)
theorem c91 (t : Int) (R : Ending → World → Prop) (w : World) (h : vc91 t R w) : Calls Try.prog 91 #[(.int .i64 t)] w R :=
  calls_of_vc (A := { loops := [], pars := [] }) (Eq.mpr (show FnVc Try.prog { loops := [], pars := [] } 9 91 [(.int .i64 t)] R w = vc91 t R w by kernel_rfl) h)

/-- loupe/sum.typed$2 -/
def vc92 (t : Int) (f0 : Value) (f1 : Value) (R : Ending → World → Prop) (w : World) : Prop :=
 kJn (fun J =>
 kFa (cR Try.prog R) w 62 f0 2 fun v7 w_10 =>
 kLoad (cR Try.prog R) w_10 27 v7 fun v8 w_11 =>
 kEq (cR Try.prog R) w_11 .eql 27 (.tmp 8) (.const (.int .i64 0)) v8 (.int .i64 0) fun v9 w_12 =>
 kIf v9 (
 kD [] [] (J [(.bool true)] w_12)) (
 kFa (cR Try.prog R) w_12 62 f0 2 fun v12 w_13 =>
 kLoad (cR Try.prog R) w_13 27 v12 fun v13 w_14 =>
 kEq (cR Try.prog R) w_14 .eql 27 (.tmp 11) (.tmp 13) (.int .i64 t) v13 fun v14 w_15 =>
 kD [] [] (J [v14] w_15))) (fun cs w_1 => ∀ ds : List Value,
 (fun j5 =>
 kJn (fun J_1 =>
 kLoad (cR Try.prog R) w_1 53 f1 fun v16 w_4 =>
 kEq (cR Try.prog R) w_4 .neq 53 (.tmp 16) (.const (.int .i64 6)) v16 (.int .i64 6) fun v17 w_5 =>
 kIf v17 (
 kLoad (cR Try.prog R) w_5 53 f1 fun v19 w_6 =>
 kEq (cR Try.prog R) w_6 .neq 53 (.tmp 19) (.const (.int .i64 19)) v19 (.int .i64 19) fun v20 w_7 =>
 kIf v20 (
 kD [] [] (J_1 [(.bool true)] w_7)) (
 kBin (cR Try.prog R) w_7 .geq 27 (.int .i64 t) (.int .i64 3) fun v24 w_8 =>
 kD [] [] (J_1 [v24] w_8))) (
 kBin (cR Try.prog R) w_5 .geq 27 (.int .i64 t) (.int .i64 3) fun v24_1 w_9 =>
 kD [] [] (J_1 [v24_1] w_9))) (fun cs_1 w_2 => ∀ ds_1 : List Value,
 (fun j6 =>
 kEq (cR Try.prog R) w_2 .eql 27 (.tmp 26) (.const (.int .i64 0)) (.int .i64 t) (.int .i64 0) fun v27 w_3 =>
 kIf v27 (
 R (.returned (.bool true)) w_3) (
 kIf j5 (
 R (.returned j6) w_3) (
 R (.returned (.bool false)) w_3))) (cs_1.getD 0 undef))) (cs.getD 0 undef))
theorem c92 (t : Int) (f0 : Value) (f1 : Value) (R : Ending → World → Prop) (w : World) (h : vc92 t f0 f1 R w) : Calls Try.prog 92 #[(.int .i64 t), f0, f1] w R :=
  calls_of_vc (A := { loops := [(1000003, [6]), (1000002, [5])], pars := [] }) (Eq.mpr (show FnVc Try.prog { loops := [(1000003, [6]), (1000002, [5])], pars := [] } 34 92 [(.int .i64 t), f0, f1] R w = vc92 t f0 f1 R w by kernel_rfl) h)

/-- loupe/value.Of -/
def vc93 (t : Int) (R : Ending → World → Prop) (w : World) : Prop :=
 kAlloc (cR Try.prog R) w 49 fun v2 w_1 =>
 kEq (cR Try.prog R) w_1 .neq 142 (.tmp 3) (.const (.int .i64 0)) (.int .i64 t) (.int .i64 0) fun v4 w_2 =>
 kIf v4 (
 kEq (cR Try.prog R) w_2 .neq 142 (.tmp 6) (.const (.int .i64 1)) (.int .i64 t) (.int .i64 1) fun v7 w_3 =>
 kIf v7 (
 kBuild (cR Try.prog R) w_3 49 #[] fun v9 w_4 =>
 kStore (cR Try.prog R) w_4 49 v2 v9 fun w_5 =>
 RetK Try.prog [.cell v2 49] R w_5) (
 kBuild (cR Try.prog R) w_3 49 #[(0, (.int .i64 1)), (1, (.int .i64 t))] fun v11 w_6 =>
 kStore (cR Try.prog R) w_6 49 v2 v11 fun w_7 =>
 RetK Try.prog [.cell v2 49] R w_7)) (
 kIf (.bool false) (
 kBuild (cR Try.prog R) w_2 49 #[] fun v9_1 w_8 =>
 kStore (cR Try.prog R) w_8 49 v2 v9_1 fun w_9 =>
 RetK Try.prog [.cell v2 49] R w_9) (
 kBuild (cR Try.prog R) w_2 49 #[(0, (.int .i64 1)), (1, (.int .i64 t))] fun v11_1 w_10 =>
 kStore (cR Try.prog R) w_10 49 v2 v11_1 fun w_11 =>
 RetK Try.prog [.cell v2 49] R w_11))
theorem c93 (t : Int) (R : Ending → World → Prop) (w : World) (h : vc93 t R w) : Calls Try.prog 93 #[(.int .i64 t)] w R :=
  calls_of_vc (A := { loops := [], pars := [] }) (Eq.mpr (show FnVc Try.prog { loops := [], pars := [] } 12 93 [(.int .i64 t)] R w = vc93 t R w by kernel_rfl) h)

/-- loupe/value.Known -/
def vc94 (v0 : Int) (v1 : Int) (v2 : ByteArray) (R : Ending → World → Prop) (w : World) : Prop :=
 kBox (cR Try.prog R) w 49 (.agg #[(.int .i64 v0), (.int .i64 v1), (.string v2)]) fun v1_1 w_1 =>
 kJn (fun J =>
 kLoad (cR Try.prog R) w_1 49 v1_1 fun v5 w_5 =>
 kBuild (cR Try.prog R) w_5 49 #[] fun v6 w_6 =>
 kEq (cR Try.prog R) w_6 .eql 49 (.tmp 5) (.tmp 6) v5 v6 fun v7 w_7 =>
 kIf v7 (
 R (.returned (.tuple #[(.int .i64 2), (.bool true)])) w_7) (
 kFa (cR Try.prog R) w_7 49 v1_1 0 fun v9 w_8 =>
 kLoad (cR Try.prog R) w_8 47 v9 fun v10 w_9 =>
 kEq (cR Try.prog R) w_9 .neq 47 (.tmp 10) (.const (.int .i64 1)) v10 (.int .i64 1) fun v11 w_10 =>
 kIf v11 (
 kIf (.bool true) (
 R (.returned (.tuple #[(.int .i64 0), (.bool false)])) w_10) (
 kD [] [] (J [] w_10))) (
 kLoad (cR Try.prog R) w_10 49 v1_1 fun v13 w_11 =>
 kCall (cR Try.prog R) w_11 57 #[v13] fun v14 w_12 =>
 kEq (cR Try.prog R) w_12 .neq 28 (.tmp 14) (.const (.int .i64 0)) v14 (.int .i64 0) fun v15 w_13 =>
 kIf v15 (
 R (.returned (.tuple #[(.int .i64 0), (.bool false)])) w_13) (
 kD [] [] (J [] w_13))))) (fun cs w_2 => ∀ ds : List Value,
 kFa (cR Try.prog R) w_2 49 v1_1 1 fun v17 w_3 =>
 kLoad (cR Try.prog R) w_3 2 v17 fun v18 w_4 =>
 R (.returned (.tuple #[v18, (.bool true)])) w_4)
theorem c94 (v0 : Int) (v1 : Int) (v2 : ByteArray) (R : Ending → World → Prop) (w : World) (h : vc94 v0 v1 v2 R w) : Calls Try.prog 94 #[(.agg #[(.int .i64 v0), (.int .i64 v1), (.string v2)])] w R :=
  calls_of_vc (A := { loops := [(1000005, [])], pars := [] }) (Eq.mpr (show FnVc Try.prog { loops := [(1000005, [])], pars := [] } 19 94 [(.agg #[(.int .i64 v0), (.int .i64 v1), (.string v2)])] R w = vc94 v0 v1 v2 R w by kernel_rfl) h)

/-- loupe/value.And -/
def vc95 (l : Option Addr) (ln : Nat) (lc : Nat) (R : Ending → World → Prop) (w : World) : Prop :=
 kCall (cR Try.prog R) w 122 #[(.int .i64 1), (.func (.func 123) #[] #[]), (.slice l ln lc)] fun v4 w_1 =>
 R (.returned v4) w_1
theorem c95 (l : Option Addr) (ln : Nat) (lc : Nat) (R : Ending → World → Prop) (w : World) (h : vc95 l ln lc R w) : Calls Try.prog 95 #[(.slice l ln lc)] w R :=
  calls_of_vc (A := { loops := [], pars := [] }) (Eq.mpr (show FnVc Try.prog { loops := [], pars := [] } 5 95 [(.slice l ln lc)] R w = vc95 l ln lc R w by kernel_rfl) h)

/-- loupe/value.Or -/
def vc96 (l : Option Addr) (ln : Nat) (lc : Nat) (R : Ending → World → Prop) (w : World) : Prop :=
 kCall (cR Try.prog R) w 122 #[(.int .i64 1), (.func (.func 124) #[] #[]), (.slice l ln lc)] fun v4 w_1 =>
 kCall (cR Try.prog R) w_1 97 #[v4] fun v5 w_2 =>
 R (.returned v5) w_2
theorem c96 (l : Option Addr) (ln : Nat) (lc : Nat) (R : Ending → World → Prop) (w : World) (h : vc96 l ln lc R w) : Calls Try.prog 96 #[(.slice l ln lc)] w R :=
  calls_of_vc (A := { loops := [], pars := [] }) (Eq.mpr (show FnVc Try.prog { loops := [], pars := [] } 6 96 [(.slice l ln lc)] R w = vc96 l ln lc R w by kernel_rfl) h)

/-- loupe/value.Not -/
def vc97 (t : Int) (R : Ending → World → Prop) (w : World) : Prop :=
 kEq (cR Try.prog R) w .neq 142 (.tmp 3) (.const (.int .i64 0)) (.int .i64 t) (.int .i64 0) fun v4 w_1 =>
 kIf v4 (
 kEq (cR Try.prog R) w_1 .neq 142 (.tmp 6) (.const (.int .i64 1)) (.int .i64 t) (.int .i64 1) fun v7 w_2 =>
 kIf v7 (
 R (.returned (.int .i64 2)) w_2) (
 kBin (cR Try.prog R) w_2 .sub 142 (.int .i64 1) (.int .i64 t) fun v10 w_3 =>
 R (.returned v10) w_3)) (
 kIf (.bool false) (
 R (.returned (.int .i64 2)) w_1) (
 kBin (cR Try.prog R) w_1 .sub 142 (.int .i64 1) (.int .i64 t) fun v10_1 w_4 =>
 R (.returned v10_1) w_4))
theorem c97 (t : Int) (R : Ending → World → Prop) (w : World) (h : vc97 t R w) : Calls Try.prog 97 #[(.int .i64 t)] w R :=
  calls_of_vc (A := { loops := [], pars := [] }) (Eq.mpr (show FnVc Try.prog { loops := [], pars := [] } 11 97 [(.int .i64 t)] R w = vc97 t R w by kernel_rfl) h)

/-- loupe/value.Order -/
def vc98 (a0 : Int) (a1 : Int) (a2 : ByteArray) (b0 : Int) (b1 : Int) (b2 : ByteArray) (R : Ending → World → Prop) (w : World) : Prop :=
 kBox (cR Try.prog R) w 49 (.agg #[(.int .i64 a0), (.int .i64 a1), (.string a2)]) fun v2 w_1 =>
 kBox (cR Try.prog R) w_1 49 (.agg #[(.int .i64 b0), (.int .i64 b1), (.string b2)]) fun v3 w_2 =>
 kDrawn true (
 kDrawn true (
 kFa (cQ Try.prog) w_2 49 v2 0 fun v5 w_3 =>
 kLoad (cQ Try.prog) w_3 47 v5 fun v6 w_4 =>
 kFa (cQ Try.prog) w_4 49 v3 0 fun v7 w_5 =>
 kLoad (cQ Try.prog) w_5 47 v7 fun v8 w_6 =>
 kFa (cQ Try.prog) w_6 49 v2 1 fun v10 w_7 =>
 kLoad (cQ Try.prog) w_7 2 v10 fun v11 w_8 =>
 kFa (cQ Try.prog) w_8 49 v3 1 fun v12 w_9 =>
 kLoad (cQ Try.prog) w_9 2 v12 fun v13 w_10 =>
 kFa (cQ Try.prog) w_10 49 v2 2 fun v15 w_11 =>
 kLoad (cQ Try.prog) w_11 9 v15 fun v16 w_12 =>
 kFa (cQ Try.prog) w_12 49 v3 2 fun v17 w_13 =>
 kLoad (cQ Try.prog) w_13 9 v17 fun v18 w_14 =>
 kDrew w_14 fun w_15 =>
 (fun (c : Cx) =>
 kCall c w_15 126 #[v6, v8] fun v9 w_16 =>
 kFa (cQ Try.prog) w_16 49 v2 1 fun v10_1 w_17 =>
 kSame v10_1 v10 (
 kLoad (cQ Try.prog) w_16 2 v10 fun v11_1 w_18 =>
 kSame v11_1 v11 (
 kFa (cQ Try.prog) w_16 49 v3 1 fun v12_1 w_19 =>
 kSame v12_1 v12 (
 kLoad (cQ Try.prog) w_16 2 v12 fun v13_1 w_20 =>
 kSame v13_1 v13 (
 kFa (cQ Try.prog) w_16 49 v2 2 fun v15_1 w_21 =>
 kSame v15_1 v15 (
 kLoad (cQ Try.prog) w_16 9 v15 fun v16_1 w_22 =>
 kSame v16_1 v16 (
 kFa (cQ Try.prog) w_16 49 v3 2 fun v17_1 w_23 =>
 kSame v17_1 v17 (
 kLoad (cQ Try.prog) w_16 9 v17 fun v18_1 w_24 =>
 kSame v18_1 v18 (
 kDrew w_16 fun w_25 =>
 kCall c w_25 127 #[v11, v13] fun v14 w_26 =>
 kFa (cQ Try.prog) w_26 49 v2 2 fun v15_2 w_27 =>
 kSame v15_2 v15 (
 kLoad (cQ Try.prog) w_26 9 v15 fun v16_2 w_28 =>
 kSame v16_2 v16 (
 kFa (cQ Try.prog) w_26 49 v3 2 fun v17_2 w_29 =>
 kSame v17_2 v17 (
 kLoad (cQ Try.prog) w_26 9 v17 fun v18_2 w_30 =>
 kSame v18_2 v18 (
 kDrew w_26 fun w_31 =>
 kCall c w_31 128 #[v16, v18] fun v19 w_32 =>
 kDrew w_32 fun w_33 =>
 kBuildS c w_33 23 3 #[(0, v9), (1, v14), (2, v19)] fun v20 w_34 =>
 kDrew w_34 fun w_35 =>
 kCall c w_35 125 #[v20] fun v21 w_36 =>
 kDrew w_36 fun w_37 =>
 R (.returned v21) w_37))))))))))))) ⟨Try.prog, fun ch w => ∀ _ : List Value, R (.panicked ch) w, false⟩))
theorem c98 (a0 : Int) (a1 : Int) (a2 : ByteArray) (b0 : Int) (b1 : Int) (b2 : ByteArray) (R : Ending → World → Prop) (w : World) (h : vc98 a0 a1 a2 b0 b1 b2 R w) : Calls Try.prog 98 #[(.agg #[(.int .i64 a0), (.int .i64 a1), (.string a2)]), (.agg #[(.int .i64 b0), (.int .i64 b1), (.string b2)])] w R :=
  calls_of_vc (A := { loops := [], pars := [], chs := [(1, (.q 0 (.q 1 (.q 2 (.q 3 (.q 5 (.q 6 (.q 7 (.q 8 (.q 10 (.q 11 (.q 12 (.q 13 (.e 4 (.e 9 (.e 14 (.e 15 (.e 16 .done))))))))))))))))))] }) (Eq.mpr (show FnVc Try.prog { loops := [], pars := [], chs := [(1, (.q 0 (.q 1 (.q 2 (.q 3 (.q 5 (.q 6 (.q 7 (.q 8 (.q 10 (.q 11 (.q 12 (.q 13 (.e 4 (.e 9 (.e 14 (.e 15 (.e 16 .done))))))))))))))))))] } 22 98 [(.agg #[(.int .i64 a0), (.int .i64 a1), (.string a2)]), (.agg #[(.int .i64 b0), (.int .i64 b1), (.string b2)])] R w = vc98 a0 a1 a2 b0 b1 b2 R w by kernel_rfl) h)

/-- (loupe/sum.pair).add -/
def vc99 (p0 : Int) (p1 : Int) (p2 : ByteArray) (p3 : Int) (p4 : Int) (p5 : ByteArray) (R : Ending → World → Prop) (w : World) : Prop :=
 kBox (cR Try.prog R) w 101 (.agg #[(.int .i64 p0), (.int .i64 p1), (.string p2), (.int .i64 p3), (.int .i64 p4), (.string p5)]) fun v1 w_1 =>
 kAlloc (cR Try.prog R) w_1 49 fun v2 w_2 =>
 kFa (cR Try.prog R) w_2 101 v1 0 fun v4 w_3 =>
 kFa (cR Try.prog R) w_3 49 v4 1 fun v5 w_4 =>
 kLoad (cR Try.prog R) w_4 2 v5 fun v6 w_5 =>
 kFa (cR Try.prog R) w_5 101 v1 1 fun v7 w_6 =>
 kFa (cR Try.prog R) w_6 49 v7 1 fun v8 w_7 =>
 kLoad (cR Try.prog R) w_7 2 v8 fun v9 w_8 =>
 kBin (cR Try.prog R) w_8 .add 2 v6 v9 fun v10 w_9 =>
 kFa (cR Try.prog R) w_9 101 v1 0 fun v13 w_10 =>
 kFa (cR Try.prog R) w_10 49 v13 1 fun v14 w_11 =>
 kLoad (cR Try.prog R) w_11 2 v14 fun v15 w_12 =>
 kBin (cR Try.prog R) w_12 .gtr 2 v10 v15 fun v16 w_13 =>
 kFa (cR Try.prog R) w_13 101 v1 1 fun v17 w_14 =>
 kFa (cR Try.prog R) w_14 49 v17 1 fun v18 w_15 =>
 kLoad (cR Try.prog R) w_15 2 v18 fun v19 w_16 =>
 kBin (cR Try.prog R) w_16 .gtr 2 v19 (.int .i64 0) fun v20 w_17 =>
 kEq (cR Try.prog R) w_17 .eql 4 (.tmp 16) (.tmp 20) v16 v20 fun v21 w_18 =>
 kIf v21 (
 kCall (cR Try.prog R) w_18 129 #[v10, (.bool true)] fun v28 w_19 =>
 kStore (cR Try.prog R) w_19 49 v2 v28 fun w_20 =>
 RetK Try.prog [.cell v2 49] R w_20) (
 kFa (cR Try.prog R) w_18 101 v1 1 fun v23 w_21 =>
 kFa (cR Try.prog R) w_21 49 v23 1 fun v24 w_22 =>
 kLoad (cR Try.prog R) w_22 2 v24 fun v25 w_23 =>
 kEq (cR Try.prog R) w_23 .eql 2 (.tmp 25) (.const (.int .i64 0)) v25 (.int .i64 0) fun v26 w_24 =>
 kCall (cR Try.prog R) w_24 129 #[v10, v26] fun v28_1 w_25 =>
 kStore (cR Try.prog R) w_25 49 v2 v28_1 fun w_26 =>
 RetK Try.prog [.cell v2 49] R w_26)
theorem c99 (p0 : Int) (p1 : Int) (p2 : ByteArray) (p3 : Int) (p4 : Int) (p5 : ByteArray) (R : Ending → World → Prop) (w : World) (h : vc99 p0 p1 p2 p3 p4 p5 R w) : Calls Try.prog 99 #[(.agg #[(.int .i64 p0), (.int .i64 p1), (.string p2), (.int .i64 p3), (.int .i64 p4), (.string p5)])] w R :=
  calls_of_vc (A := { loops := [], pars := [] }) (Eq.mpr (show FnVc Try.prog { loops := [], pars := [] } 29 99 [(.agg #[(.int .i64 p0), (.int .i64 p1), (.string p2), (.int .i64 p3), (.int .i64 p4), (.string p5)])] R w = vc99 p0 p1 p2 p3 p4 p5 R w by kernel_rfl) h)

/-- (loupe/sum.pair).sub -/
def vc100 (p0 : Int) (p1 : Int) (p2 : ByteArray) (p3 : Int) (p4 : Int) (p5 : ByteArray) (R : Ending → World → Prop) (w : World) : Prop :=
 kBox (cR Try.prog R) w 101 (.agg #[(.int .i64 p0), (.int .i64 p1), (.string p2), (.int .i64 p3), (.int .i64 p4), (.string p5)]) fun v1 w_1 =>
 kAlloc (cR Try.prog R) w_1 49 fun v2 w_2 =>
 kFa (cR Try.prog R) w_2 101 v1 0 fun v4 w_3 =>
 kFa (cR Try.prog R) w_3 49 v4 1 fun v5 w_4 =>
 kLoad (cR Try.prog R) w_4 2 v5 fun v6 w_5 =>
 kFa (cR Try.prog R) w_5 101 v1 1 fun v7 w_6 =>
 kFa (cR Try.prog R) w_6 49 v7 1 fun v8 w_7 =>
 kLoad (cR Try.prog R) w_7 2 v8 fun v9 w_8 =>
 kBin (cR Try.prog R) w_8 .sub 2 v6 v9 fun v10 w_9 =>
 kFa (cR Try.prog R) w_9 101 v1 0 fun v13 w_10 =>
 kFa (cR Try.prog R) w_10 49 v13 1 fun v14 w_11 =>
 kLoad (cR Try.prog R) w_11 2 v14 fun v15 w_12 =>
 kBin (cR Try.prog R) w_12 .lss 2 v10 v15 fun v16 w_13 =>
 kFa (cR Try.prog R) w_13 101 v1 1 fun v17 w_14 =>
 kFa (cR Try.prog R) w_14 49 v17 1 fun v18 w_15 =>
 kLoad (cR Try.prog R) w_15 2 v18 fun v19 w_16 =>
 kBin (cR Try.prog R) w_16 .gtr 2 v19 (.int .i64 0) fun v20 w_17 =>
 kEq (cR Try.prog R) w_17 .eql 4 (.tmp 16) (.tmp 20) v16 v20 fun v21 w_18 =>
 kIf v21 (
 kCall (cR Try.prog R) w_18 129 #[v10, (.bool true)] fun v28 w_19 =>
 kStore (cR Try.prog R) w_19 49 v2 v28 fun w_20 =>
 RetK Try.prog [.cell v2 49] R w_20) (
 kFa (cR Try.prog R) w_18 101 v1 1 fun v23 w_21 =>
 kFa (cR Try.prog R) w_21 49 v23 1 fun v24 w_22 =>
 kLoad (cR Try.prog R) w_22 2 v24 fun v25 w_23 =>
 kEq (cR Try.prog R) w_23 .eql 2 (.tmp 25) (.const (.int .i64 0)) v25 (.int .i64 0) fun v26 w_24 =>
 kCall (cR Try.prog R) w_24 129 #[v10, v26] fun v28_1 w_25 =>
 kStore (cR Try.prog R) w_25 49 v2 v28_1 fun w_26 =>
 RetK Try.prog [.cell v2 49] R w_26)
theorem c100 (p0 : Int) (p1 : Int) (p2 : ByteArray) (p3 : Int) (p4 : Int) (p5 : ByteArray) (R : Ending → World → Prop) (w : World) (h : vc100 p0 p1 p2 p3 p4 p5 R w) : Calls Try.prog 100 #[(.agg #[(.int .i64 p0), (.int .i64 p1), (.string p2), (.int .i64 p3), (.int .i64 p4), (.string p5)])] w R :=
  calls_of_vc (A := { loops := [], pars := [] }) (Eq.mpr (show FnVc Try.prog { loops := [], pars := [] } 29 100 [(.agg #[(.int .i64 p0), (.int .i64 p1), (.string p2), (.int .i64 p3), (.int .i64 p4), (.string p5)])] R w = vc100 p0 p1 p2 p3 p4 p5 R w by kernel_rfl) h)

/-- (loupe/sum.pair).mul -/
def vc101 (p0 : Int) (p1 : Int) (p2 : ByteArray) (p3 : Int) (p4 : Int) (p5 : ByteArray) (R : Ending → World → Prop) (w : World) : Prop :=
 kBox (cR Try.prog R) w 101 (.agg #[(.int .i64 p0), (.int .i64 p1), (.string p2), (.int .i64 p3), (.int .i64 p4), (.string p5)]) fun v1 w_1 =>
 kAlloc (cR Try.prog R) w_1 49 fun v2 w_2 =>
 kDrawn true (
 kDrawn true (
 kFa (cQ Try.prog) w_2 101 v1 0 fun v9 w_3 =>
 kFa (cQ Try.prog) w_3 49 v9 1 fun v10 w_4 =>
 kLoad (cQ Try.prog) w_4 2 v10 fun v11 w_5 =>
 kFa (cQ Try.prog) w_5 101 v1 1 fun v14 w_6 =>
 kFa (cQ Try.prog) w_6 49 v14 1 fun v15 w_7 =>
 kLoad (cQ Try.prog) w_7 2 v15 fun v16 w_8 =>
 kDrew w_8 fun w_9 =>
 (fun (c : Cx) =>
 kCallV c w_9 (.func (.func 130) #[] #[]) #[v11] fun v12 w_10 =>
 kFa (cQ Try.prog) w_10 101 v1 1 fun v14_1 w_11 =>
 kSame v14_1 v14 (
 kFa (cQ Try.prog) w_10 49 v14 1 fun v15_1 w_12 =>
 kSame v15_1 v15 (
 kLoad (cQ Try.prog) w_10 2 v15 fun v16_1 w_13 =>
 kSame v16_1 v16 (
 kDrew w_10 fun w_14 =>
 kCallV c w_14 (.func (.func 130) #[] #[]) #[v16] fun v17 w_15 =>
 kDrew w_15 fun w_16 =>
 kCall c w_16 131 #[v12, v17] fun v18 w_17 =>
 kExt v18 0 fun v19 =>
 kExt v18 1 fun v20 =>
 kDrew w_17 fun w_18 =>
 kJn (fun J =>
 kFa (cR Try.prog R) w_18 101 v1 0 fun v21 w_33 =>
 kFa (cR Try.prog R) w_33 49 v21 1 fun v22 w_34 =>
 kLoad (cR Try.prog R) w_34 2 v22 fun v23 w_35 =>
 kBin (cR Try.prog R) w_35 .lss 2 v23 (.int .i64 0) fun v24 w_36 =>
 kFa (cR Try.prog R) w_36 101 v1 1 fun v25 w_37 =>
 kFa (cR Try.prog R) w_37 49 v25 1 fun v26 w_38 =>
 kLoad (cR Try.prog R) w_38 2 v26 fun v27 w_39 =>
 kBin (cR Try.prog R) w_39 .lss 2 v27 (.int .i64 0) fun v28 w_40 =>
 kEq (cR Try.prog R) w_40 .neq 4 (.tmp 24) (.tmp 28) v24 v28 fun v29 w_41 =>
 kIf v29 (
 kBin (cR Try.prog R) w_41 .add 84 (.int .u64 9223372036854775807) (.int .u64 1) fun v31 w_42 =>
 kD [] [] (J [v31] w_42)) (
 kD [] [] (J [(.int .u64 9223372036854775807)] w_41))) (fun cs w_19 => ∀ ds : List Value,
 (fun j6 =>
 kFa (cR Try.prog R) w_19 101 v1 0 fun v32 w_20 =>
 kFa (cR Try.prog R) w_20 49 v32 1 fun v33 w_21 =>
 kLoad (cR Try.prog R) w_21 2 v33 fun v34 w_22 =>
 kFa (cR Try.prog R) w_22 101 v1 1 fun v35 w_23 =>
 kFa (cR Try.prog R) w_23 49 v35 1 fun v36 w_24 =>
 kLoad (cR Try.prog R) w_24 2 v36 fun v37 w_25 =>
 kBin (cR Try.prog R) w_25 .mul 2 v34 v37 fun v38 w_26 =>
 kEq (cR Try.prog R) w_26 .eql 84 (.tmp 39) (.const (.int .u64 0)) v19 (.int .u64 0) fun v40 w_27 =>
 kIf v40 (
 kBin (cR Try.prog R) w_27 .leq 84 v20 j6 fun v44 w_28 =>
 kCall (cR Try.prog R) w_28 129 #[v38, v44] fun v46 w_29 =>
 kStore (cR Try.prog R) w_29 49 v2 v46 fun w_30 =>
 RetK Try.prog [.cell v2 49] R w_30) (
 kCall (cR Try.prog R) w_27 129 #[v38, (.bool false)] fun v46_1 w_31 =>
 kStore (cR Try.prog R) w_31 49 v2 v46_1 fun w_32 =>
 RetK Try.prog [.cell v2 49] R w_32)) (cs.getD 0 undef)))))) ⟨Try.prog, fun ch w => ∀ _ : List Value, R (.panicked ch) w, false⟩))
theorem c101 (p0 : Int) (p1 : Int) (p2 : ByteArray) (p3 : Int) (p4 : Int) (p5 : ByteArray) (R : Ending → World → Prop) (w : World) (h : vc101 p0 p1 p2 p3 p4 p5 R w) : Calls Try.prog 101 #[(.agg #[(.int .i64 p0), (.int .i64 p1), (.string p2), (.int .i64 p3), (.int .i64 p4), (.string p5)])] w R :=
  calls_of_vc (A := { loops := [(1000006, [6])], pars := [], chs := [(2, (.q 0 (.q 1 (.q 2 (.q 3 (.q 5 (.q 6 (.q 7 (.q 8 (.e 4 (.e 9 (.e 10 (.q 11 (.q 12 (.q 13 (.q 14 .done))))))))))))))))] }) (Eq.mpr (show FnVc Try.prog { loops := [(1000006, [6])], pars := [], chs := [(2, (.q 0 (.q 1 (.q 2 (.q 3 (.q 5 (.q 6 (.q 7 (.q 8 (.e 4 (.e 9 (.e 10 (.q 11 (.q 12 (.q 13 (.q 14 .done))))))))))))))))] } 47 101 [(.agg #[(.int .i64 p0), (.int .i64 p1), (.string p2), (.int .i64 p3), (.int .i64 p4), (.string p5)])] R w = vc101 p0 p1 p2 p3 p4 p5 R w by kernel_rfl) h)

/-- (loupe/sum.pair).div -/
def vc102 (p0 : Int) (p1 : Int) (p2 : ByteArray) (p3 : Int) (p4 : Int) (p5 : ByteArray) (R : Ending → World → Prop) (w : World) : Prop :=
 kBox (cR Try.prog R) w 101 (.agg #[(.int .i64 p0), (.int .i64 p1), (.string p2), (.int .i64 p3), (.int .i64 p4), (.string p5)]) fun v1 w_1 =>
 kAlloc (cR Try.prog R) w_1 49 fun v2 w_2 =>
 kFa (cR Try.prog R) w_2 101 v1 1 fun v3 w_3 =>
 kFa (cR Try.prog R) w_3 49 v3 1 fun v4 w_4 =>
 kLoad (cR Try.prog R) w_4 2 v4 fun v5 w_5 =>
 kEq (cR Try.prog R) w_5 .neq 2 (.tmp 5) (.const (.int .i64 0)) v5 (.int .i64 0) fun v6 w_6 =>
 kCall (cR Try.prog R) w_6 54 #[v6, (.int .i64 121)] fun v7 w_7 =>
 kDrawn true (
 kDrawn true (
 kFa (cQ Try.prog) w_7 101 v1 0 fun v8 w_8 =>
 kFa (cQ Try.prog) w_8 49 v8 1 fun v9 w_9 =>
 kLoad (cQ Try.prog) w_9 2 v9 fun v10 w_10 =>
 kFa (cQ Try.prog) w_10 101 v1 1 fun v11 w_11 =>
 kFa (cQ Try.prog) w_11 49 v11 1 fun v12 w_12 =>
 kLoad (cQ Try.prog) w_12 2 v12 fun v13 w_13 =>
 kBin (cQ Try.prog) w_13 .quo 2 v10 v13 fun v14 w_14 =>
 kFa (cQ Try.prog) w_14 101 v1 0 fun v15 w_15 =>
 kFa (cQ Try.prog) w_15 49 v15 1 fun v16 w_16 =>
 kLoad (cQ Try.prog) w_16 2 v16 fun v17 w_17 =>
 kEq (cQ Try.prog) w_17 .neq 2 (.tmp 17) (.const (.int .i64 (-9223372036854775808))) v17 (.int .i64 (-9223372036854775808)) fun v18 w_18 =>
 kIf v18 (
 kDrew w_18 fun w_19 =>
 (fun (c : Cx) =>
 kCall c w_19 129 #[v14, (.bool true)] fun v25 w_20 =>
 kDrew w_20 fun w_21 =>
 kStore (cR Try.prog R) w_21 49 v2 v25 fun w_22 =>
 RetK Try.prog [.cell v2 49] R w_22) ⟨Try.prog, fun ch w => ∀ _ : List Value, R (.panicked ch) w, false⟩) (
 kFa (cQ Try.prog) w_18 101 v1 1 fun v20 w_23 =>
 kFa (cQ Try.prog) w_23 49 v20 1 fun v21 w_24 =>
 kLoad (cQ Try.prog) w_24 2 v21 fun v22 w_25 =>
 kEq (cQ Try.prog) w_25 .neq 2 (.tmp 22) (.const (.int .i64 (-1))) v22 (.int .i64 (-1)) fun v23 w_26 =>
 kDrew w_26 fun w_27 =>
 (fun (c_1 : Cx) =>
 kCall c_1 w_27 129 #[v14, v23] fun v25_1 w_28 =>
 kDrew w_28 fun w_29 =>
 kStore (cR Try.prog R) w_29 49 v2 v25_1 fun w_30 =>
 RetK Try.prog [.cell v2 49] R w_30) ⟨Try.prog, fun ch w => ∀ _ : List Value, R (.panicked ch) w, false⟩)))
theorem c102 (p0 : Int) (p1 : Int) (p2 : ByteArray) (p3 : Int) (p4 : Int) (p5 : ByteArray) (R : Ending → World → Prop) (w : World) (h : vc102 p0 p1 p2 p3 p4 p5 R w) : Calls Try.prog 102 #[(.agg #[(.int .i64 p0), (.int .i64 p1), (.string p2), (.int .i64 p3), (.int .i64 p4), (.string p5)])] w R :=
  calls_of_vc (A := { loops := [], pars := [], chs := [(2, (.q 0 (.q 1 (.q 2 (.q 3 (.q 4 (.q 5 (.q 6 (.q 7 (.q 8 (.q 9 (.q 10 (.q 11 (.q 12 (.q 13 (.q 14 (.q 15 (.q 16 (.e 17 .done)))))))))))))))))))] }) (Eq.mpr (show FnVc Try.prog { loops := [], pars := [], chs := [(2, (.q 0 (.q 1 (.q 2 (.q 3 (.q 4 (.q 5 (.q 6 (.q 7 (.q 8 (.q 9 (.q 10 (.q 11 (.q 12 (.q 13 (.q 14 (.q 15 (.q 16 (.e 17 .done)))))))))))))))))))] } 26 102 [(.agg #[(.int .i64 p0), (.int .i64 p1), (.string p2), (.int .i64 p3), (.int .i64 p4), (.string p5)])] R w = vc102 p0 p1 p2 p3 p4 p5 R w by kernel_rfl) h)

/-- (loupe/sum.pair).mod -/
def vc103 (p0 : Int) (p1 : Int) (p2 : ByteArray) (p3 : Int) (p4 : Int) (p5 : ByteArray) (R : Ending → World → Prop) (w : World) : Prop :=
 kBox (cR Try.prog R) w 101 (.agg #[(.int .i64 p0), (.int .i64 p1), (.string p2), (.int .i64 p3), (.int .i64 p4), (.string p5)]) fun v1 w_1 =>
 kAlloc (cR Try.prog R) w_1 49 fun v2 w_2 =>
 kFa (cR Try.prog R) w_2 101 v1 1 fun v3 w_3 =>
 kFa (cR Try.prog R) w_3 49 v3 1 fun v4 w_4 =>
 kLoad (cR Try.prog R) w_4 2 v4 fun v5 w_5 =>
 kEq (cR Try.prog R) w_5 .neq 2 (.tmp 5) (.const (.int .i64 0)) v5 (.int .i64 0) fun v6 w_6 =>
 kCall (cR Try.prog R) w_6 54 #[v6, (.int .i64 121)] fun v7 w_7 =>
 kFa (cR Try.prog R) w_7 101 v1 0 fun v8 w_8 =>
 kFa (cR Try.prog R) w_8 49 v8 1 fun v9 w_9 =>
 kLoad (cR Try.prog R) w_9 2 v9 fun v10 w_10 =>
 kFa (cR Try.prog R) w_10 101 v1 1 fun v11 w_11 =>
 kFa (cR Try.prog R) w_11 49 v11 1 fun v12 w_12 =>
 kLoad (cR Try.prog R) w_12 2 v12 fun v13 w_13 =>
 kBin (cR Try.prog R) w_13 .rem 2 v10 v13 fun v14 w_14 =>
 kCall (cR Try.prog R) w_14 129 #[v14, (.bool true)] fun v15 w_15 =>
 kStore (cR Try.prog R) w_15 49 v2 v15 fun w_16 =>
 RetK Try.prog [.cell v2 49] R w_16
theorem c103 (p0 : Int) (p1 : Int) (p2 : ByteArray) (p3 : Int) (p4 : Int) (p5 : ByteArray) (R : Ending → World → Prop) (w : World) (h : vc103 p0 p1 p2 p3 p4 p5 R w) : Calls Try.prog 103 #[(.agg #[(.int .i64 p0), (.int .i64 p1), (.string p2), (.int .i64 p3), (.int .i64 p4), (.string p5)])] w R :=
  calls_of_vc (A := { loops := [], pars := [] }) (Eq.mpr (show FnVc Try.prog { loops := [], pars := [] } 16 103 [(.agg #[(.int .i64 p0), (.int .i64 p1), (.string p2), (.int .i64 p3), (.int .i64 p4), (.string p5)])] R w = vc103 p0 p1 p2 p3 p4 p5 R w by kernel_rfl) h)

/-- (loupe/sum.pair).neg -/
def vc104 (p0 : Int) (p1 : Int) (p2 : ByteArray) (p3 : Int) (p4 : Int) (p5 : ByteArray) (R : Ending → World → Prop) (w : World) : Prop :=
 kBox (cR Try.prog R) w 101 (.agg #[(.int .i64 p0), (.int .i64 p1), (.string p2), (.int .i64 p3), (.int .i64 p4), (.string p5)]) fun v1 w_1 =>
 kAlloc (cR Try.prog R) w_1 49 fun v2 w_2 =>
 kFa (cR Try.prog R) w_2 101 v1 0 fun v3 w_3 =>
 kLoad (cR Try.prog R) w_3 49 v3 fun v4 w_4 =>
 kBuild (cR Try.prog R) w_4 101 #[(1, v4)] fun v5 w_5 =>
 kCall (cR Try.prog R) w_5 100 #[v5] fun v6 w_6 =>
 kStore (cR Try.prog R) w_6 49 v2 v6 fun w_7 =>
 RetK Try.prog [.cell v2 49] R w_7
theorem c104 (p0 : Int) (p1 : Int) (p2 : ByteArray) (p3 : Int) (p4 : Int) (p5 : ByteArray) (R : Ending → World → Prop) (w : World) (h : vc104 p0 p1 p2 p3 p4 p5 R w) : Calls Try.prog 104 #[(.agg #[(.int .i64 p0), (.int .i64 p1), (.string p2), (.int .i64 p3), (.int .i64 p4), (.string p5)])] w R :=
  calls_of_vc (A := { loops := [], pars := [] }) (Eq.mpr (show FnVc Try.prog { loops := [], pars := [] } 7 104 [(.agg #[(.int .i64 p0), (.int .i64 p1), (.string p2), (.int .i64 p3), (.int .i64 p4), (.string p5)])] R w = vc104 p0 p1 p2 p3 p4 p5 R w by kernel_rfl) h)

/-- (loupe/sum.pair).abs -/
def vc105 (p0 : Int) (p1 : Int) (p2 : ByteArray) (p3 : Int) (p4 : Int) (p5 : ByteArray) (R : Ending → World → Prop) (w : World) : Prop :=
 kBox (cR Try.prog R) w 101 (.agg #[(.int .i64 p0), (.int .i64 p1), (.string p2), (.int .i64 p3), (.int .i64 p4), (.string p5)]) fun v1 w_1 =>
 kAlloc (cR Try.prog R) w_1 49 fun v2 w_2 =>
 kFa (cR Try.prog R) w_2 101 v1 0 fun v3 w_3 =>
 kFa (cR Try.prog R) w_3 49 v3 1 fun v4 w_4 =>
 kLoad (cR Try.prog R) w_4 2 v4 fun v5 w_5 =>
 kBin (cR Try.prog R) w_5 .lss 2 v5 (.int .i64 0) fun v6 w_6 =>
 kIf v6 (
 kLoad (cR Try.prog R) w_6 101 v1 fun v7 w_7 =>
 kCall (cR Try.prog R) w_7 104 #[v7] fun v8 w_8 =>
 kStore (cR Try.prog R) w_8 49 v2 v8 fun w_9 =>
 RetK Try.prog [.cell v2 49] R w_9) (
 kFa (cR Try.prog R) w_6 101 v1 0 fun v9 w_10 =>
 kLoad (cR Try.prog R) w_10 49 v9 fun v10 w_11 =>
 kStore (cR Try.prog R) w_11 49 v2 v10 fun w_12 =>
 RetK Try.prog [.cell v2 49] R w_12)
theorem c105 (p0 : Int) (p1 : Int) (p2 : ByteArray) (p3 : Int) (p4 : Int) (p5 : ByteArray) (R : Ending → World → Prop) (w : World) (h : vc105 p0 p1 p2 p3 p4 p5 R w) : Calls Try.prog 105 #[(.agg #[(.int .i64 p0), (.int .i64 p1), (.string p2), (.int .i64 p3), (.int .i64 p4), (.string p5)])] w R :=
  calls_of_vc (A := { loops := [], pars := [] }) (Eq.mpr (show FnVc Try.prog { loops := [], pars := [] } 11 105 [(.agg #[(.int .i64 p0), (.int .i64 p1), (.string p2), (.int .i64 p3), (.int .i64 p4), (.string p5)])] R w = vc105 p0 p1 p2 p3 p4 p5 R w by kernel_rfl) h)

/-- (loupe/sum.pair).cat -/
def vc106 (p0 : Int) (p1 : Int) (p2 : ByteArray) (p3 : Int) (p4 : Int) (p5 : ByteArray) (R : Ending → World → Prop) (w : World) : Prop :=
 kBox (cR Try.prog R) w 101 (.agg #[(.int .i64 p0), (.int .i64 p1), (.string p2), (.int .i64 p3), (.int .i64 p4), (.string p5)]) fun v1 w_1 =>
 kAlloc (cR Try.prog R) w_1 49 fun v2 w_2 =>
 kFa (cR Try.prog R) w_2 101 v1 0 fun v3 w_3 =>
 kFa (cR Try.prog R) w_3 49 v3 2 fun v4 w_4 =>
 kLoad (cR Try.prog R) w_4 9 v4 fun v5 w_5 =>
 kBlt (cR Try.prog R) w_5 .len #[9] 3 #[false] #[v5] fun v6 w_6 =>
 kFa (cR Try.prog R) w_6 101 v1 1 fun v7 w_7 =>
 kFa (cR Try.prog R) w_7 49 v7 2 fun v8 w_8 =>
 kLoad (cR Try.prog R) w_8 9 v8 fun v9 w_9 =>
 kBlt (cR Try.prog R) w_9 .len #[9] 3 #[false] #[v9] fun v10 w_10 =>
 kBin (cR Try.prog R) w_10 .add 3 v6 v10 fun v11 w_11 =>
 kBin (cR Try.prog R) w_11 .leq 3 v11 (.int .i64 1000) fun v12 w_12 =>
 kCall (cR Try.prog R) w_12 54 #[v12, (.int .i64 3)] fun v13 w_13 =>
 kDrawn true (
 kDrawn true (
 kFa (cQ Try.prog) w_13 101 v1 0 fun v14 w_14 =>
 kFa (cQ Try.prog) w_14 49 v14 0 fun v15 w_15 =>
 kLoad (cQ Try.prog) w_15 47 v15 fun v16 w_16 =>
 kFa (cQ Try.prog) w_16 101 v1 0 fun v17 w_17 =>
 kFa (cQ Try.prog) w_17 49 v17 2 fun v18 w_18 =>
 kLoad (cQ Try.prog) w_18 9 v18 fun v19 w_19 =>
 kFa (cQ Try.prog) w_19 101 v1 1 fun v20 w_20 =>
 kFa (cQ Try.prog) w_20 49 v20 2 fun v21 w_21 =>
 kLoad (cQ Try.prog) w_21 9 v21 fun v22 w_22 =>
 kDrew w_22 fun w_23 =>
 (fun (c : Cx) =>
 kBuildS c w_23 119 2 #[(0, v19), (1, v22)] fun v23 w_24 =>
 kFa (cQ Try.prog) w_24 101 v1 0 fun v14_1 w_25 =>
 kSame v14_1 v14 (
 kFa (cQ Try.prog) w_24 49 v14 0 fun v15_1 w_26 =>
 kSame v15_1 v15 (
 kLoad (cQ Try.prog) w_24 47 v15 fun v16_1 w_27 =>
 kSame v16_1 v16 (
 kDrew w_24 fun w_28 =>
 kCall c w_28 132 #[v23, (.string ⟨#[]⟩)] fun v24 w_29 =>
 kFa (cQ Try.prog) w_29 101 v1 0 fun v14_2 w_30 =>
 kSame v14_2 v14 (
 kFa (cQ Try.prog) w_29 49 v14 0 fun v15_2 w_31 =>
 kSame v15_2 v15 (
 kLoad (cQ Try.prog) w_29 47 v15 fun v16_2 w_32 =>
 kSame v16_2 v16 (
 kBuild (cQ Try.prog) w_29 49 #[(0, v16), (2, v24)] fun v25 w_33 =>
 kDrew w_33 fun w_34 =>
 kStore (cR Try.prog R) w_34 49 v2 v25 fun w_35 =>
 RetK Try.prog [.cell v2 49] R w_35))))))) ⟨Try.prog, fun ch w => ∀ _ : List Value, R (.panicked ch) w, false⟩))
theorem c106 (p0 : Int) (p1 : Int) (p2 : ByteArray) (p3 : Int) (p4 : Int) (p5 : ByteArray) (R : Ending → World → Prop) (w : World) (h : vc106 p0 p1 p2 p3 p4 p5 R w) : Calls Try.prog 106 #[(.agg #[(.int .i64 p0), (.int .i64 p1), (.string p2), (.int .i64 p3), (.int .i64 p4), (.string p5)])] w R :=
  calls_of_vc (A := { loops := [], pars := [], chs := [(2, (.q 0 (.q 1 (.q 2 (.q 3 (.q 4 (.q 5 (.q 6 (.q 7 (.q 8 (.e 9 (.e 10 (.q 11 .done)))))))))))))] }) (Eq.mpr (show FnVc Try.prog { loops := [], pars := [], chs := [(2, (.q 0 (.q 1 (.q 2 (.q 3 (.q 4 (.q 5 (.q 6 (.q 7 (.q 8 (.e 9 (.e 10 (.q 11 .done)))))))))))))] } 26 106 [(.agg #[(.int .i64 p0), (.int .i64 p1), (.string p2), (.int .i64 p3), (.int .i64 p4), (.string p5)])] R w = vc106 p0 p1 p2 p3 p4 p5 R w by kernel_rfl) h)

/-- (loupe/sum.pair).length -/
def vc107 (p0 : Int) (p1 : Int) (p2 : ByteArray) (p3 : Int) (p4 : Int) (p5 : ByteArray) (R : Ending → World → Prop) (w : World) : Prop :=
 kBox (cR Try.prog R) w 101 (.agg #[(.int .i64 p0), (.int .i64 p1), (.string p2), (.int .i64 p3), (.int .i64 p4), (.string p5)]) fun v1 w_1 =>
 kAlloc (cR Try.prog R) w_1 49 fun v2 w_2 =>
 kFa (cR Try.prog R) w_2 101 v1 0 fun v3 w_3 =>
 kFa (cR Try.prog R) w_3 49 v3 2 fun v4 w_4 =>
 kLoad (cR Try.prog R) w_4 9 v4 fun v5 w_5 =>
 kBlt (cR Try.prog R) w_5 .len #[9] 3 #[false] #[v5] fun v6 w_6 =>
 kCall (cR Try.prog R) w_6 129 #[v6, (.bool true)] fun v7 w_7 =>
 kStore (cR Try.prog R) w_7 49 v2 v7 fun w_8 =>
 RetK Try.prog [.cell v2 49] R w_8
theorem c107 (p0 : Int) (p1 : Int) (p2 : ByteArray) (p3 : Int) (p4 : Int) (p5 : ByteArray) (R : Ending → World → Prop) (w : World) (h : vc107 p0 p1 p2 p3 p4 p5 R w) : Calls Try.prog 107 #[(.agg #[(.int .i64 p0), (.int .i64 p1), (.string p2), (.int .i64 p3), (.int .i64 p4), (.string p5)])] w R :=
  calls_of_vc (A := { loops := [], pars := [] }) (Eq.mpr (show FnVc Try.prog { loops := [], pars := [] } 8 107 [(.agg #[(.int .i64 p0), (.int .i64 p1), (.string p2), (.int .i64 p3), (.int .i64 p4), (.string p5)])] R w = vc107 p0 p1 p2 p3 p4 p5 R w by kernel_rfl) h)

/-- loupe/louperef01.number -/
def vc108 (a : Int) (b : Int) (R : Ending → World → Prop) (w : World) : Prop :=
 kBin (cR Try.prog R) w .lss 2 (.int .i64 a) (.int .i64 b) fun v7 w_1 =>
 kIf v7 (
 R (.returned (.int .i64 (-1))) w_1) (
 kBin (cR Try.prog R) w_1 .gtr 2 (.int .i64 a) (.int .i64 b) fun v10 w_2 =>
 kIf v10 (
 R (.returned (.int .i64 1)) w_2) (
 R (.returned (.int .i64 0)) w_2))
theorem c108 (a : Int) (b : Int) (R : Ending → World → Prop) (w : World) (h : vc108 a b R w) : Calls Try.prog 108 #[(.int .i64 a), (.int .i64 b)] w R :=
  calls_of_vc (A := { loops := [], pars := [] }) (Eq.mpr (show FnVc Try.prog { loops := [], pars := [] } 11 108 [(.int .i64 a), (.int .i64 b)] R w = vc108 a b R w by kernel_rfl) h)

/-- loupe/louperef02.add -/
def vc109 (a : Int) (b : Int) (R : Ending → World → Prop) (w : World) : Prop :=
 kJn (fun J =>
 kBin (cR Try.prog R) w .gtr 2 (.int .i64 b) (.int .i64 0) fun v7 w_3 =>
 kIf v7 (
 kBin (cR Try.prog R) w_3 .sub 2 (.int .i64 9223372036854775807) (.int .i64 b) fun v11 w_4 =>
 kBin (cR Try.prog R) w_4 .gtr 2 (.int .i64 a) v11 fun v12 w_5 =>
 kIf v12 (
 kIf (.bool true) (
 R (.returned (.tuple #[(.int .i64 0), (.int .i64 122)])) w_5) (
 kD [] [] (J [] w_5))) (
 kBin (cR Try.prog R) w_5 .lss 2 (.int .i64 b) (.int .i64 0) fun v16 w_6 =>
 kIf v16 (
 kBin (cR Try.prog R) w_6 .sub 2 (.int .i64 (-9223372036854775808)) (.int .i64 b) fun v20 w_7 =>
 kBin (cR Try.prog R) w_7 .lss 2 (.int .i64 a) v20 fun v21 w_8 =>
 kIf v21 (
 R (.returned (.tuple #[(.int .i64 0), (.int .i64 122)])) w_8) (
 kD [] [] (J [] w_8))) (
 kIf (.bool false) (
 R (.returned (.tuple #[(.int .i64 0), (.int .i64 122)])) w_6) (
 kD [] [] (J [] w_6))))) (
 kBin (cR Try.prog R) w_3 .lss 2 (.int .i64 b) (.int .i64 0) fun v16_1 w_9 =>
 kIf v16_1 (
 kBin (cR Try.prog R) w_9 .sub 2 (.int .i64 (-9223372036854775808)) (.int .i64 b) fun v20_1 w_10 =>
 kBin (cR Try.prog R) w_10 .lss 2 (.int .i64 a) v20_1 fun v21_1 w_11 =>
 kIf v21_1 (
 R (.returned (.tuple #[(.int .i64 0), (.int .i64 122)])) w_11) (
 kD [] [] (J [] w_11))) (
 kIf (.bool false) (
 R (.returned (.tuple #[(.int .i64 0), (.int .i64 122)])) w_9) (
 kD [] [] (J [] w_9))))) (fun cs w_1 => ∀ ds : List Value,
 kBin (cR Try.prog R) w_1 .add 2 (.int .i64 a) (.int .i64 b) fun v26 w_2 =>
 R (.returned (.tuple #[v26, (.int .i64 0)])) w_2)
theorem c109 (a : Int) (b : Int) (R : Ending → World → Prop) (w : World) (h : vc109 a b R w) : Calls Try.prog 109 #[(.int .i64 a), (.int .i64 b)] w R :=
  calls_of_vc (A := { loops := [(1000003, [])], pars := [] }) (Eq.mpr (show FnVc Try.prog { loops := [(1000003, [])], pars := [] } 27 109 [(.int .i64 a), (.int .i64 b)] R w = vc109 a b R w by kernel_rfl) h)

/-- loupe/louperef02.sub -/
def vc110 (a : Int) (b : Int) (R : Ending → World → Prop) (w : World) : Prop :=
 kJn (fun J =>
 kBin (cR Try.prog R) w .gtr 2 (.int .i64 b) (.int .i64 0) fun v7 w_3 =>
 kIf v7 (
 kBin (cR Try.prog R) w_3 .add 2 (.int .i64 (-9223372036854775808)) (.int .i64 b) fun v11 w_4 =>
 kBin (cR Try.prog R) w_4 .lss 2 (.int .i64 a) v11 fun v12 w_5 =>
 kIf v12 (
 kIf (.bool true) (
 R (.returned (.tuple #[(.int .i64 0), (.int .i64 122)])) w_5) (
 kD [] [] (J [] w_5))) (
 kBin (cR Try.prog R) w_5 .lss 2 (.int .i64 b) (.int .i64 0) fun v16 w_6 =>
 kIf v16 (
 kBin (cR Try.prog R) w_6 .add 2 (.int .i64 9223372036854775807) (.int .i64 b) fun v20 w_7 =>
 kBin (cR Try.prog R) w_7 .gtr 2 (.int .i64 a) v20 fun v21 w_8 =>
 kIf v21 (
 R (.returned (.tuple #[(.int .i64 0), (.int .i64 122)])) w_8) (
 kD [] [] (J [] w_8))) (
 kIf (.bool false) (
 R (.returned (.tuple #[(.int .i64 0), (.int .i64 122)])) w_6) (
 kD [] [] (J [] w_6))))) (
 kBin (cR Try.prog R) w_3 .lss 2 (.int .i64 b) (.int .i64 0) fun v16_1 w_9 =>
 kIf v16_1 (
 kBin (cR Try.prog R) w_9 .add 2 (.int .i64 9223372036854775807) (.int .i64 b) fun v20_1 w_10 =>
 kBin (cR Try.prog R) w_10 .gtr 2 (.int .i64 a) v20_1 fun v21_1 w_11 =>
 kIf v21_1 (
 R (.returned (.tuple #[(.int .i64 0), (.int .i64 122)])) w_11) (
 kD [] [] (J [] w_11))) (
 kIf (.bool false) (
 R (.returned (.tuple #[(.int .i64 0), (.int .i64 122)])) w_9) (
 kD [] [] (J [] w_9))))) (fun cs w_1 => ∀ ds : List Value,
 kBin (cR Try.prog R) w_1 .sub 2 (.int .i64 a) (.int .i64 b) fun v26 w_2 =>
 R (.returned (.tuple #[v26, (.int .i64 0)])) w_2)
theorem c110 (a : Int) (b : Int) (R : Ending → World → Prop) (w : World) (h : vc110 a b R w) : Calls Try.prog 110 #[(.int .i64 a), (.int .i64 b)] w R :=
  calls_of_vc (A := { loops := [(1000003, [])], pars := [] }) (Eq.mpr (show FnVc Try.prog { loops := [(1000003, [])], pars := [] } 27 110 [(.int .i64 a), (.int .i64 b)] R w = vc110 a b R w by kernel_rfl) h)

/-- loupe/louperef02.mul -/
def vc111 (a : Int) (b : Int) (R : Ending → World → Prop) (w : World) : Prop :=
 kJn (fun J =>
 kJn (fun J_1 =>
 kEq (cR Try.prog R) w .eql 2 (.tmp 7) (.const (.int .i64 0)) (.int .i64 a) (.int .i64 0) fun v8 w_27 =>
 kIf v8 (
 kD [] [] (J_1 [(.bool true)] w_27)) (
 kEq (cR Try.prog R) w_27 .eql 2 (.tmp 10) (.const (.int .i64 0)) (.int .i64 b) (.int .i64 0) fun v11 w_28 =>
 kD [] [] (J_1 [v11] w_28))) (fun cs_1 w_3 => ∀ ds_1 : List Value,
 (fun j6 =>
 kIf j6 (
 R (.returned (.tuple #[(.int .i64 0), (.int .i64 0)])) w_3) (
 kEq (cR Try.prog R) w_3 .eql 2 (.tmp 14) (.const (.int .i64 (-1))) (.int .i64 a) (.int .i64 (-1)) fun v15 w_4 =>
 kIf v15 (
 kCall (cR Try.prog R) w_4 110 #[(.int .i64 0), (.int .i64 b)] fun v17 w_5 =>
 kExt v17 0 fun v18 =>
 kExt v17 1 fun v19 =>
 R (.returned (.tuple #[v18, v19])) w_5) (
 kEq (cR Try.prog R) w_4 .eql 2 (.tmp 21) (.const (.int .i64 (-1))) (.int .i64 b) (.int .i64 (-1)) fun v22 w_6 =>
 kIf v22 (
 kCall (cR Try.prog R) w_6 110 #[(.int .i64 0), (.int .i64 a)] fun v24 w_7 =>
 kExt v24 0 fun v25 =>
 kExt v24 1 fun v26 =>
 R (.returned (.tuple #[v25, v26])) w_7) (
 kJn (fun J_2 =>
 kBin (cR Try.prog R) w_6 .gtr 2 (.int .i64 a) (.int .i64 0) fun v29 w_23 =>
 kIf v29 (
 kBin (cR Try.prog R) w_23 .gtr 2 (.int .i64 b) (.int .i64 0) fun v32 w_24 =>
 kIf v32 (
 kBin (cR Try.prog R) w_24 .quo 2 (.int .i64 9223372036854775807) (.int .i64 b) fun v37 w_25 =>
 kBin (cR Try.prog R) w_25 .gtr 2 (.int .i64 a) v37 fun v38 w_26 =>
 kD [] [] (J_2 [v38] w_26)) (
 kD [] [] (J_2 [(.bool false)] w_24))) (
 kD [] [] (J_2 [(.bool false)] w_23))) (fun cs_2 w_8 => ∀ ds_2 : List Value,
 (fun j27 =>
 kIf j27 (
 kIf j27 (
 R (.returned (.tuple #[(.int .i64 0), (.int .i64 122)])) w_8) (
 kD [] [] (J [] w_8))) (
 kJn (fun J_3 =>
 kBin (cR Try.prog R) w_8 .lss 2 (.int .i64 a) (.int .i64 0) fun v41 w_19 =>
 kIf v41 (
 kBin (cR Try.prog R) w_19 .lss 2 (.int .i64 b) (.int .i64 0) fun v44 w_20 =>
 kIf v44 (
 kBin (cR Try.prog R) w_20 .quo 2 (.int .i64 9223372036854775807) (.int .i64 b) fun v49 w_21 =>
 kBin (cR Try.prog R) w_21 .lss 2 (.int .i64 a) v49 fun v50 w_22 =>
 kD [] [] (J_3 [v50] w_22)) (
 kD [] [] (J_3 [(.bool false)] w_20))) (
 kD [] [] (J_3 [(.bool false)] w_19))) (fun cs_3 w_9 => ∀ ds_3 : List Value,
 (fun j27_1 =>
 kIf j27_1 (
 kIf j27_1 (
 R (.returned (.tuple #[(.int .i64 0), (.int .i64 122)])) w_9) (
 kD [] [] (J [] w_9))) (
 kJn (fun J_4 =>
 kBin (cR Try.prog R) w_9 .gtr 2 (.int .i64 a) (.int .i64 0) fun v53 w_15 =>
 kIf v53 (
 kBin (cR Try.prog R) w_15 .lss 2 (.int .i64 b) (.int .i64 0) fun v56 w_16 =>
 kIf v56 (
 kBin (cR Try.prog R) w_16 .quo 2 (.int .i64 (-9223372036854775808)) (.int .i64 a) fun v61 w_17 =>
 kBin (cR Try.prog R) w_17 .lss 2 (.int .i64 b) v61 fun v62 w_18 =>
 kD [] [] (J_4 [v62] w_18)) (
 kD [] [] (J_4 [(.bool false)] w_16))) (
 kD [] [] (J_4 [(.bool false)] w_15))) (fun cs_4 w_10 => ∀ ds_4 : List Value,
 (fun j27_2 =>
 kIf j27_2 (
 kIf j27_2 (
 R (.returned (.tuple #[(.int .i64 0), (.int .i64 122)])) w_10) (
 kD [] [] (J [] w_10))) (
 kBin (cR Try.prog R) w_10 .lss 2 (.int .i64 a) (.int .i64 0) fun v65 w_11 =>
 kIf v65 (
 kBin (cR Try.prog R) w_11 .gtr 2 (.int .i64 b) (.int .i64 0) fun v68 w_12 =>
 kIf v68 (
 kBin (cR Try.prog R) w_12 .quo 2 (.int .i64 (-9223372036854775808)) (.int .i64 b) fun v73 w_13 =>
 kBin (cR Try.prog R) w_13 .lss 2 (.int .i64 a) v73 fun v74 w_14 =>
 kIf v74 (
 R (.returned (.tuple #[(.int .i64 0), (.int .i64 122)])) w_14) (
 kD [] [] (J [] w_14))) (
 kIf (.bool false) (
 R (.returned (.tuple #[(.int .i64 0), (.int .i64 122)])) w_12) (
 kD [] [] (J [] w_12)))) (
 kIf (.bool false) (
 R (.returned (.tuple #[(.int .i64 0), (.int .i64 122)])) w_11) (
 kD [] [] (J [] w_11))))) (cs_4.getD 0 undef)))) (cs_3.getD 0 undef)))) (cs_2.getD 0 undef)))))) (cs_1.getD 0 undef))) (fun cs w_1 => ∀ ds : List Value,
 kBin (cR Try.prog R) w_1 .mul 2 (.int .i64 a) (.int .i64 b) fun v78 w_2 =>
 R (.returned (.tuple #[v78, (.int .i64 0)])) w_2)
theorem c111 (a : Int) (b : Int) (R : Ending → World → Prop) (w : World) (h : vc111 a b R w) : Calls Try.prog 111 #[(.int .i64 a), (.int .i64 b)] w R :=
  calls_of_vc (A := { loops := [(1000012, []), (1000010, [27]), (1000009, [27]), (1000008, [27]), (1000002, [6])], pars := [] }) (Eq.mpr (show FnVc Try.prog { loops := [(1000012, []), (1000010, [27]), (1000009, [27]), (1000008, [27]), (1000002, [6])], pars := [] } 79 111 [(.int .i64 a), (.int .i64 b)] R w = vc111 a b R w by kernel_rfl) h)

/-- slices.Values[[]loupe/api.Value,loupe/api.Value]$1 -/
def vc112 (yield : Value) (f0 : Value) (R : Ending → World → Prop) (w : World) : Prop :=
 kLoad (cR Try.prog R) w 22 f0 fun v5 w_1 =>
 kBlt (cR Try.prog R) w_1 .len #[22] 3 #[false] #[v5] fun v6 w_2 =>
 kLoopF [(.int .i64 0)] w_2 fun cs ds w_3 N =>
 (fun x7 =>
 kBin (cR Try.prog R) w_3 .lss 3 x7 v6 fun v8 w_4 =>
 kIf v8 (
 kIa (cR Try.prog R) w_4 22 v5 x7 fun v9 w_5 =>
 kLoad (cR Try.prog R) w_5 49 v9 fun v10 w_6 =>
 kAlloc (cR Try.prog R) w_6 49 fun v4 w_7 =>
 kStore (cR Try.prog R) w_7 49 v4 v10 fun w_8 =>
 kLoad (cR Try.prog R) w_8 49 v4 fun v12 w_9 =>
 kCallV (cR Try.prog R) w_9 yield #[v12] fun v13 w_10 =>
 kUn (cR Try.prog R) w_10 .not v13 fun v14 w_11 =>
 kIf v14 (
 R (.returned (.tuple #[])) w_11) (
 kBin (cR Try.prog R) w_11 .add 3 x7 (.int .i64 1) fun v15 w_12 =>
 kD [] [] (N [v15] w_12))) (
 R (.returned (.tuple #[])) w_4)) (cs.getD 0 undef)
theorem c112 (yield : Value) (f0 : Value) (R : Ending → World → Prop) (w : World) (h : vc112 yield f0 R w) : Calls Try.prog 112 #[yield, f0] w R :=
  calls_of_vc (A := { loops := [(0, [7])], pars := [] }) (Eq.mpr (show FnVc Try.prog { loops := [(0, [7])], pars := [] } 16 112 [yield, f0] R w = vc112 yield f0 R w by kernel_rfl) h)

/-- loupe/row.laid$1 -/
def vc113 (v0 : Int) (v1 : Int) (v2 : ByteArray) (R : Ending → World → Prop) (w : World) : Prop :=
 kBox (cR Try.prog R) w 49 (.agg #[(.int .i64 v0), (.int .i64 v1), (.string v2)]) fun v1_1 w_1 =>
 kFa (cR Try.prog R) w_1 49 v1_1 2 fun v3 w_2 =>
 kLoad (cR Try.prog R) w_2 9 v3 fun v4 w_3 =>
 kCall (cR Try.prog R) w_3 114 #[v4] fun v5 w_4 =>
 R (.returned v5) w_4
theorem c113 (v0 : Int) (v1 : Int) (v2 : ByteArray) (R : Ending → World → Prop) (w : World) (h : vc113 v0 v1 v2 R w) : Calls Try.prog 113 #[(.agg #[(.int .i64 v0), (.int .i64 v1), (.string v2)])] w R :=
  calls_of_vc (A := { loops := [], pars := [] }) (Eq.mpr (show FnVc Try.prog { loops := [], pars := [] } 6 113 [(.agg #[(.int .i64 v0), (.int .i64 v1), (.string v2)])] R w = vc113 v0 v1 v2 R w by kernel_rfl) h)

/-- loupe/octet.String -/
def vc114 (s : ByteArray) (R : Ending → World → Prop) (w : World) : Prop :=
 kBlt (cR Try.prog R) w .len #[9] 3 #[false] #[(.string s)] fun v4 w_1 =>
 kConv (cR Try.prog R) w_1 3 84 v4 fun v5 w_2 =>
 kCall (cR Try.prog R) w_2 77 #[v5] fun v6 w_3 =>
 kBlt (cR Try.prog R) w_3 .append #[38, 9] 38 #[false, false] #[v6, (.string s)] fun v8 w_4 =>
 R (.returned v8) w_4
theorem c114 (s : ByteArray) (R : Ending → World → Prop) (w : World) (h : vc114 s R w) : Calls Try.prog 114 #[(.string s)] w R :=
  calls_of_vc (A := { loops := [], pars := [] }) (Eq.mpr (show FnVc Try.prog { loops := [], pars := [] } 9 114 [(.string s)] R w = vc114 s R w by kernel_rfl) h)

/-- loupe/row.laid$2 -/
def vc115 (a0 : Int) (a1 : Int) (a2 : ByteArray) (R : Ending → World → Prop) (w : World) : Prop :=
 kBox (cR Try.prog R) w 49 (.agg #[(.int .i64 a0), (.int .i64 a1), (.string a2)]) fun v1 w_1 =>
 R (.returned (.slice none 0 0)) w_1
theorem c115 (a0 : Int) (a1 : Int) (a2 : ByteArray) (R : Ending → World → Prop) (w : World) (h : vc115 a0 a1 a2 R w) : Calls Try.prog 115 #[(.agg #[(.int .i64 a0), (.int .i64 a1), (.string a2)])] w R :=
  calls_of_vc (A := { loops := [], pars := [] }) (Eq.mpr (show FnVc Try.prog { loops := [], pars := [] } 3 115 [(.agg #[(.int .i64 a0), (.int .i64 a1), (.string a2)])] R w = vc115 a0 a1 a2 R w by kernel_rfl) h)

/-- loupe/row.laid$3 -/
def vc116 (v0 : Int) (v1 : Int) (v2 : ByteArray) (R : Ending → World → Prop) (w : World) : Prop :=
 kBox (cR Try.prog R) w 49 (.agg #[(.int .i64 v0), (.int .i64 v1), (.string v2)]) fun v1_1 w_1 =>
 kFa (cR Try.prog R) w_1 49 v1_1 1 fun v3 w_2 =>
 kLoad (cR Try.prog R) w_2 2 v3 fun v4 w_3 =>
 kConv (cR Try.prog R) w_3 2 5 v4 fun v5 w_4 =>
 kBuildS (cR Try.prog R) w_4 38 1 #[(0, v5)] fun v6 w_5 =>
 R (.returned v6) w_5
theorem c116 (v0 : Int) (v1 : Int) (v2 : ByteArray) (R : Ending → World → Prop) (w : World) (h : vc116 v0 v1 v2 R w) : Calls Try.prog 116 #[(.agg #[(.int .i64 v0), (.int .i64 v1), (.string v2)])] w R :=
  calls_of_vc (A := { loops := [], pars := [] }) (Eq.mpr (show FnVc Try.prog { loops := [], pars := [] } 7 116 [(.agg #[(.int .i64 v0), (.int .i64 v1), (.string v2)])] R w = vc116 v0 v1 v2 R w by kernel_rfl) h)

/-- loupe/row.laid$4 -/
def vc117 (v0 : Int) (v1 : Int) (v2 : ByteArray) (R : Ending → World → Prop) (w : World) : Prop :=
 kBox (cR Try.prog R) w 49 (.agg #[(.int .i64 v0), (.int .i64 v1), (.string v2)]) fun v1_1 w_1 =>
 kFa (cR Try.prog R) w_1 49 v1_1 1 fun v3 w_2 =>
 kLoad (cR Try.prog R) w_2 2 v3 fun v4 w_3 =>
 kBin (cR Try.prog R) w_3 .shl 2 v4 (.int .u64 1) fun v5 w_4 =>
 kConv (cR Try.prog R) w_4 2 84 v5 fun v6 w_5 =>
 kFa (cR Try.prog R) w_5 49 v1_1 1 fun v7 w_6 =>
 kLoad (cR Try.prog R) w_6 2 v7 fun v8 w_7 =>
 kBin (cR Try.prog R) w_7 .shr 2 v8 (.int .u64 63) fun v9 w_8 =>
 kConv (cR Try.prog R) w_8 2 84 v9 fun v10 w_9 =>
 kBin (cR Try.prog R) w_9 .xor 84 v6 v10 fun v11 w_10 =>
 kCall (cR Try.prog R) w_10 77 #[v11] fun v12 w_11 =>
 R (.returned v12) w_11
theorem c117 (v0 : Int) (v1 : Int) (v2 : ByteArray) (R : Ending → World → Prop) (w : World) (h : vc117 v0 v1 v2 R w) : Calls Try.prog 117 #[(.agg #[(.int .i64 v0), (.int .i64 v1), (.string v2)])] w R :=
  calls_of_vc (A := { loops := [], pars := [] }) (Eq.mpr (show FnVc Try.prog { loops := [], pars := [] } 13 117 [(.agg #[(.int .i64 v0), (.int .i64 v1), (.string v2)])] R w = vc117 v0 v1 v2 R w by kernel_rfl) h)

/-- (*loupe/octet.left).has -/
def vc118 (l : Value) (n : Int) (R : Ending → World → Prop) (w : World) : Prop :=
 kNil (cR Try.prog R) w l fun v7 w_1 =>
 kFa (cR Try.prog R) w_1 153 v7 0 fun v8 w_2 =>
 kLoad (cR Try.prog R) w_2 38 v8 fun v9 w_3 =>
 kBlt (cR Try.prog R) w_3 .len #[38] 3 #[false] #[v9] fun v10 w_4 =>
 kConv (cR Try.prog R) w_4 3 84 v10 fun v11 w_5 =>
 kBin (cR Try.prog R) w_5 .leq 84 (.int .u64 n) v11 fun v12 w_6 =>
 R (.returned v12) w_6
theorem c118 (l : Value) (n : Int) (R : Ending → World → Prop) (w : World) (h : vc118 l n R w) : Calls Try.prog 118 #[l, (.int .u64 n)] w R :=
  calls_of_vc (A := { loops := [], pars := [] }) (Eq.mpr (show FnVc Try.prog { loops := [], pars := [] } 13 118 [l, (.int .u64 n)] R w = vc118 l n R w by kernel_rfl) h)

/-- (*loupe/octet.left).take -/
def vc119 (l : Value) (n : Int) (R : Ending → World → Prop) (w : World) : Prop :=
 kNil (cR Try.prog R) w l fun v7 w_1 =>
 kFa (cR Try.prog R) w_1 153 v7 0 fun v8 w_2 =>
 kLoad (cR Try.prog R) w_2 38 v8 fun v9 w_3 =>
 kSl (cR Try.prog R) w_3 38 v9 none (some (.int .i64 n)) (some (.int .i64 n)) fun v12 w_4 =>
 kNil (cR Try.prog R) w_4 l fun v15 w_5 =>
 kFa (cR Try.prog R) w_5 153 v15 0 fun v16 w_6 =>
 kLoad (cR Try.prog R) w_6 38 v16 fun v17 w_7 =>
 kSl (cR Try.prog R) w_7 38 v17 (some (.int .i64 n)) none none fun v19 w_8 =>
 kNil (cR Try.prog R) w_8 l fun v20 w_9 =>
 kFa (cR Try.prog R) w_9 153 v20 0 fun v21 w_10 =>
 kStore (cR Try.prog R) w_10 38 v21 v19 fun w_11 =>
 R (.returned v12) w_11
theorem c119 (l : Value) (n : Int) (R : Ending → World → Prop) (w : World) (h : vc119 l n R w) : Calls Try.prog 119 #[l, (.int .i64 n)] w R :=
  calls_of_vc (A := { loops := [], pars := [] }) (Eq.mpr (show FnVc Try.prog { loops := [], pars := [] } 23 119 [l, (.int .i64 n)] R w = vc119 l n R w by kernel_rfl) h)

/-- loupe/value.must -/
def vc120 (fine : Bool) (eA : Int) (R : Ending → World → Prop) (w : World) : Prop :=
 kUn (cR Try.prog R) w .not (.bool fine) fun v5 w_1 =>
 kIf v5 (
 kMkI (cR Try.prog R) w_1 28 (.int .i64 eA) fun v7 w_2 =>
 kPanic (cR Try.prog R) w_2 v7) (
 R (.returned (.tuple #[])) w_1)
theorem c120 (fine : Bool) (eA : Int) (R : Ending → World → Prop) (w : World) (h : vc120 fine eA R w) : Calls Try.prog 120 #[(.bool fine), (.int .i64 eA)] w R :=
  calls_of_vc (A := { loops := [], pars := [] }) (Eq.mpr (show FnVc Try.prog { loops := [], pars := [] } 8 120 [(.bool fine), (.int .i64 eA)] R w = vc120 fine eA R w by kernel_rfl) h)

/-- slices.Values[[]loupe/api.Type,loupe/api.Type] -/
def vc121 (s : Option Addr) (sn : Nat) (sc : Nat) (R : Ending → World → Prop) (w : World) : Prop :=
 kBox (cR Try.prog R) w 24 (.slice s sn sc) fun v1 w_1 =>
 R (.returned (.func (.func 133) #[] #[v1])) w_1
theorem c121 (s : Option Addr) (sn : Nat) (sc : Nat) (R : Ending → World → Prop) (w : World) (h : vc121 s sn sc R w) : Calls Try.prog 121 #[(.slice s sn sc)] w R :=
  calls_of_vc (A := { loops := [], pars := [] }) (Eq.mpr (show FnVc Try.prog { loops := [], pars := [] } 4 121 [(.slice s sn sc)] R w = vc121 s sn sc R w by kernel_rfl) h)

/-- loupe/value.folded[loupe/api.Truth] -/
def vc122 (fromA : Int) (withA : Value) (l : Option Addr) (ln : Nat) (lc : Nat) (R : Ending → World → Prop) (w : World) : Prop :=
 kBox (cR Try.prog R) w 142 (.int .i64 fromA) fun v3 w_1 =>
 kBox (cR Try.prog R) w_1 162 withA fun v4 w_2 =>
 kCall (cR Try.prog R) w_2 134 #[(.slice l ln lc)] fun v9 w_3 =>
 kRange Try.prog none w_3 v9 1 (fun l_1 D args w_4 Rr =>
 (fun p10 =>
 rndMid l_1 D w_4 w_4 fun lo w_5 =>
 (fun (c : Cx) =>
 kLoad c w_5 162 v4 fun v11 w_6 =>
 kLoad c w_6 142 v3 fun v12 w_7 =>
 kCallV c w_7 v11 #[v12, p10] fun v14 w_8 =>
 kStore c w_8 142 v3 v14 fun w_9 =>
 rndEnd l_1 D lo w_4 Rr .normal [] w_9) ⟨Try.prog, fun ch w => rndEnd l_1 D lo w_4 Rr (.panic ch) [] w, false⟩) (args.getD 0 undef))
  (fun D_1 w_10 =>
 (fun (c_1 : Cx) =>
 kLoad c_1 w_10 142 v3 fun v15 w_11 =>
 Lv Try.prog [.val v15] R [markOf D_1] .returning w_11) ⟨Try.prog, fun ch w => Lv Try.prog [.val (.int .i64 0)] R [markOf D_1] (.panicking ch) w, false⟩)
  (fun _ _ => False)
  (fun _ _ _ => False)
  (fun D_1 ch w_14 => (fun ch w => Lv Try.prog [.val (.int .i64 0)] R [markOf D_1] (.panicking ch) w) ch w_14)
theorem c122 (fromA : Int) (withA : Value) (l : Option Addr) (ln : Nat) (lc : Nat) (R : Ending → World → Prop) (w : World) (h : vc122 fromA withA l ln lc R w) : Calls Try.prog 122 #[(.int .i64 fromA), withA, (.slice l ln lc)] w R :=
  calls_of_vc (A := { loops := [], pars := [] }) (Eq.mpr (show FnVc Try.prog { loops := [], pars := [] } 16 122 [(.int .i64 fromA), withA, (.slice l ln lc)] R w = vc122 fromA withA l ln lc R w by kernel_rfl) h)

/-- loupe/value.And$1 -/
def vc123 (a : Int) (b : Int) (R : Ending → World → Prop) (w : World) : Prop :=
 kJn (fun J =>
 kEq (cR Try.prog R) w .eql 142 (.tmp 5) (.const (.int .i64 0)) (.int .i64 a) (.int .i64 0) fun v6 w_4 =>
 kIf v6 (
 kIf (.bool true) (
 R (.returned (.int .i64 0)) w_4) (
 kD [] [] (J [] w_4))) (
 kEq (cR Try.prog R) w_4 .eql 142 (.tmp 8) (.const (.int .i64 0)) (.int .i64 b) (.int .i64 0) fun v9 w_5 =>
 kIf v9 (
 R (.returned (.int .i64 0)) w_5) (
 kD [] [] (J [] w_5)))) (fun cs w_1 => ∀ ds : List Value,
 kEq (cR Try.prog R) w_1 .eql 142 (.tmp 11) (.const (.int .i64 1)) (.int .i64 a) (.int .i64 1) fun v12 w_2 =>
 kIf v12 (
 kEq (cR Try.prog R) w_2 .eql 142 (.tmp 14) (.const (.int .i64 1)) (.int .i64 b) (.int .i64 1) fun v15 w_3 =>
 kIf v15 (
 R (.returned (.int .i64 1)) w_3) (
 R (.returned (.int .i64 2)) w_3)) (
 kIf (.bool false) (
 R (.returned (.int .i64 1)) w_2) (
 R (.returned (.int .i64 2)) w_2)))
theorem c123 (a : Int) (b : Int) (R : Ending → World → Prop) (w : World) (h : vc123 a b R w) : Calls Try.prog 123 #[(.int .i64 a), (.int .i64 b)] w R :=
  calls_of_vc (A := { loops := [(1000003, [])], pars := [] }) (Eq.mpr (show FnVc Try.prog { loops := [(1000003, [])], pars := [] } 17 123 [(.int .i64 a), (.int .i64 b)] R w = vc123 a b R w by kernel_rfl) h)

/-- loupe/value.Or$1 -/
def vc124 (a : Int) (b : Int) (R : Ending → World → Prop) (w : World) : Prop :=
 kCall (cR Try.prog R) w 97 #[(.int .i64 b)] fun v7 w_1 =>
 kBuildS (cR Try.prog R) w_1 160 2 #[(0, (.int .i64 a)), (1, v7)] fun v8 w_2 =>
 kCall (cR Try.prog R) w_2 95 #[v8] fun v9 w_3 =>
 R (.returned v9) w_3
theorem c124 (a : Int) (b : Int) (R : Ending → World → Prop) (w : World) (h : vc124 a b R w) : Calls Try.prog 124 #[(.int .i64 a), (.int .i64 b)] w R :=
  calls_of_vc (A := { loops := [], pars := [] }) (Eq.mpr (show FnVc Try.prog { loops := [], pars := [] } 10 124 [(.int .i64 a), (.int .i64 b)] R w = vc124 a b R w by kernel_rfl) h)

/-- cmp.Or[int] -/
def vc125 (vals : Option Addr) (valsn : Nat) (valsc : Nat) (R : Ending → World → Prop) (w : World) : Prop :=
 kBlt (cR Try.prog R) w .len #[23] 3 #[false] #[(.slice vals valsn valsc)] fun v7 w_1 =>
 kLoopF [(.int .i64 0)] w_1 fun cs ds w_2 N =>
 (fun x8 =>
 kBin (cR Try.prog R) w_2 .lss 3 x8 v7 fun v9 w_3 =>
 kIf v9 (
 kIa (cR Try.prog R) w_3 23 (.slice vals valsn valsc) x8 fun v10 w_4 =>
 kLoad (cR Try.prog R) w_4 3 v10 fun v11 w_5 =>
 kEq (cR Try.prog R) w_5 .neq 3 (.tmp 12) (.tmp 13) v11 (.int .i64 0) fun v14 w_6 =>
 kIf v14 (
 R (.returned v11) w_6) (
 kBin (cR Try.prog R) w_6 .add 3 x8 (.int .i64 1) fun v16 w_7 =>
 kD [] [] (N [v16] w_7))) (
 R (.returned (.int .i64 0)) w_3)) (cs.getD 0 undef)
theorem c125 (vals : Option Addr) (valsn : Nat) (valsc : Nat) (R : Ending → World → Prop) (w : World) (h : vc125 vals valsn valsc R w) : Calls Try.prog 125 #[(.slice vals valsn valsc)] w R :=
  calls_of_vc (A := { loops := [(0, [8])], pars := [] }) (Eq.mpr (show FnVc Try.prog { loops := [(0, [8])], pars := [] } 18 125 [(.slice vals valsn valsc)] R w = vc125 vals valsn valsc R w by kernel_rfl) h)

end Go.L
