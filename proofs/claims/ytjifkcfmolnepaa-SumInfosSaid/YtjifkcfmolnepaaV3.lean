/- What is to be shown of single functions, printed by a program and compared with the translation by the kernel: no condition. -/
import Derived.Test.YtjifkcfmolnepaaA1
import Derived.Test.YtjifkcfmolnepaaProg
set_option linter.unusedVariables false
set_option linter.unusedSimpArgs false
namespace Go.L
open Go Go.RowKit Go.Proofs
set_option maxRecDepth 100000
set_option linter.unusedVariables false

/-- cmp.Compare[loupe/api.ValueKind] -/
def vc126 (x : Int) (y : Int) (R : Ending → World → Prop) (w : World) : Prop :=
 kCall (cR Try.prog R) w 135 #[(.int .i64 x)] fun v8 w_1 =>
 kCall (cR Try.prog R) w_1 135 #[(.int .i64 y)] fun v10 w_2 =>
 kIf v8 (
 kIf v10 (
 R (.returned (.int .i64 0)) w_2) (
 R (.returned (.int .i64 (-1))) w_2)) (
 kIf v10 (
 R (.returned (.int .i64 1)) w_2) (
 kBin (cR Try.prog R) w_2 .lss 47 (.int .i64 x) (.int .i64 y) fun v16 w_3 =>
 kIf v16 (
 R (.returned (.int .i64 (-1))) w_3) (
 kBin (cR Try.prog R) w_3 .gtr 47 (.int .i64 x) (.int .i64 y) fun v19 w_4 =>
 kIf v19 (
 R (.returned (.int .i64 1)) w_4) (
 R (.returned (.int .i64 0)) w_4))))
theorem c126 (x : Int) (y : Int) (R : Ending → World → Prop) (w : World) (h : vc126 x y R w) : Calls Try.prog 126 #[(.int .i64 x), (.int .i64 y)] w R :=
  calls_of_vc (A := { loops := [], pars := [] }) (Eq.mpr (show FnVc Try.prog { loops := [], pars := [] } 20 126 [(.int .i64 x), (.int .i64 y)] R w = vc126 x y R w by kernel_rfl) h)

/-- cmp.Compare[int64] -/
def vc127 (x : Int) (y : Int) (R : Ending → World → Prop) (w : World) : Prop :=
 kCall (cR Try.prog R) w 136 #[(.int .i64 x)] fun v8 w_1 =>
 kCall (cR Try.prog R) w_1 136 #[(.int .i64 y)] fun v10 w_2 =>
 kIf v8 (
 kIf v10 (
 R (.returned (.int .i64 0)) w_2) (
 R (.returned (.int .i64 (-1))) w_2)) (
 kIf v10 (
 R (.returned (.int .i64 1)) w_2) (
 kBin (cR Try.prog R) w_2 .lss 2 (.int .i64 x) (.int .i64 y) fun v16 w_3 =>
 kIf v16 (
 R (.returned (.int .i64 (-1))) w_3) (
 kBin (cR Try.prog R) w_3 .gtr 2 (.int .i64 x) (.int .i64 y) fun v19 w_4 =>
 kIf v19 (
 R (.returned (.int .i64 1)) w_4) (
 R (.returned (.int .i64 0)) w_4))))
theorem c127 (x : Int) (y : Int) (R : Ending → World → Prop) (w : World) (h : vc127 x y R w) : Calls Try.prog 127 #[(.int .i64 x), (.int .i64 y)] w R :=
  calls_of_vc (A := { loops := [], pars := [] }) (Eq.mpr (show FnVc Try.prog { loops := [], pars := [] } 20 127 [(.int .i64 x), (.int .i64 y)] R w = vc127 x y R w by kernel_rfl) h)

/-- cmp.Compare[string] -/
def vc128 (x : ByteArray) (y : ByteArray) (R : Ending → World → Prop) (w : World) : Prop :=
 kCall (cR Try.prog R) w 137 #[(.string x)] fun v8 w_1 =>
 kCall (cR Try.prog R) w_1 137 #[(.string y)] fun v10 w_2 =>
 kIf v8 (
 kIf v10 (
 R (.returned (.int .i64 0)) w_2) (
 R (.returned (.int .i64 (-1))) w_2)) (
 kIf v10 (
 R (.returned (.int .i64 1)) w_2) (
 kBin (cR Try.prog R) w_2 .lss 9 (.string x) (.string y) fun v16 w_3 =>
 kIf v16 (
 R (.returned (.int .i64 (-1))) w_3) (
 kBin (cR Try.prog R) w_3 .gtr 9 (.string x) (.string y) fun v19 w_4 =>
 kIf v19 (
 R (.returned (.int .i64 1)) w_4) (
 R (.returned (.int .i64 0)) w_4))))
theorem c128 (x : ByteArray) (y : ByteArray) (R : Ending → World → Prop) (w : World) (h : vc128 x y R w) : Calls Try.prog 128 #[(.string x), (.string y)] w R :=
  calls_of_vc (A := { loops := [], pars := [] }) (Eq.mpr (show FnVc Try.prog { loops := [], pars := [] } 20 128 [(.string x), (.string y)] R w = vc128 x y R w by kernel_rfl) h)

/-- loupe/sum.number -/
def vc129 (n : Int) (fits : Bool) (R : Ending → World → Prop) (w : World) : Prop :=
 kAlloc (cR Try.prog R) w 49 fun v4 w_1 =>
 kCall (cR Try.prog R) w_1 54 #[(.bool fits), (.int .i64 122)] fun v6 w_2 =>
 kBuild (cR Try.prog R) w_2 49 #[(0, (.int .i64 2)), (1, (.int .i64 n))] fun v8 w_3 =>
 kStore (cR Try.prog R) w_3 49 v4 v8 fun w_4 =>
 RetK Try.prog [.cell v4 49] R w_4
theorem c129 (n : Int) (fits : Bool) (R : Ending → World → Prop) (w : World) (h : vc129 n fits R w) : Calls Try.prog 129 #[(.int .i64 n), (.bool fits)] w R :=
  calls_of_vc (A := { loops := [], pars := [] }) (Eq.mpr (show FnVc Try.prog { loops := [], pars := [] } 9 129 [(.int .i64 n), (.bool fits)] R w = vc129 n fits R w by kernel_rfl) h)

/-- (loupe/sum.pair).mul$1 -/
def vc130 (n : Int) (R : Ending → World → Prop) (w : World) : Prop :=
 kBin (cR Try.prog R) w .lss 2 (.int .i64 n) (.int .i64 0) fun v4 w_1 =>
 kIf v4 (
 kConv (cR Try.prog R) w_1 2 84 (.int .i64 n) fun v6 w_2 =>
 kUn (cR Try.prog R) w_2 .neg v6 fun v7 w_3 =>
 R (.returned v7) w_3) (
 kConv (cR Try.prog R) w_1 2 84 (.int .i64 n) fun v9 w_4 =>
 R (.returned v9) w_4)
theorem c130 (n : Int) (R : Ending → World → Prop) (w : World) (h : vc130 n R w) : Calls Try.prog 130 #[(.int .i64 n)] w R :=
  calls_of_vc (A := { loops := [], pars := [] }) (Eq.mpr (show FnVc Try.prog { loops := [], pars := [] } 10 130 [(.int .i64 n)] R w = vc130 n R w by kernel_rfl) h)

/-- math/bits.Mul64 -/
def vc131 (x : Int) (y : Int) (R : Ending → World → Prop) (w : World) : Prop :=
 kBin (cR Try.prog R) w .and 84 (.int .u64 x) (.int .u64 4294967295) fun v15 w_1 =>
 kBin (cR Try.prog R) w_1 .shr 84 (.int .u64 x) (.int .u64 32) fun v17 w_2 =>
 kBin (cR Try.prog R) w_2 .and 84 (.int .u64 y) (.int .u64 4294967295) fun v19 w_3 =>
 kBin (cR Try.prog R) w_3 .shr 84 (.int .u64 y) (.int .u64 32) fun v21 w_4 =>
 kBin (cR Try.prog R) w_4 .mul 84 v15 v19 fun v24 w_5 =>
 kBin (cR Try.prog R) w_5 .mul 84 v17 v19 fun v27 w_6 =>
 kBin (cR Try.prog R) w_6 .shr 84 v24 (.int .u64 32) fun v29 w_7 =>
 kBin (cR Try.prog R) w_7 .add 84 v27 v29 fun v30 w_8 =>
 kBin (cR Try.prog R) w_8 .and 84 v30 (.int .u64 4294967295) fun v32 w_9 =>
 kBin (cR Try.prog R) w_9 .shr 84 v30 (.int .u64 32) fun v34 w_10 =>
 kBin (cR Try.prog R) w_10 .mul 84 v15 v21 fun v38 w_11 =>
 kBin (cR Try.prog R) w_11 .add 84 v32 v38 fun v39 w_12 =>
 kBin (cR Try.prog R) w_12 .mul 84 v17 v21 fun v42 w_13 =>
 kBin (cR Try.prog R) w_13 .add 84 v42 v34 fun v44 w_14 =>
 kBin (cR Try.prog R) w_14 .shr 84 v39 (.int .u64 32) fun v46 w_15 =>
 kBin (cR Try.prog R) w_15 .add 84 v44 v46 fun v47 w_16 =>
 kBin (cR Try.prog R) w_16 .mul 84 (.int .u64 x) (.int .u64 y) fun v50 w_17 =>
 R (.returned (.tuple #[v47, v50])) w_17
theorem c131 (x : Int) (y : Int) (R : Ending → World → Prop) (w : World) (h : vc131 x y R w) : Calls Try.prog 131 #[(.int .u64 x), (.int .u64 y)] w R :=
  calls_of_vc (A := { loops := [], pars := [] }) (Eq.mpr (show FnVc Try.prog { loops := [], pars := [] } 51 131 [(.int .u64 x), (.int .u64 y)] R w = vc131 x y R w by kernel_rfl) h)

/-- strings.Join -/
def vc132 (elems : Option Addr) (elemsn : Nat) (elemsc : Nat) (sep : ByteArray) (R : Ending → World → Prop) (w : World) : Prop :=
 kBlt (cR Try.prog R) w .len #[119] 3 #[false] #[(.slice elems elemsn elemsc)] fun v12 w_1 =>
 kEq (cR Try.prog R) w_1 .eql 3 (.tmp 12) (.const (.int .i64 0)) v12 (.int .i64 0) fun v14 w_2 =>
 kIf v14 (
 R (.returned (.string ⟨#[]⟩)) w_2) (
 kEq (cR Try.prog R) w_2 .eql 3 (.tmp 12) (.const (.int .i64 1)) v12 (.int .i64 1) fun v16 w_3 =>
 kIf v16 (
 kIa (cR Try.prog R) w_3 119 (.slice elems elemsn elemsc) (.int .i64 0) fun v18 w_4 =>
 kLoad (cR Try.prog R) w_4 9 v18 fun v19 w_5 =>
 R (.returned v19) w_5) (
 kJn (fun J =>
 kBlt (cR Try.prog R) w_3 .len #[9] 3 #[false] #[(.string sep)] fun v21 w_35 =>
 kBin (cR Try.prog R) w_35 .gtr 3 v21 (.int .i64 0) fun v22 w_36 =>
 kIf v22 (
 kJn (fun J_2 =>
 kBlt (cR Try.prog R) w_36 .len #[9] 3 #[false] #[(.string sep)] fun v24 w_43 =>
 kBlt (cR Try.prog R) w_43 .len #[119] 3 #[false] #[(.slice elems elemsn elemsc)] fun v26 w_44 =>
 kBin (cR Try.prog R) w_44 .sub 3 v26 (.int .i64 1) fun v27 w_45 =>
 kBin (cR Try.prog R) w_45 .quo 3 (.int .i64 9223372036854775807) v27 fun v28 w_46 =>
 kBin (cR Try.prog R) w_46 .geq 3 v24 v28 fun v29 w_47 =>
 kIf v29 (
 kMkI (cR Try.prog R) w_47 9 (.string ⟨#[115, 116, 114, 105, 110, 103, 115, 58, 32, 74, 111, 105, 110, 32, 111, 117, 116, 112, 117, 116, 32, 108, 101, 110, 103, 116, 104, 32, 111, 118, 101, 114, 102, 108, 111, 119]⟩) fun v30 w_48 =>
 kPanic (cR Try.prog R) w_48 v30) (
 kD [] [] (J_2 [] w_47))) (fun cs_4 w_37 => ∀ ds_4 : List Value,
 kBlt (cR Try.prog R) w_37 .len #[9] 3 #[false] #[(.string sep)] fun v33 w_38 =>
 kBlt (cR Try.prog R) w_38 .len #[119] 3 #[false] #[(.slice elems elemsn elemsc)] fun v35 w_39 =>
 kBin (cR Try.prog R) w_39 .sub 3 v35 (.int .i64 1) fun v36 w_40 =>
 kBin (cR Try.prog R) w_40 .mul 3 v33 v36 fun v37 w_41 =>
 kBin (cR Try.prog R) w_41 .add 3 (.int .i64 0) v37 fun v38 w_42 =>
 kD [] [] (J [v38] w_42))) (
 kD [] [] (J [(.int .i64 0)] w_36))) (fun cs w_6 => ∀ ds : List Value,
 (fun j5 =>
 kBlt (cR Try.prog R) w_6 .len #[119] 3 #[false] #[(.slice elems elemsn elemsc)] fun v40 w_7 =>
 kLoopF [j5, (.int .i64 0)] w_7 fun cs_1 ds_1 w_8 N =>
 (fun x5 x41 =>
 kBin (cR Try.prog R) w_8 .lss 3 x41 v40 fun v42 w_9 =>
 kIf v42 (
 kIa (cR Try.prog R) w_9 119 (.slice elems elemsn elemsc) x41 fun v43 w_10 =>
 kLoad (cR Try.prog R) w_10 9 v43 fun v44 w_11 =>
 kJn (fun J_1 =>
 kBlt (cR Try.prog R) w_11 .len #[9] 3 #[false] #[v44] fun v46 w_16 =>
 kBin (cR Try.prog R) w_16 .sub 3 (.int .i64 9223372036854775807) x5 fun v48 w_17 =>
 kBin (cR Try.prog R) w_17 .gtr 3 v46 v48 fun v49 w_18 =>
 kIf v49 (
 kMkI (cR Try.prog R) w_18 9 (.string ⟨#[115, 116, 114, 105, 110, 103, 115, 58, 32, 74, 111, 105, 110, 32, 111, 117, 116, 112, 117, 116, 32, 108, 101, 110, 103, 116, 104, 32, 111, 118, 101, 114, 102, 108, 111, 119]⟩) fun v50 w_19 =>
 kPanic (cR Try.prog R) w_19 v50) (
 kD [] [] (J_1 [] w_18))) (fun cs_2 w_12 => ∀ ds_2 : List Value,
 kBlt (cR Try.prog R) w_12 .len #[9] 3 #[false] #[v44] fun v53 w_13 =>
 kBin (cR Try.prog R) w_13 .add 3 x5 v53 fun v54 w_14 =>
 kBin (cR Try.prog R) w_14 .add 3 x41 (.int .i64 1) fun v55 w_15 =>
 kD [] [] (N [v54, v55] w_15))) (
 kAlloc (cR Try.prog R) w_9 179 fun v8 w_20 =>
 kCall (cR Try.prog R) w_20 138 #[v8, x5] fun v57 w_21 =>
 kIa (cR Try.prog R) w_21 119 (.slice elems elemsn elemsc) (.int .i64 0) fun v59 w_22 =>
 kLoad (cR Try.prog R) w_22 9 v59 fun v60 w_23 =>
 kCall (cR Try.prog R) w_23 139 #[v8, v60] fun v61 w_24 =>
 kSl (cR Try.prog R) w_24 119 (.slice elems elemsn elemsc) (some (.int .i64 1)) none none fun v63 w_25 =>
 kBlt (cR Try.prog R) w_25 .len #[119] 3 #[false] #[v63] fun v64 w_26 =>
 kLoopF [(.int .i64 0)] w_26 fun cs_3 ds_3 w_27 N_1 =>
 (fun x65 =>
 kBin (cR Try.prog R) w_27 .lss 3 x65 v64 fun v66 w_28 =>
 kIf v66 (
 kIa (cR Try.prog R) w_28 119 v63 x65 fun v67 w_29 =>
 kLoad (cR Try.prog R) w_29 9 v67 fun v68 w_30 =>
 kCall (cR Try.prog R) w_30 139 #[v8, (.string sep)] fun v70 w_31 =>
 kCall (cR Try.prog R) w_31 139 #[v8, v68] fun v72 w_32 =>
 kBin (cR Try.prog R) w_32 .add 3 x65 (.int .i64 1) fun v73 w_33 =>
 kD [] [] (N_1 [v73] w_33)) (
 kCall (cR Try.prog R) w_28 140 #[v8] fun v74 w_34 =>
 R (.returned v74) w_34)) (cs_3.getD 0 undef))) (cs_1.getD 0 undef) (cs_1.getD 1 undef)) (cs.getD 0 undef))))
theorem c132 (elems : Option Addr) (elemsn : Nat) (elemsc : Nat) (sep : ByteArray) (R : Ending → World → Prop) (w : World) (h : vc132 elems elemsn elemsc sep R w) : Calls Try.prog 132 #[(.slice elems elemsn elemsc), (.string sep)] w R :=
  calls_of_vc (A := { loops := [(1000016, []), (3, [65]), (1, [5, 41]), (1000011, [5]), (1000010, [])], pars := [] }) (Eq.mpr (show FnVc Try.prog { loops := [(1000016, []), (3, [65]), (1, [5, 41]), (1000011, [5]), (1000010, [])], pars := [] } 75 132 [(.slice elems elemsn elemsc), (.string sep)] R w = vc132 elems elemsn elemsc sep R w by kernel_rfl) h)

/-- slices.Values[[]loupe/api.Type,loupe/api.Type]$1 -/
def vc133 (yield : Value) (f0 : Value) (R : Ending → World → Prop) (w : World) : Prop :=
 kLoad (cR Try.prog R) w 24 f0 fun v5 w_1 =>
 kBlt (cR Try.prog R) w_1 .len #[24] 3 #[false] #[v5] fun v6 w_2 =>
 kLoopF [(.int .i64 0)] w_2 fun cs ds w_3 N =>
 (fun x7 =>
 kBin (cR Try.prog R) w_3 .lss 3 x7 v6 fun v8 w_4 =>
 kIf v8 (
 kIa (cR Try.prog R) w_4 24 v5 x7 fun v9 w_5 =>
 kLoad (cR Try.prog R) w_5 27 v9 fun v10 w_6 =>
 kCallV (cR Try.prog R) w_6 yield #[v10] fun v13 w_7 =>
 kUn (cR Try.prog R) w_7 .not v13 fun v14 w_8 =>
 kIf v14 (
 R (.returned (.tuple #[])) w_8) (
 kBin (cR Try.prog R) w_8 .add 3 x7 (.int .i64 1) fun v15 w_9 =>
 kD [] [] (N [v15] w_9))) (
 R (.returned (.tuple #[])) w_4)) (cs.getD 0 undef)
theorem c133 (yield : Value) (f0 : Value) (R : Ending → World → Prop) (w : World) (h : vc133 yield f0 R w) : Calls Try.prog 133 #[yield, f0] w R :=
  calls_of_vc (A := { loops := [(0, [7])], pars := [] }) (Eq.mpr (show FnVc Try.prog { loops := [(0, [7])], pars := [] } 16 133 [yield, f0] R w = vc133 yield f0 R w by kernel_rfl) h)

/-- slices.Values[[]loupe/api.Truth,loupe/api.Truth] -/
def vc134 (s : Option Addr) (sn : Nat) (sc : Nat) (R : Ending → World → Prop) (w : World) : Prop :=
 kBox (cR Try.prog R) w 160 (.slice s sn sc) fun v1 w_1 =>
 R (.returned (.func (.func 141) #[] #[v1])) w_1
theorem c134 (s : Option Addr) (sn : Nat) (sc : Nat) (R : Ending → World → Prop) (w : World) (h : vc134 s sn sc R w) : Calls Try.prog 134 #[(.slice s sn sc)] w R :=
  calls_of_vc (A := { loops := [], pars := [] }) (Eq.mpr (show FnVc Try.prog { loops := [], pars := [] } 4 134 [(.slice s sn sc)] R w = vc134 s sn sc R w by kernel_rfl) h)

/-- cmp.isNaN[loupe/api.ValueKind] -/
def vc135 (x : Int) (R : Ending → World → Prop) (w : World) : Prop :=
 kEq (cR Try.prog R) w .neq 47 (.tmp 3) (.tmp 4) (.int .i64 x) (.int .i64 x) fun v5 w_1 =>
 R (.returned v5) w_1
theorem c135 (x : Int) (R : Ending → World → Prop) (w : World) (h : vc135 x R w) : Calls Try.prog 135 #[(.int .i64 x)] w R :=
  calls_of_vc (A := { loops := [], pars := [] }) (Eq.mpr (show FnVc Try.prog { loops := [], pars := [] } 6 135 [(.int .i64 x)] R w = vc135 x R w by kernel_rfl) h)

/-- cmp.isNaN[int64] -/
def vc136 (x : Int) (R : Ending → World → Prop) (w : World) : Prop :=
 kEq (cR Try.prog R) w .neq 2 (.tmp 3) (.tmp 4) (.int .i64 x) (.int .i64 x) fun v5 w_1 =>
 R (.returned v5) w_1
theorem c136 (x : Int) (R : Ending → World → Prop) (w : World) (h : vc136 x R w) : Calls Try.prog 136 #[(.int .i64 x)] w R :=
  calls_of_vc (A := { loops := [], pars := [] }) (Eq.mpr (show FnVc Try.prog { loops := [], pars := [] } 6 136 [(.int .i64 x)] R w = vc136 x R w by kernel_rfl) h)

/-- cmp.isNaN[string] -/
def vc137 (x : ByteArray) (R : Ending → World → Prop) (w : World) : Prop :=
 kEq (cR Try.prog R) w .neq 9 (.tmp 3) (.tmp 4) (.string x) (.string x) fun v5 w_1 =>
 R (.returned v5) w_1
theorem c137 (x : ByteArray) (R : Ending → World → Prop) (w : World) (h : vc137 x R w) : Calls Try.prog 137 #[(.string x)] w R :=
  calls_of_vc (A := { loops := [], pars := [] }) (Eq.mpr (show FnVc Try.prog { loops := [], pars := [] } 6 137 [(.string x)] R w = vc137 x R w by kernel_rfl) h)

/-- (*strings.Builder).WriteString -/
def vc139 (b : Value) (s : ByteArray) (R : Ending → World → Prop) (w : World) : Prop :=
 kCall (cR Try.prog R) w 142 #[b] fun v7 w_1 =>
 kNil (cR Try.prog R) w_1 b fun v10 w_2 =>
 kFa (cR Try.prog R) w_2 179 v10 1 fun v11 w_3 =>
 kLoad (cR Try.prog R) w_3 38 v11 fun v12 w_4 =>
 kBlt (cR Try.prog R) w_4 .append #[38, 9] 38 #[false, false] #[v12, (.string s)] fun v14 w_5 =>
 kNil (cR Try.prog R) w_5 b fun v15 w_6 =>
 kFa (cR Try.prog R) w_6 179 v15 1 fun v16 w_7 =>
 kStore (cR Try.prog R) w_7 38 v16 v14 fun w_8 =>
 kBlt (cR Try.prog R) w_8 .len #[9] 3 #[false] #[(.string s)] fun v18 w_9 =>
 R (.returned (.tuple #[v18, .nilIface])) w_9
theorem c139 (b : Value) (s : ByteArray) (R : Ending → World → Prop) (w : World) (h : vc139 b s R w) : Calls Try.prog 139 #[b, (.string s)] w R :=
  calls_of_vc (A := { loops := [], pars := [] }) (Eq.mpr (show FnVc Try.prog { loops := [], pars := [] } 19 139 [b, (.string s)] R w = vc139 b s R w by kernel_rfl) h)

/-- slices.Values[[]loupe/api.Truth,loupe/api.Truth]$1 -/
def vc141 (yield : Value) (f0 : Value) (R : Ending → World → Prop) (w : World) : Prop :=
 kLoad (cR Try.prog R) w 160 f0 fun v5 w_1 =>
 kBlt (cR Try.prog R) w_1 .len #[160] 3 #[false] #[v5] fun v6 w_2 =>
 kLoopF [(.int .i64 0)] w_2 fun cs ds w_3 N =>
 (fun x7 =>
 kBin (cR Try.prog R) w_3 .lss 3 x7 v6 fun v8 w_4 =>
 kIf v8 (
 kIa (cR Try.prog R) w_4 160 v5 x7 fun v9 w_5 =>
 kLoad (cR Try.prog R) w_5 142 v9 fun v10 w_6 =>
 kCallV (cR Try.prog R) w_6 yield #[v10] fun v13 w_7 =>
 kUn (cR Try.prog R) w_7 .not v13 fun v14 w_8 =>
 kIf v14 (
 R (.returned (.tuple #[])) w_8) (
 kBin (cR Try.prog R) w_8 .add 3 x7 (.int .i64 1) fun v15 w_9 =>
 kD [] [] (N [v15] w_9))) (
 R (.returned (.tuple #[])) w_4)) (cs.getD 0 undef)
theorem c141 (yield : Value) (f0 : Value) (R : Ending → World → Prop) (w : World) (h : vc141 yield f0 R w) : Calls Try.prog 141 #[yield, f0] w R :=
  calls_of_vc (A := { loops := [(0, [7])], pars := [] }) (Eq.mpr (show FnVc Try.prog { loops := [(0, [7])], pars := [] } 16 141 [yield, f0] R w = vc141 yield f0 R w by kernel_rfl) h)

/-- (*strings.Builder).copyCheck -/
def vc142 (b : Value) (R : Ending → World → Prop) (w : World) : Prop :=
 kNil (cR Try.prog R) w b fun v3 w_1 =>
 kFa (cR Try.prog R) w_1 179 v3 0 fun v4 w_2 =>
 kLoad (cR Try.prog R) w_2 177 v4 fun v5 w_3 =>
 kEq (cR Try.prog R) w_3 .eql 177 (.tmp 5) (.const (.pointer none)) v5 (.pointer none) fun v6 w_4 =>
 kIf v6 (
 kConv (cR Try.prog R) w_4 177 188 b fun v9 w_5 =>
 kCall (cR Try.prog R) w_5 144 #[v9] fun v10 w_6 =>
 kConv (cR Try.prog R) w_6 188 177 v10 fun v11 w_7 =>
 kNil (cR Try.prog R) w_7 b fun v12 w_8 =>
 kFa (cR Try.prog R) w_8 179 v12 0 fun v13 w_9 =>
 kStore (cR Try.prog R) w_9 177 v13 v11 fun w_10 =>
 R (.returned (.tuple #[])) w_10) (
 kNil (cR Try.prog R) w_4 b fun v15 w_11 =>
 kFa (cR Try.prog R) w_11 179 v15 0 fun v16 w_12 =>
 kLoad (cR Try.prog R) w_12 177 v16 fun v17 w_13 =>
 kEq (cR Try.prog R) w_13 .neq 177 (.tmp 17) (.tmp 18) v17 b fun v19 w_14 =>
 kIf v19 (
 False) (
 R (.returned (.tuple #[])) w_14))
theorem c142 (b : Value) (R : Ending → World → Prop) (w : World) (h : vc142 b R w) : Calls Try.prog 142 #[b] w R :=
  calls_of_vc (A := { loops := [], pars := [] }) (Eq.mpr (show FnVc Try.prog { loops := [], pars := [] } 20 142 [b] R w = vc142 b R w by kernel_rfl) h)

end Go.L
