/- What is to be shown of single functions, printed by a program and compared with the translation by the kernel: no condition. -/
import Derived.Test.YtfajbldbhkkfoaaGreatDoorA1
import Derived.Test.YtfajbldbhkkfoaaGreatDoorProg
set_option linter.unusedVariables false
set_option linter.unusedSimpArgs false
namespace Go.L
open Go Go.RowKit Go.Proofs
set_option maxRecDepth 100000
set_option linter.unusedVariables false

/-- loupe/code.kinds$5 -/
def vc62 (ofA : Value) (R : Ending → World → Prop) (w : World) : Prop :=
 kAlloc (cR Tryz.prog R) w 77 fun v2 w_1 =>
 kBuild (cR Tryz.prog R) w_1 77 #[(0, ofA), (1, (.int .i64 0)), (2, (.int .i64 15)), (3, (.bool false))] fun v4 w_2 =>
 kStore (cR Tryz.prog R) w_2 77 v2 v4 fun w_3 =>
 RetK Tryz.prog [.cell v2 77] R w_3
theorem c62 (ofA : Value) (R : Ending → World → Prop) (w : World) (h : vc62 ofA R w) : Calls Tryz.prog 62 #[ofA] w R :=
  calls_of_vc (A := { loops := [], pars := [] }) (Eq.mpr (show FnVc Tryz.prog { loops := [], pars := [] } 5 62 [ofA] R w = vc62 ofA R w by kernel_rfl) h)

/-- loupe/code.kinds$6 -/
def vc63 (ofA : Value) (R : Ending → World → Prop) (w : World) : Prop :=
 kAlloc (cR Tryz.prog R) w 77 fun v2 w_1 =>
 kBuild (cR Tryz.prog R) w_1 77 #[(0, ofA), (1, (.int .i64 0)), (2, (.int .i64 31)), (3, (.bool false))] fun v4 w_2 =>
 kStore (cR Tryz.prog R) w_2 77 v2 v4 fun w_3 =>
 RetK Tryz.prog [.cell v2 77] R w_3
theorem c63 (ofA : Value) (R : Ending → World → Prop) (w : World) (h : vc63 ofA R w) : Calls Tryz.prog 63 #[ofA] w R :=
  calls_of_vc (A := { loops := [], pars := [] }) (Eq.mpr (show FnVc Tryz.prog { loops := [], pars := [] } 5 63 [ofA] R w = vc63 ofA R w by kernel_rfl) h)

/-- loupe/code.kinds$7 -/
def vc64 (ofA : Value) (R : Ending → World → Prop) (w : World) : Prop :=
 kAlloc (cR Tryz.prog R) w 77 fun v2 w_1 =>
 kBuild (cR Tryz.prog R) w_1 77 #[(0, ofA), (1, (.int .i64 0)), (2, (.int .i64 400)), (3, (.bool false))] fun v4 w_2 =>
 kStore (cR Tryz.prog R) w_2 77 v2 v4 fun w_3 =>
 RetK Tryz.prog [.cell v2 77] R w_3
theorem c64 (ofA : Value) (R : Ending → World → Prop) (w : World) (h : vc64 ofA R w) : Calls Tryz.prog 64 #[ofA] w R :=
  calls_of_vc (A := { loops := [], pars := [] }) (Eq.mpr (show FnVc Tryz.prog { loops := [], pars := [] } 5 64 [ofA] R w = vc64 ofA R w by kernel_rfl) h)

/-- loupe/code.kinds$8 -/
def vc65 (ofA : Value) (R : Ending → World → Prop) (w : World) : Prop :=
 kAlloc (cR Tryz.prog R) w 77 fun v2 w_1 =>
 kBuild (cR Tryz.prog R) w_1 77 #[(0, ofA), (1, (.int .i64 0)), (2, (.int .i64 0)), (3, (.bool true))] fun v4 w_2 =>
 kStore (cR Tryz.prog R) w_2 77 v2 v4 fun w_3 =>
 RetK Tryz.prog [.cell v2 77] R w_3
theorem c65 (ofA : Value) (R : Ending → World → Prop) (w : World) (h : vc65 ofA R w) : Calls Tryz.prog 65 #[ofA] w R :=
  calls_of_vc (A := { loops := [], pars := [] }) (Eq.mpr (show FnVc Tryz.prog { loops := [], pars := [] } 5 65 [ofA] R w = vc65 ofA R w by kernel_rfl) h)

/-- loupe/code.kinds$9 -/
def vc66 (ofA : Value) (R : Ending → World → Prop) (w : World) : Prop :=
 kAlloc (cR Tryz.prog R) w 77 fun v2 w_1 =>
 kBuild (cR Tryz.prog R) w_1 77 #[(0, ofA), (1, (.int .i64 (-1))), (2, (.int .i64 2147483647)), (3, (.bool false))] fun v4 w_2 =>
 kStore (cR Tryz.prog R) w_2 77 v2 v4 fun w_3 =>
 RetK Tryz.prog [.cell v2 77] R w_3
theorem c66 (ofA : Value) (R : Ending → World → Prop) (w : World) (h : vc66 ofA R w) : Calls Tryz.prog 66 #[ofA] w R :=
  calls_of_vc (A := { loops := [], pars := [] }) (Eq.mpr (show FnVc Tryz.prog { loops := [], pars := [] } 5 66 [ofA] R w = vc66 ofA R w by kernel_rfl) h)

/-- loupe/code.nothing -/
def vc67 (a0 : Int) (a1 : Int) (a2 : Int) (a3 : Int) (a4 : Int) (a5 : Int) (a6 : Int) (a7 : ByteArray) (a8 : ByteArray) (a9 : Option Addr) (a9n : Nat) (a9c : Nat) (R : Ending → World → Prop) (w : World) : Prop :=
 kBox (cR Tryz.prog R) w 62 (.agg #[(.int .i64 a0), (.int .i64 a1), (.int .i64 a2), (.int .i64 a3), (.int .i64 a4), (.int .i64 a5), (.int .i64 a6), (.string a7), (.string a8), (.slice a9 a9n a9c)]) fun v1 w_1 =>
 kAlloc (cR Tryz.prog R) w_1 62 fun v2 w_2 =>
 kBuild (cR Tryz.prog R) w_2 62 #[] fun v4 w_3 =>
 kStore (cR Tryz.prog R) w_3 62 v2 v4 fun w_4 =>
 RetK Tryz.prog [.cell v2 62, .val (.bool true)] R w_4
theorem c67 (a0 : Int) (a1 : Int) (a2 : Int) (a3 : Int) (a4 : Int) (a5 : Int) (a6 : Int) (a7 : ByteArray) (a8 : ByteArray) (a9 : Option Addr) (a9n : Nat) (a9c : Nat) (R : Ending → World → Prop) (w : World) (h : vc67 a0 a1 a2 a3 a4 a5 a6 a7 a8 a9 a9n a9c R w) : Calls Tryz.prog 67 #[(.agg #[(.int .i64 a0), (.int .i64 a1), (.int .i64 a2), (.int .i64 a3), (.int .i64 a4), (.int .i64 a5), (.int .i64 a6), (.string a7), (.string a8), (.slice a9 a9n a9c)])] w R :=
  calls_of_vc (A := { loops := [], pars := [] }) (Eq.mpr (show FnVc Tryz.prog { loops := [], pars := [] } 5 67 [(.agg #[(.int .i64 a0), (.int .i64 a1), (.int .i64 a2), (.int .i64 a3), (.int .i64 a4), (.int .i64 a5), (.int .i64 a6), (.string a7), (.string a8), (.slice a9 a9n a9c)])] R w = vc67 a0 a1 a2 a3 a4 a5 a6 a7 a8 a9 a9n a9c R w by kernel_rfl) h)

/-- loupe/code.valued -/
def vc68 (x0 : Int) (x1 : Int) (x2 : Int) (x3 : Int) (x4 : Int) (x5 : Int) (x6 : Int) (x7 : ByteArray) (x8 : ByteArray) (x9 : Option Addr) (x9n : Nat) (x9c : Nat) (R : Ending → World → Prop) (w : World) : Prop :=
 kBox (cR Tryz.prog R) w 62 (.agg #[(.int .i64 x0), (.int .i64 x1), (.int .i64 x2), (.int .i64 x3), (.int .i64 x4), (.int .i64 x5), (.int .i64 x6), (.string x7), (.string x8), (.slice x9 x9n x9c)]) fun v1 w_1 =>
 kAlloc (cR Tryz.prog R) w_1 62 fun v2 w_2 =>
 kDrawn true (
 kDrawn true (
 kFa (cQ Tryz.prog) w_2 62 v1 5 fun v4 w_3 =>
 kLoad (cQ Tryz.prog) w_3 59 v4 fun v5 w_4 =>
 kBuild (cQ Tryz.prog) w_4 62 #[(5, v5)] fun v6 w_5 =>
 kFa (cQ Tryz.prog) w_5 62 v1 5 fun v7 w_6 =>
 kLoad (cQ Tryz.prog) w_6 59 v7 fun v8 w_7 =>
 kDrew w_7 fun w_8 =>
 (fun (c : Cx) =>
 kCall c w_8 104 #[v8] fun v9 w_9 =>
 kFa (cQ Tryz.prog) w_9 62 v1 5 fun v4_1 w_10 =>
 kSame v4_1 v4 (
 kLoad (cQ Tryz.prog) w_9 59 v4 fun v5_1 w_11 =>
 kSame v5_1 v5 (
 kBuild (cQ Tryz.prog) w_9 62 #[(5, v5)] fun v6_1 w_12 =>
 kSame v6_1 v6 (
 kEq (cQ Tryz.prog) w_9 .eql 26 (.tmp 9) (.const (.int .i64 0)) v9 (.int .i64 0) fun v10 w_13 =>
 kDrew w_13 fun w_14 =>
 kStore c w_14 62 v2 v6 fun w_15 =>
 kEq (cQ Tryz.prog) w_15 .eql 26 (.tmp 9) (.const (.int .i64 0)) v9 (.int .i64 0) fun v10_1 w_16 =>
 kSame v10_1 v10 (
 kDrew w_15 fun w_17 =>
 RetK Tryz.prog [.cell v2 62, .val v10] R w_17))))) ⟨Tryz.prog, fun ch w => ∀ _ : List Value, R (.panicked ch) w, false⟩))
theorem c68 (x0 : Int) (x1 : Int) (x2 : Int) (x3 : Int) (x4 : Int) (x5 : Int) (x6 : Int) (x7 : ByteArray) (x8 : ByteArray) (x9 : Option Addr) (x9n : Nat) (x9c : Nat) (R : Ending → World → Prop) (w : World) (h : vc68 x0 x1 x2 x3 x4 x5 x6 x7 x8 x9 x9n x9c R w) : Calls Tryz.prog 68 #[(.agg #[(.int .i64 x0), (.int .i64 x1), (.int .i64 x2), (.int .i64 x3), (.int .i64 x4), (.int .i64 x5), (.int .i64 x6), (.string x7), (.string x8), (.slice x9 x9n x9c)])] w R :=
  calls_of_vc (A := { loops := [], pars := [], chs := [(1, (.q 0 (.q 1 (.q 2 (.q 3 (.q 4 (.e 5 (.q 6 (.e 7 .done)))))))))] }) (Eq.mpr (show FnVc Tryz.prog { loops := [], pars := [], chs := [(1, (.q 0 (.q 1 (.q 2 (.q 3 (.q 4 (.e 5 (.q 6 (.e 7 .done)))))))))] } 11 68 [(.agg #[(.int .i64 x0), (.int .i64 x1), (.int .i64 x2), (.int .i64 x3), (.int .i64 x4), (.int .i64 x5), (.int .i64 x6), (.string x7), (.string x8), (.slice x9 x9n x9c)])] R w = vc68 x0 x1 x2 x3 x4 x5 x6 x7 x8 x9 x9n x9c R w by kernel_rfl) h)

/-- loupe/code.operated -/
def vc69 (x0 : Int) (x1 : Int) (x2 : Int) (x3 : Int) (x4 : Int) (x5 : Int) (x6 : Int) (x7 : ByteArray) (x8 : ByteArray) (x9 : Option Addr) (x9n : Nat) (x9c : Nat) (R : Ending → World → Prop) (w : World) : Prop :=
 kBox (cR Tryz.prog R) w 62 (.agg #[(.int .i64 x0), (.int .i64 x1), (.int .i64 x2), (.int .i64 x3), (.int .i64 x4), (.int .i64 x5), (.int .i64 x6), (.string x7), (.string x8), (.slice x9 x9n x9c)]) fun v1 w_1 =>
 kAlloc (cR Tryz.prog R) w_1 62 fun v2 w_2 =>
 kFa (cR Tryz.prog R) w_2 62 v1 4 fun v9 w_3 =>
 kLoad (cR Tryz.prog R) w_3 56 v9 fun v10 w_4 =>
 kCall (cR Tryz.prog R) w_4 29 #[v10] fun v11 w_5 =>
 kExt v11 0 fun v12 =>
 kExt v11 1 fun v13 =>
 kAlloc (cR Tryz.prog R) w_5 82 fun v4 w_6 =>
 kStore (cR Tryz.prog R) w_6 82 v4 v12 fun w_7 =>
 kDrawn true (
 kDrawn true (
 kJn (fun J =>
 kLoad (cQ Tryz.prog) w_7 62 v1 fun v16 w_8 =>
 kBoth (
 kDrew w_8 fun w_9 =>
 (fun (c : Cx) =>
 kCall c w_9 70 #[(.int .i64 0)] fun v15 w_10 =>
 kLoad (cQ Tryz.prog) w_10 62 v1 fun v16_1 w_11 =>
 kSame v16_1 v16 (
 kBoth (
 kDrew w_10 fun w_12 =>
 kCallV c w_12 v15 #[v16] fun v17 w_13 =>
 kExt v17 0 fun v18 =>
 kExt v17 1 fun v19 =>
 kDrew w_13 fun w_14 =>
 kAlloc c w_14 62 fun v6 w_15 =>
 kDrew w_15 fun w_16 =>
 kStore c w_16 62 v6 v18 fun w_17 =>
 kDrew w_17 fun w_18 => J [v15, v16, v17, v17, v18, v19, v6, undef] w_18) (
 kDrew w_10 fun w_19 =>
 kAlloc c w_19 62 fun v6_1 w_20 =>
 kLoad (cQ Tryz.prog) w_20 62 v1 fun v16_2 w_21 =>
 kSame v16_2 v16 (
 kDrew w_20 fun w_22 =>
 kCallV c w_22 v15 #[v16] fun v17_1 w_23 =>
 kExt v17_1 0 fun v18_1 =>
 kExt v17_1 1 fun v19_1 =>
 kDrew w_23 fun w_24 =>
 kStore c w_24 62 v6_1 v18_1 fun w_25 =>
 kDrew w_25 fun w_26 => J [v15, v16, v17_1, v17_1, v18_1, v19_1, v6_1, undef] w_26)))) ⟨Tryz.prog, fun ch w => ∀ _ : List Value, R (.panicked ch) w, false⟩) (
 kDrew w_8 fun w_27 =>
 (fun (c_1 : Cx) =>
 kAlloc c_1 w_27 62 fun v6_2 w_28 =>
 kLoad (cQ Tryz.prog) w_28 62 v1 fun v16_3 w_29 =>
 kSame v16_3 v16 (
 kDrew w_28 fun w_30 =>
 kCall c_1 w_30 70 #[(.int .i64 0)] fun v15_1 w_31 =>
 kLoad (cQ Tryz.prog) w_31 62 v1 fun v16_4 w_32 =>
 kSame v16_4 v16 (
 kDrew w_31 fun w_33 =>
 kCallV c_1 w_33 v15_1 #[v16] fun v17_2 w_34 =>
 kExt v17_2 0 fun v18_2 =>
 kExt v17_2 1 fun v19_2 =>
 kDrew w_34 fun w_35 =>
 kStore c_1 w_35 62 v6_2 v18_2 fun w_36 =>
 kDrew w_36 fun w_37 => J [v15_1, v16, v17_2, v17_2, v18_2, v19_2, v6_2, undef] w_37))) ⟨Tryz.prog, fun ch w => ∀ _ : List Value, R (.panicked ch) w, false⟩)) (fun cs w_38 =>
 (fun g5 g6 =>
 kFa (cR Tryz.prog R) w_38 62 v1 4 fun v20 w_39 =>
 kLoad (cR Tryz.prog R) w_39 56 v20 fun v21 w_40 =>
 kFa (cR Tryz.prog R) w_40 62 g6 4 fun v22 w_41 =>
 kStore (cR Tryz.prog R) w_41 56 v22 v21 fun w_42 =>
 kDrawn true (
 kDrawn true (
 kLoad (cQ Tryz.prog) w_42 62 g6 fun v23 w_43 =>
 kIf v13 (
 kIf g5 (
 kFa (cQ Tryz.prog) w_43 62 v1 7 fun v29 w_44 =>
 kLoad (cQ Tryz.prog) w_44 60 v29 fun v30 w_45 =>
 kBlt (cQ Tryz.prog) w_45 .len #[60] 3 #[false] #[v30] fun v31 w_46 =>
 kFa (cQ Tryz.prog) w_46 82 v4 1 fun v32 w_47 =>
 kLoad (cQ Tryz.prog) w_47 3 v32 fun v33 w_48 =>
 kEq (cQ Tryz.prog) w_48 .eql 3 (.tmp 31) (.tmp 33) v31 v33 fun v34 w_49 =>
 kDrew w_49 fun w_50 =>
 (fun (c_2 : Cx) =>
 kStore c_2 w_50 62 v2 v23 fun w_51 =>
 kFa (cQ Tryz.prog) w_51 62 v1 7 fun v29_1 w_52 =>
 kSame v29_1 v29 (
 kLoad (cQ Tryz.prog) w_51 60 v29 fun v30_1 w_53 =>
 kSame v30_1 v30 (
 kBlt (cQ Tryz.prog) w_51 .len #[60] 3 #[false] #[v30] fun v31_1 w_54 =>
 kSame v31_1 v31 (
 kFa (cQ Tryz.prog) w_51 82 v4 1 fun v32_1 w_55 =>
 kSame v32_1 v32 (
 kLoad (cQ Tryz.prog) w_51 3 v32 fun v33_1 w_56 =>
 kSame v33_1 v33 (
 kEq (cQ Tryz.prog) w_51 .eql 3 (.tmp 31) (.tmp 33) v31 v33 fun v34_1 w_57 =>
 kSame v34_1 v34 (
 kDrew w_51 fun w_58 =>
 RetK Tryz.prog [.cell v2 62, .val v34] R w_58))))))) ⟨Tryz.prog, fun ch w => ∀ _ : List Value, R (.panicked ch) w, false⟩) (
 kDrew w_43 fun w_59 =>
 (fun (c_3 : Cx) =>
 kStore c_3 w_59 62 v2 v23 fun w_60 =>
 kDrew w_60 fun w_61 =>
 RetK Tryz.prog [.cell v2 62, .val (.bool false)] R w_61) ⟨Tryz.prog, fun ch w => ∀ _ : List Value, R (.panicked ch) w, false⟩)) (
 kDrew w_43 fun w_62 =>
 (fun (c_4 : Cx) =>
 kStore c_4 w_62 62 v2 v23 fun w_63 =>
 kDrew w_63 fun w_64 =>
 RetK Tryz.prog [.cell v2 62, .val (.bool false)] R w_64) ⟨Tryz.prog, fun ch w => ∀ _ : List Value, R (.panicked ch) w, false⟩)))) (cs.getD 5 undef) (cs.getD 6 undef))))
theorem c69 (x0 : Int) (x1 : Int) (x2 : Int) (x3 : Int) (x4 : Int) (x5 : Int) (x6 : Int) (x7 : ByteArray) (x8 : ByteArray) (x9 : Option Addr) (x9n : Nat) (x9c : Nat) (R : Ending → World → Prop) (w : World) (h : vc69 x0 x1 x2 x3 x4 x5 x6 x7 x8 x9 x9n x9c R w) : Calls Tryz.prog 69 #[(.agg #[(.int .i64 x0), (.int .i64 x1), (.int .i64 x2), (.int .i64 x3), (.int .i64 x4), (.int .i64 x5), (.int .i64 x6), (.string x7), (.string x8), (.slice x9 x9n x9c)])] w R :=
  calls_of_vc (A := { loops := [], pars := [], chs := [(2, (.q 1 (.or 0 (.or 2 (.q 3 (.q 4 (.q 5 (.e 6 (.e 7 .done))))) (.e 6 (.e 2 (.q 3 (.q 4 (.q 5 (.e 7 .done))))))) (.e 6 (.e 0 (.e 2 (.q 3 (.q 4 (.q 5 (.e 7 .done)))))))))), (4, (.q 0 (.q 1 (.q 2 (.q 3 (.q 4 (.q 5 (.q 6 (.q 7 (.q 8 (.q 9 (.q 10 (.q 11 (.q 12 (.e 13 .done)))))))))))))))] }) (Eq.mpr (show FnVc Tryz.prog { loops := [], pars := [], chs := [(2, (.q 1 (.or 0 (.or 2 (.q 3 (.q 4 (.q 5 (.e 6 (.e 7 .done))))) (.e 6 (.e 2 (.q 3 (.q 4 (.q 5 (.e 7 .done))))))) (.e 6 (.e 0 (.e 2 (.q 3 (.q 4 (.q 5 (.e 7 .done)))))))))), (4, (.q 0 (.q 1 (.q 2 (.q 3 (.q 4 (.q 5 (.q 6 (.q 7 (.q 8 (.q 9 (.q 10 (.q 11 (.q 12 (.e 13 .done)))))))))))))))] } 36 69 [(.agg #[(.int .i64 x0), (.int .i64 x1), (.int .i64 x2), (.int .i64 x3), (.int .i64 x4), (.int .i64 x5), (.int .i64 x6), (.string x7), (.string x8), (.slice x9 x9n x9c)])] R w = vc69 x0 x1 x2 x3 x4 x5 x6 x7 x8 x9 x9n x9c R w by kernel_rfl) h)

/-- loupe/code.args -/
def vc70 (least : Int) (R : Ending → World → Prop) (w : World) : Prop :=
 kBox (cR Tryz.prog R) w 3 (.int .i64 least) fun v1 w_1 =>
 R (.returned (.func (.func 105) #[] #[v1])) w_1
theorem c70 (least : Int) (R : Ending → World → Prop) (w : World) (h : vc70 least R w) : Calls Tryz.prog 70 #[(.int .i64 least)] w R :=
  calls_of_vc (A := { loops := [], pars := [] }) (Eq.mpr (show FnVc Tryz.prog { loops := [], pars := [] } 4 70 [(.int .i64 least)] R w = vc70 least R w by kernel_rfl) h)

/-- loupe/code.named -/
def vc71 (x0 : Int) (x1 : Int) (x2 : Int) (x3 : Int) (x4 : Int) (x5 : Int) (x6 : Int) (x7 : ByteArray) (x8 : ByteArray) (x9 : Option Addr) (x9n : Nat) (x9c : Nat) (R : Ending → World → Prop) (w : World) : Prop :=
 kBox (cR Tryz.prog R) w 62 (.agg #[(.int .i64 x0), (.int .i64 x1), (.int .i64 x2), (.int .i64 x3), (.int .i64 x4), (.int .i64 x5), (.int .i64 x6), (.string x7), (.string x8), (.slice x9 x9n x9c)]) fun v1 w_1 =>
 kAlloc (cR Tryz.prog R) w_1 62 fun v2 w_2 =>
 kDrawn true (
 kDrawn true (
 kFa (cQ Tryz.prog) w_2 62 v1 6 fun v4 w_3 =>
 kLoad (cQ Tryz.prog) w_3 9 v4 fun v5 w_4 =>
 kBuild (cQ Tryz.prog) w_4 62 #[(6, v5)] fun v6 w_5 =>
 kFa (cQ Tryz.prog) w_5 62 v1 6 fun v7 w_6 =>
 kLoad (cQ Tryz.prog) w_6 9 v7 fun v8 w_7 =>
 kBlt (cQ Tryz.prog) w_7 .len #[9] 3 #[false] #[v8] fun v9 w_8 =>
 kDrew w_8 fun w_9 =>
 (fun (c : Cx) =>
 kBuildS c w_9 60 1 #[(0, v9)] fun v10 w_10 =>
 kFa (cQ Tryz.prog) w_10 62 v1 6 fun v4_1 w_11 =>
 kSame v4_1 v4 (
 kLoad (cQ Tryz.prog) w_10 9 v4 fun v5_1 w_12 =>
 kSame v5_1 v5 (
 kBuild (cQ Tryz.prog) w_10 62 #[(6, v5)] fun v6_1 w_13 =>
 kSame v6_1 v6 (
 kDrew w_10 fun w_14 =>
 kCall c w_14 36 #[(.int .i64 1), (.int .i64 100), v10] fun v11 w_15 =>
 kFa (cQ Tryz.prog) w_15 62 v1 6 fun v4_2 w_16 =>
 kSame v4_2 v4 (
 kLoad (cQ Tryz.prog) w_15 9 v4 fun v5_2 w_17 =>
 kSame v5_2 v5 (
 kBuild (cQ Tryz.prog) w_15 62 #[(6, v5)] fun v6_2 w_18 =>
 kSame v6_2 v6 (
 kDrew w_15 fun w_19 =>
 kStore c w_19 62 v2 v6 fun w_20 =>
 kDrew w_20 fun w_21 =>
 RetK Tryz.prog [.cell v2 62, .val v11] R w_21))))))) ⟨Tryz.prog, fun ch w => ∀ _ : List Value, R (.panicked ch) w, false⟩))
theorem c71 (x0 : Int) (x1 : Int) (x2 : Int) (x3 : Int) (x4 : Int) (x5 : Int) (x6 : Int) (x7 : ByteArray) (x8 : ByteArray) (x9 : Option Addr) (x9n : Nat) (x9c : Nat) (R : Ending → World → Prop) (w : World) (h : vc71 x0 x1 x2 x3 x4 x5 x6 x7 x8 x9 x9n x9c R w) : Calls Tryz.prog 71 #[(.agg #[(.int .i64 x0), (.int .i64 x1), (.int .i64 x2), (.int .i64 x3), (.int .i64 x4), (.int .i64 x5), (.int .i64 x6), (.string x7), (.string x8), (.slice x9 x9n x9c)])] w R :=
  calls_of_vc (A := { loops := [], pars := [], chs := [(1, (.q 0 (.q 1 (.q 2 (.q 3 (.q 4 (.q 5 (.e 6 (.e 7 (.e 8 .done))))))))))] }) (Eq.mpr (show FnVc Tryz.prog { loops := [], pars := [], chs := [(1, (.q 0 (.q 1 (.q 2 (.q 3 (.q 4 (.q 5 (.e 6 (.e 7 (.e 8 .done))))))))))] } 12 71 [(.agg #[(.int .i64 x0), (.int .i64 x1), (.int .i64 x2), (.int .i64 x3), (.int .i64 x4), (.int .i64 x5), (.int .i64 x6), (.string x7), (.string x8), (.slice x9 x9n x9c)])] R w = vc71 x0 x1 x2 x3 x4 x5 x6 x7 x8 x9 x9n x9c R w by kernel_rfl) h)

/-- loupe/code.summed -/
def vc72 (x0 : Int) (x1 : Int) (x2 : Int) (x3 : Int) (x4 : Int) (x5 : Int) (x6 : Int) (x7 : ByteArray) (x8 : ByteArray) (x9 : Option Addr) (x9n : Nat) (x9c : Nat) (R : Ending → World → Prop) (w : World) : Prop :=
 kBox (cR Tryz.prog R) w 62 (.agg #[(.int .i64 x0), (.int .i64 x1), (.int .i64 x2), (.int .i64 x3), (.int .i64 x4), (.int .i64 x5), (.int .i64 x6), (.string x7), (.string x8), (.slice x9 x9n x9c)]) fun v1 w_1 =>
 kAlloc (cR Tryz.prog R) w_1 62 fun v2 w_2 =>
 kDrawn true (
 kDrawn true (
 kFa (cQ Tryz.prog) w_2 62 v1 6 fun v4 w_3 =>
 kLoad (cQ Tryz.prog) w_3 9 v4 fun v5 w_4 =>
 kBuild (cQ Tryz.prog) w_4 62 #[(6, v5)] fun v6 w_5 =>
 kFa (cQ Tryz.prog) w_5 62 v1 6 fun v8 w_6 =>
 kLoad (cQ Tryz.prog) w_6 9 v8 fun v9 w_7 =>
 kDrew w_7 fun w_8 =>
 (fun (c : Cx) =>
 kBuildS c w_8 74 4 #[(0, (.string ⟨#[99, 111, 117, 110, 116]⟩)), (1, (.string ⟨#[115, 117, 109]⟩)), (2, (.string ⟨#[109, 105, 110]⟩)), (3, (.string ⟨#[109, 97, 120]⟩))] fun v7 w_9 =>
 kFa (cQ Tryz.prog) w_9 62 v1 6 fun v4_1 w_10 =>
 kSame v4_1 v4 (
 kLoad (cQ Tryz.prog) w_9 9 v4 fun v5_1 w_11 =>
 kSame v5_1 v5 (
 kBuild (cQ Tryz.prog) w_9 62 #[(6, v5)] fun v6_1 w_12 =>
 kSame v6_1 v6 (
 kFa (cQ Tryz.prog) w_9 62 v1 6 fun v8_1 w_13 =>
 kSame v8_1 v8 (
 kLoad (cQ Tryz.prog) w_9 9 v8 fun v9_1 w_14 =>
 kSame v9_1 v9 (
 kDrew w_9 fun w_15 =>
 kCall c w_15 106 #[v7, v9] fun v10 w_16 =>
 kFa (cQ Tryz.prog) w_16 62 v1 6 fun v4_2 w_17 =>
 kSame v4_2 v4 (
 kLoad (cQ Tryz.prog) w_16 9 v4 fun v5_2 w_18 =>
 kSame v5_2 v5 (
 kBuild (cQ Tryz.prog) w_16 62 #[(6, v5)] fun v6_2 w_19 =>
 kSame v6_2 v6 (
 kDrew w_16 fun w_20 =>
 kStore c w_20 62 v2 v6 fun w_21 =>
 kDrew w_21 fun w_22 =>
 RetK Tryz.prog [.cell v2 62, .val v10] R w_22))))))))) ⟨Tryz.prog, fun ch w => ∀ _ : List Value, R (.panicked ch) w, false⟩))
theorem c72 (x0 : Int) (x1 : Int) (x2 : Int) (x3 : Int) (x4 : Int) (x5 : Int) (x6 : Int) (x7 : ByteArray) (x8 : ByteArray) (x9 : Option Addr) (x9n : Nat) (x9c : Nat) (R : Ending → World → Prop) (w : World) (h : vc72 x0 x1 x2 x3 x4 x5 x6 x7 x8 x9 x9n x9c R w) : Calls Tryz.prog 72 #[(.agg #[(.int .i64 x0), (.int .i64 x1), (.int .i64 x2), (.int .i64 x3), (.int .i64 x4), (.int .i64 x5), (.int .i64 x6), (.string x7), (.string x8), (.slice x9 x9n x9c)])] w R :=
  calls_of_vc (A := { loops := [], pars := [], chs := [(1, (.q 0 (.q 1 (.q 2 (.q 4 (.q 5 (.e 3 (.e 6 (.e 7 .done)))))))))] }) (Eq.mpr (show FnVc Tryz.prog { loops := [], pars := [], chs := [(1, (.q 0 (.q 1 (.q 2 (.q 4 (.q 5 (.e 3 (.e 6 (.e 7 .done)))))))))] } 11 72 [(.agg #[(.int .i64 x0), (.int .i64 x1), (.int .i64 x2), (.int .i64 x3), (.int .i64 x4), (.int .i64 x5), (.int .i64 x6), (.string x7), (.string x8), (.slice x9 x9n x9c)])] R w = vc72 x0 x1 x2 x3 x4 x5 x6 x7 x8 x9 x9n x9c R w by kernel_rfl) h)

/-- loupe/code.sorted -/
def vc73 (x0 : Int) (x1 : Int) (x2 : Int) (x3 : Int) (x4 : Int) (x5 : Int) (x6 : Int) (x7 : ByteArray) (x8 : ByteArray) (x9 : Option Addr) (x9n : Nat) (x9c : Nat) (R : Ending → World → Prop) (w : World) : Prop :=
 kBox (cR Tryz.prog R) w 62 (.agg #[(.int .i64 x0), (.int .i64 x1), (.int .i64 x2), (.int .i64 x3), (.int .i64 x4), (.int .i64 x5), (.int .i64 x6), (.string x7), (.string x8), (.slice x9 x9n x9c)]) fun v1 w_1 =>
 kAlloc (cR Tryz.prog R) w_1 62 fun v2 w_2 =>
 kDrawn true (
 kDrawn true (
 kFa (cQ Tryz.prog) w_2 62 v1 7 fun v4 w_3 =>
 kLoad (cQ Tryz.prog) w_3 60 v4 fun v5 w_4 =>
 kBuild (cQ Tryz.prog) w_4 62 #[(7, v5)] fun v6 w_5 =>
 kFa (cQ Tryz.prog) w_5 62 v1 7 fun v7 w_6 =>
 kLoad (cQ Tryz.prog) w_6 60 v7 fun v8 w_7 =>
 kBlt (cQ Tryz.prog) w_7 .len #[60] 3 #[false] #[v8] fun v9 w_8 =>
 kBin (cQ Tryz.prog) w_8 .leq 3 v9 (.int .i64 200) fun v10 w_9 =>
 kIf v10 (
 kFa (cQ Tryz.prog) w_9 62 v1 7 fun v12 w_10 =>
 kLoad (cQ Tryz.prog) w_10 60 v12 fun v13 w_11 =>
 kDrew w_11 fun w_12 =>
 (fun (c : Cx) =>
 kCall c w_12 36 #[(.int .i64 0), (.int .i64 1), v13] fun v14 w_13 =>
 kFa (cQ Tryz.prog) w_13 62 v1 7 fun v4_1 w_14 =>
 kSame v4_1 v4 (
 kLoad (cQ Tryz.prog) w_13 60 v4 fun v5_1 w_15 =>
 kSame v5_1 v5 (
 kBuild (cQ Tryz.prog) w_13 62 #[(7, v5)] fun v6_1 w_16 =>
 kSame v6_1 v6 (
 kDrew w_13 fun w_17 =>
 kStore c w_17 62 v2 v6 fun w_18 =>
 kDrew w_18 fun w_19 =>
 RetK Tryz.prog [.cell v2 62, .val v14] R w_19)))) ⟨Tryz.prog, fun ch w => ∀ _ : List Value, R (.panicked ch) w, false⟩) (
 kDrew w_9 fun w_20 =>
 (fun (c_1 : Cx) =>
 kStore c_1 w_20 62 v2 v6 fun w_21 =>
 kDrew w_21 fun w_22 =>
 RetK Tryz.prog [.cell v2 62, .val (.bool false)] R w_22) ⟨Tryz.prog, fun ch w => ∀ _ : List Value, R (.panicked ch) w, false⟩)))
theorem c73 (x0 : Int) (x1 : Int) (x2 : Int) (x3 : Int) (x4 : Int) (x5 : Int) (x6 : Int) (x7 : ByteArray) (x8 : ByteArray) (x9 : Option Addr) (x9n : Nat) (x9c : Nat) (R : Ending → World → Prop) (w : World) (h : vc73 x0 x1 x2 x3 x4 x5 x6 x7 x8 x9 x9n x9c R w) : Calls Tryz.prog 73 #[(.agg #[(.int .i64 x0), (.int .i64 x1), (.int .i64 x2), (.int .i64 x3), (.int .i64 x4), (.int .i64 x5), (.int .i64 x6), (.string x7), (.string x8), (.slice x9 x9n x9c)])] w R :=
  calls_of_vc (A := { loops := [], pars := [], chs := [(1, (.q 0 (.q 1 (.q 2 (.q 3 (.q 4 (.q 5 (.q 6 (.q 7 (.q 8 (.q 9 (.e 10 (.q 11 (.e 12 .done))))))))))))))] }) (Eq.mpr (show FnVc Tryz.prog { loops := [], pars := [], chs := [(1, (.q 0 (.q 1 (.q 2 (.q 3 (.q 4 (.q 5 (.q 6 (.q 7 (.q 8 (.q 9 (.e 10 (.q 11 (.e 12 .done))))))))))))))] } 16 73 [(.agg #[(.int .i64 x0), (.int .i64 x1), (.int .i64 x2), (.int .i64 x3), (.int .i64 x4), (.int .i64 x5), (.int .i64 x6), (.string x7), (.string x8), (.slice x9 x9n x9c)])] R w = vc73 x0 x1 x2 x3 x4 x5 x6 x7 x8 x9 x9n x9c R w by kernel_rfl) h)

/-- loupe/sum.rows -/
def vc75  (R : Ending → World → Prop) (w : World) : Prop :=
 kAlloc (cR Tryz.prog R) w 127 fun v0 w_1 =>
 kBuild (cR Tryz.prog R) w_1 82 #[(0, (.string ⟨#[43]⟩)), (1, (.int .i64 2)), (2, (.int .i64 2)), (3, (.int .i64 2))] fun v5 w_2 =>
 kBuild (cR Tryz.prog R) w_2 82 #[(0, (.string ⟨#[45]⟩)), (1, (.int .i64 2)), (2, (.int .i64 2)), (3, (.int .i64 2))] fun v8 w_3 =>
 kBuild (cR Tryz.prog R) w_3 82 #[(0, (.string ⟨#[42]⟩)), (1, (.int .i64 2)), (2, (.int .i64 2)), (3, (.int .i64 2))] fun v11 w_4 =>
 kBuild (cR Tryz.prog R) w_4 82 #[(0, (.string ⟨#[47]⟩)), (1, (.int .i64 2)), (2, (.int .i64 2)), (3, (.int .i64 2))] fun v14 w_5 =>
 kBuild (cR Tryz.prog R) w_5 82 #[(0, (.string ⟨#[37]⟩)), (1, (.int .i64 2)), (2, (.int .i64 2)), (3, (.int .i64 2))] fun v17 w_6 =>
 kBuild (cR Tryz.prog R) w_6 82 #[(0, (.string ⟨#[124, 124]⟩)), (1, (.int .i64 2))] fun v18 w_7 =>
 kBuild (cR Tryz.prog R) w_7 82 #[(0, (.string ⟨#[61]⟩)), (1, (.int .i64 2)), (3, (.int .i64 1))] fun v20 w_8 =>
 kBuild (cR Tryz.prog R) w_8 82 #[(0, (.string ⟨#[60, 62]⟩)), (1, (.int .i64 2)), (3, (.int .i64 1))] fun v22 w_9 =>
 kBuild (cR Tryz.prog R) w_9 82 #[(0, (.string ⟨#[60]⟩)), (1, (.int .i64 2)), (3, (.int .i64 1))] fun v24 w_10 =>
 kBuild (cR Tryz.prog R) w_10 82 #[(0, (.string ⟨#[60, 61]⟩)), (1, (.int .i64 2)), (3, (.int .i64 1))] fun v26 w_11 =>
 kBuild (cR Tryz.prog R) w_11 82 #[(0, (.string ⟨#[62]⟩)), (1, (.int .i64 2)), (3, (.int .i64 1))] fun v28 w_12 =>
 kBuild (cR Tryz.prog R) w_12 82 #[(0, (.string ⟨#[62, 61]⟩)), (1, (.int .i64 2)), (3, (.int .i64 1))] fun v30 w_13 =>
 kBuild (cR Tryz.prog R) w_13 82 #[(0, (.string ⟨#[97, 110, 100]⟩)), (1, (.int .i64 2)), (2, (.int .i64 1)), (3, (.int .i64 1))] fun v33 w_14 =>
 kBuild (cR Tryz.prog R) w_14 82 #[(0, (.string ⟨#[111, 114]⟩)), (1, (.int .i64 2)), (2, (.int .i64 1)), (3, (.int .i64 1))] fun v36 w_15 =>
 kBuild (cR Tryz.prog R) w_15 82 #[(0, (.string ⟨#[45]⟩)), (1, (.int .i64 1)), (2, (.int .i64 2)), (3, (.int .i64 2))] fun v39 w_16 =>
 kBuild (cR Tryz.prog R) w_16 82 #[(0, (.string ⟨#[110, 111, 116]⟩)), (1, (.int .i64 1)), (2, (.int .i64 1)), (3, (.int .i64 1))] fun v42 w_17 =>
 kBuild (cR Tryz.prog R) w_17 82 #[(0, (.string ⟨#[105, 115, 32, 110, 117, 108, 108]⟩)), (1, (.int .i64 1)), (3, (.int .i64 1))] fun v44 w_18 =>
 kBuild (cR Tryz.prog R) w_18 82 #[(0, (.string ⟨#[105, 115, 32, 110, 111, 116, 32, 110, 117, 108, 108]⟩)), (1, (.int .i64 1)), (3, (.int .i64 1))] fun v46 w_19 =>
 kBuild (cR Tryz.prog R) w_19 82 #[(0, (.string ⟨#[108, 101, 110, 103, 116, 104]⟩)), (1, (.int .i64 1)), (3, (.int .i64 2))] fun v48 w_20 =>
 kBuild (cR Tryz.prog R) w_20 82 #[(0, (.string ⟨#[97, 98, 115]⟩)), (1, (.int .i64 1)), (2, (.int .i64 2)), (3, (.int .i64 2))] fun v51 w_21 =>
 kBuild (cR Tryz.prog R) w_21 127 #[(1, v5), (2, v8), (3, v11), (4, v14), (5, v17), (6, v18), (7, v20), (8, v22), (9, v24), (10, v26), (11, v28), (12, v30), (13, v33), (14, v36), (15, v39), (16, v42), (17, v44), (18, v46), (19, v48), (20, v51)] fun v52 w_22 =>
 kStore (cR Tryz.prog R) w_22 127 v0 v52 fun w_23 =>
 RetK Tryz.prog [.cell v0 127] R w_23
theorem c75  (R : Ending → World → Prop) (w : World) (h : vc75  R w) : Calls Tryz.prog 75 #[] w R :=
  calls_of_vc (A := { loops := [], pars := [] }) (Eq.mpr (show FnVc Tryz.prog { loops := [], pars := [] } 53 75 [] R w = vc75  R w by kernel_rfl) h)

/-- loupe/value.right -/
def vc78 (v0 : Int) (v1 : Int) (v2 : ByteArray) (R : Ending → World → Prop) (w : World) : Prop :=
 kBox (cR Tryz.prog R) w 59 (.agg #[(.int .i64 v0), (.int .i64 v1), (.string v2)]) fun v1_1 w_1 =>
 kFa (cR Tryz.prog R) w_1 59 v1_1 2 fun v3 w_2 =>
 kLoad (cR Tryz.prog R) w_2 9 v3 fun v4 w_3 =>
 kBlt (cR Tryz.prog R) w_3 .len #[9] 3 #[false] #[v4] fun v5 w_4 =>
 kBin (cR Tryz.prog R) w_4 .leq 3 v5 (.int .i64 1000) fun v6 w_5 =>
 kCall (cR Tryz.prog R) w_5 108 #[v6, (.int .i64 3)] fun v7 w_6 =>
 kFa (cR Tryz.prog R) w_6 59 v1_1 0 fun v8 w_7 =>
 kLoad (cR Tryz.prog R) w_7 57 v8 fun v9 w_8 =>
 kBuild (cR Tryz.prog R) w_8 59 #[(0, v9)] fun v10 w_9 =>
 kAlloc (cR Tryz.prog R) w_9 59 fun v2_1 w_10 =>
 kStore (cR Tryz.prog R) w_10 59 v2_1 v10 fun w_11 =>
 kJn (fun J =>
 kFa (cR Tryz.prog R) w_11 59 v1_1 0 fun v11 w_25 =>
 kLoad (cR Tryz.prog R) w_25 57 v11 fun v12 w_26 =>
 kEq (cR Tryz.prog R) w_26 .eql 57 (.tmp 12) (.const (.int .i64 1)) v12 (.int .i64 1) fun v14 w_27 =>
 kIf v14 (
 kFa (cR Tryz.prog R) w_27 59 v1_1 1 fun v15 w_28 =>
 kLoad (cR Tryz.prog R) w_28 2 v15 fun v16 w_29 =>
 kBin (cR Tryz.prog R) w_29 .and 2 v16 (.int .i64 1) fun v17 w_30 =>
 kFa (cR Tryz.prog R) w_30 59 v2_1 1 fun v18 w_31 =>
 kStore (cR Tryz.prog R) w_31 2 v18 v17 fun w_32 =>
 kD [] [] (J [] w_32)) (
 kEq (cR Tryz.prog R) w_27 .eql 57 (.tmp 12) (.const (.int .i64 2)) v12 (.int .i64 2) fun v20 w_33 =>
 kIf v20 (
 kFa (cR Tryz.prog R) w_33 59 v1_1 1 fun v21 w_34 =>
 kLoad (cR Tryz.prog R) w_34 2 v21 fun v22 w_35 =>
 kFa (cR Tryz.prog R) w_35 59 v2_1 1 fun v23 w_36 =>
 kStore (cR Tryz.prog R) w_36 2 v23 v22 fun w_37 =>
 kD [] [] (J [] w_37)) (
 kJn (fun J_1 =>
 kEq (cR Tryz.prog R) w_33 .eql 57 (.tmp 12) (.const (.int .i64 3)) v12 (.int .i64 3) fun v25 w_43 =>
 kIf v25 (
 kD [] [] (J_1 [v25] w_43)) (
 kEq (cR Tryz.prog R) w_43 .eql 57 (.tmp 12) (.const (.int .i64 4)) v12 (.int .i64 4) fun v26 w_44 =>
 kD [] [] (J_1 [v26] w_44))) (fun cs_1 w_38 => ∀ ds_1 : List Value,
 (fun j24 =>
 kIf j24 (
 kFa (cR Tryz.prog R) w_38 59 v1_1 2 fun v27 w_39 =>
 kLoad (cR Tryz.prog R) w_39 9 v27 fun v28 w_40 =>
 kFa (cR Tryz.prog R) w_40 59 v2_1 2 fun v29 w_41 =>
 kStore (cR Tryz.prog R) w_41 9 v29 v28 fun w_42 =>
 kD [] [] (J [] w_42)) (
 kD [] [] (J [] w_38))) (cs_1.getD 0 undef))))) (fun cs w_12 => ∀ ds : List Value,
 kLoad (cR Tryz.prog R) w_12 59 v2_1 fun v30 w_13 =>
 kLoad (cR Tryz.prog R) w_13 59 v1_1 fun v31 w_14 =>
 kEq (cR Tryz.prog R) w_14 .eql 59 (.tmp 30) (.tmp 31) v30 v31 fun v32 w_15 =>
 kIf v32 (
 kFa (cR Tryz.prog R) w_15 59 v1_1 0 fun v34 w_16 =>
 kLoad (cR Tryz.prog R) w_16 57 v34 fun v35 w_17 =>
 kBin (cR Tryz.prog R) w_17 .geq 57 v35 (.int .i64 0) fun v36 w_18 =>
 kIf v36 (
 kFa (cR Tryz.prog R) w_18 59 v1_1 0 fun v39 w_19 =>
 kLoad (cR Tryz.prog R) w_19 57 v39 fun v40 w_20 =>
 kBin (cR Tryz.prog R) w_20 .leq 57 v40 (.int .i64 4) fun v41 w_21 =>
 kCall (cR Tryz.prog R) w_21 108 #[v41, (.int .i64 2)] fun v43 w_22 =>
 R (.returned (.tuple #[])) w_22) (
 kCall (cR Tryz.prog R) w_18 108 #[(.bool false), (.int .i64 2)] fun v43_1 w_23 =>
 R (.returned (.tuple #[])) w_23)) (
 kCall (cR Tryz.prog R) w_15 108 #[(.bool false), (.int .i64 2)] fun v43_2 w_24 =>
 R (.returned (.tuple #[])) w_24))
theorem c78 (v0 : Int) (v1 : Int) (v2 : ByteArray) (R : Ending → World → Prop) (w : World) (h : vc78 v0 v1 v2 R w) : Calls Tryz.prog 78 #[(.agg #[(.int .i64 v0), (.int .i64 v1), (.string v2)])] w R :=
  calls_of_vc (A := { loops := [(1000011, []), (1000010, [24])], pars := [] }) (Eq.mpr (show FnVc Tryz.prog { loops := [(1000011, []), (1000010, [24])], pars := [] } 44 78 [(.agg #[(.int .i64 v0), (.int .i64 v1), (.string v2)])] R w = vc78 v0 v1 v2 R w by kernel_rfl) h)

/-- loupe/value.laid -/
def vc79  (R : Ending → World → Prop) (w : World) : Prop :=
 kMkMap (cR Tryz.prog R) w 131 none fun v1 w_1 =>
 kUpd (cR Tryz.prog R) w_1 131 v1 (.int .i64 0) (.func (.func 109) #[] #[]) fun w_2 =>
 kUpd (cR Tryz.prog R) w_2 131 v1 (.int .i64 1) (.func (.func 110) #[] #[]) fun w_3 =>
 kUpd (cR Tryz.prog R) w_3 131 v1 (.int .i64 2) (.func (.func 112) #[] #[]) fun w_4 =>
 kUpd (cR Tryz.prog R) w_4 131 v1 (.int .i64 3) (.func (.func 114) #[] #[]) fun w_5 =>
 kUpd (cR Tryz.prog R) w_5 131 v1 (.int .i64 4) (.func (.func 117) #[] #[]) fun w_6 =>
 R (.returned v1) w_6
theorem c79  (R : Ending → World → Prop) (w : World) (h : vc79  R w) : Calls Tryz.prog 79 #[] w R :=
  calls_of_vc (A := { loops := [], pars := [] }) (Eq.mpr (show FnVc Tryz.prog { loops := [], pars := [] } 3 79 [] R w = vc79  R w by kernel_rfl) h)

/-- (*strings.Builder).copyCheck -/
def vc80 (b : Value) (R : Ending → World → Prop) (w : World) : Prop :=
 kNil (cR Tryz.prog R) w b fun v3 w_1 =>
 kFa (cR Tryz.prog R) w_1 67 v3 0 fun v4 w_2 =>
 kLoad (cR Tryz.prog R) w_2 65 v4 fun v5 w_3 =>
 kEq (cR Tryz.prog R) w_3 .eql 65 (.tmp 5) (.const (.pointer none)) v5 (.pointer none) fun v6 w_4 =>
 kIf v6 (
 kConv (cR Tryz.prog R) w_4 65 169 b fun v9 w_5 =>
 kCall (cR Tryz.prog R) w_5 119 #[v9] fun v10 w_6 =>
 kConv (cR Tryz.prog R) w_6 169 65 v10 fun v11 w_7 =>
 kNil (cR Tryz.prog R) w_7 b fun v12 w_8 =>
 kFa (cR Tryz.prog R) w_8 67 v12 0 fun v13 w_9 =>
 kStore (cR Tryz.prog R) w_9 65 v13 v11 fun w_10 =>
 R (.returned (.tuple #[])) w_10) (
 kNil (cR Tryz.prog R) w_4 b fun v15 w_11 =>
 kFa (cR Tryz.prog R) w_11 67 v15 0 fun v16 w_12 =>
 kLoad (cR Tryz.prog R) w_12 65 v16 fun v17 w_13 =>
 kEq (cR Tryz.prog R) w_13 .neq 65 (.tmp 17) (.tmp 18) v17 b fun v19 w_14 =>
 kIf v19 (
 False) (
 R (.returned (.tuple #[])) w_14))
theorem c80 (b : Value) (R : Ending → World → Prop) (w : World) (h : vc80 b R w) : Calls Tryz.prog 80 #[b] w R :=
  calls_of_vc (A := { loops := [], pars := [] }) (Eq.mpr (show FnVc Tryz.prog { loops := [], pars := [] } 20 80 [b] R w = vc80 b R w by kernel_rfl) h)

/-- slices.ContainsFunc[[]int,int] -/
def vc83 (s : Option Addr) (sn : Nat) (sc : Nat) (f : Value) (R : Ending → World → Prop) (w : World) : Prop :=
 kCall (cR Tryz.prog R) w 122 #[(.slice s sn sc), f] fun v7 w_1 =>
 kBin (cR Tryz.prog R) w_1 .geq 3 v7 (.int .i64 0) fun v8 w_2 =>
 R (.returned v8) w_2
theorem c83 (s : Option Addr) (sn : Nat) (sc : Nat) (f : Value) (R : Ending → World → Prop) (w : World) (h : vc83 s sn sc f R w) : Calls Tryz.prog 83 #[(.slice s sn sc), f] w R :=
  calls_of_vc (A := { loops := [], pars := [] }) (Eq.mpr (show FnVc Tryz.prog { loops := [], pars := [] } 9 83 [(.slice s sn sc), f] R w = vc83 s sn sc f R w by kernel_rfl) h)

/-- loupe/code.in$1 -/
def vc84 (n : Int) (f0 : Value) (f1 : Value) (R : Ending → World → Prop) (w : World) : Prop :=
 kLoad (cR Tryz.prog R) w 3 f0 fun v6 w_1 =>
 kBin (cR Tryz.prog R) w_1 .lss 3 (.int .i64 n) v6 fun v7 w_2 =>
 kIf v7 (
 R (.returned (.bool true)) w_2) (
 kLoad (cR Tryz.prog R) w_2 3 f1 fun v10 w_3 =>
 kBin (cR Tryz.prog R) w_3 .gtr 3 (.int .i64 n) v10 fun v11 w_4 =>
 R (.returned v11) w_4)
theorem c84 (n : Int) (f0 : Value) (f1 : Value) (R : Ending → World → Prop) (w : World) (h : vc84 n f0 f1 R w) : Calls Tryz.prog 84 #[(.int .i64 n), f0, f1] w R :=
  calls_of_vc (A := { loops := [], pars := [] }) (Eq.mpr (show FnVc Tryz.prog { loops := [], pars := [] } 13 84 [(.int .i64 n), f0, f1] R w = vc84 n f0 f1 R w by kernel_rfl) h)

/-- slices.Equal[[]int,int] -/
def vc85 (s1 : Option Addr) (s1n : Nat) (s1c : Nat) (s2 : Option Addr) (s2n : Nat) (s2c : Nat) (R : Ending → World → Prop) (w : World) : Prop :=
 kBlt (cR Tryz.prog R) w .len #[60] 3 #[false] #[(.slice s1 s1n s1c)] fun v7 w_1 =>
 kBlt (cR Tryz.prog R) w_1 .len #[60] 3 #[false] #[(.slice s2 s2n s2c)] fun v9 w_2 =>
 kEq (cR Tryz.prog R) w_2 .neq 3 (.tmp 7) (.tmp 9) v7 v9 fun v10 w_3 =>
 kIf v10 (
 R (.returned (.bool false)) w_3) (
 kBlt (cR Tryz.prog R) w_3 .len #[60] 3 #[false] #[(.slice s1 s1n s1c)] fun v12 w_4 =>
 kLoopF [(.int .i64 0)] w_4 fun cs ds w_5 N =>
 (fun x13 =>
 kBin (cR Tryz.prog R) w_5 .lss 3 x13 v12 fun v14 w_6 =>
 kIf v14 (
 kDrawn true (
 kIa (cQ Tryz.prog) w_6 60 (.slice s1 s1n s1c) x13 fun v18 w_7 =>
 kLoad (cQ Tryz.prog) w_7 3 v18 fun v19 w_8 =>
 kIa (cQ Tryz.prog) w_8 60 (.slice s2 s2n s2c) x13 fun v22 w_9 =>
 kLoad (cQ Tryz.prog) w_9 3 v22 fun v23 w_10 =>
 kEq (cQ Tryz.prog) w_10 .neq 3 (.tmp 19) (.tmp 23) v19 v23 fun v24 w_11 =>
 kDrew w_6 fun w_12 =>
 kIf v24 (
 R (.returned (.bool false)) w_12) (
 kBin (cR Tryz.prog R) w_12 .add 3 x13 (.int .i64 1) fun v25 w_13 =>
 kD [] [] (N [v25] w_13)))) (
 R (.returned (.bool true)) w_6)) (cs.getD 0 undef))
theorem c85 (s1 : Option Addr) (s1n : Nat) (s1c : Nat) (s2 : Option Addr) (s2n : Nat) (s2c : Nat) (R : Ending → World → Prop) (w : World) (h : vc85 s1 s1n s1c s2 s2n s2c R w) : Calls Tryz.prog 85 #[(.slice s1 s1n s1c), (.slice s2 s2n s2c)] w R :=
  calls_of_vc (A := { loops := [(0, [13])], pars := [] }) (Eq.mpr (show FnVc Tryz.prog { loops := [(0, [13])], pars := [] } 26 85 [(.slice s1 s1n s1c), (.slice s2 s2n s2c)] R w = vc85 s1 s1n s1c s2 s2n s2c R w by kernel_rfl) h)

/-- loupe/row.Decode$1 -/
def vc87 (f0 : Value) (R : Ending → World → Prop) (w : World) : Prop :=
 kStore (cR Tryz.prog R) w 104 f0 (.slice none 0 0) fun w_1 =>
 R (.returned (.tuple #[])) w_1
theorem c87 (f0 : Value) (R : Ending → World → Prop) (w : World) (h : vc87 f0 R w) : Calls Tryz.prog 87 #[f0] w R :=
  calls_of_vc (A := { loops := [], pars := [] }) (Eq.mpr (show FnVc Tryz.prog { loops := [], pars := [] } 1 87 [f0] R w = vc87 f0 R w by kernel_rfl) h)

/-- (*loupe/row.reader).number -/
def vc88 (r : Value) (R : Ending → World → Prop) (w : World) : Prop :=
 kNil (cR Tryz.prog R) w r fun v8 w_1 =>
 kFa (cR Tryz.prog R) w_1 144 v8 0 fun v9 w_2 =>
 kFa (cR Tryz.prog R) w_2 142 v9 0 fun v10 w_3 =>
 kLoad (cR Tryz.prog R) w_3 44 v10 fun v11 w_4 =>
 kCall (cR Tryz.prog R) w_4 123 #[v11] fun v12 w_5 =>
 kExt v12 0 fun v13 =>
 kExt v12 1 fun v14 =>
 kExt v12 2 fun v15 =>
 kEq (cR Tryz.prog R) w_5 .eql 26 (.tmp 16) (.const (.int .i64 0)) v15 (.int .i64 0) fun v17 w_6 =>
 kCall (cR Tryz.prog R) w_6 89 #[v17, (.int .i64 210)] fun v18 w_7 =>
 kNil (cR Tryz.prog R) w_7 r fun v20 w_8 =>
 kFa (cR Tryz.prog R) w_8 144 v20 0 fun v21 w_9 =>
 kCall (cR Tryz.prog R) w_9 124 #[v21, v14] fun v23 w_10 =>
 R (.returned v13) w_10
theorem c88 (r : Value) (R : Ending → World → Prop) (w : World) (h : vc88 r R w) : Calls Tryz.prog 88 #[r] w R :=
  calls_of_vc (A := { loops := [], pars := [] }) (Eq.mpr (show FnVc Tryz.prog { loops := [], pars := [] } 25 88 [r] R w = vc88 r R w by kernel_rfl) h)

/-- loupe/row.must -/
def vc89 (fine : Bool) (eA : Int) (R : Ending → World → Prop) (w : World) : Prop :=
 kUn (cR Tryz.prog R) w .not (.bool fine) fun v5 w_1 =>
 kIf v5 (
 kMkI (cR Tryz.prog R) w_1 26 (.int .i64 eA) fun v7 w_2 =>
 kPanic (cR Tryz.prog R) w_2 v7) (
 R (.returned (.tuple #[])) w_1)
theorem c89 (fine : Bool) (eA : Int) (R : Ending → World → Prop) (w : World) (h : vc89 fine eA R w) : Calls Tryz.prog 89 #[(.bool fine), (.int .i64 eA)] w R :=
  calls_of_vc (A := { loops := [], pars := [] }) (Eq.mpr (show FnVc Tryz.prog { loops := [], pars := [] } 8 89 [(.bool fine), (.int .i64 eA)] R w = vc89 fine eA R w by kernel_rfl) h)

/-- (*loupe/row.reader).value -/
def vc90 (r : Value) (R : Ending → World → Prop) (w : World) : Prop :=
 kAlloc (cR Tryz.prog R) w 59 fun v2 w_1 =>
 kNil (cR Tryz.prog R) w_1 r fun v8 w_2 =>
 kFa (cR Tryz.prog R) w_2 144 v8 0 fun v9 w_3 =>
 kCall (cR Tryz.prog R) w_3 124 #[v9, (.int .i64 1)] fun v10 w_4 =>
 kIa (cR Tryz.prog R) w_4 44 v10 (.int .i64 0) fun v11 w_5 =>
 kLoad (cR Tryz.prog R) w_5 5 v11 fun v12 w_6 =>
 kConv (cR Tryz.prog R) w_6 5 57 v12 fun v13 w_7 =>
 kFa (cR Tryz.prog R) w_7 59 v2 0 fun v14 w_8 =>
 kStore (cR Tryz.prog R) w_8 57 v14 v13 fun w_9 =>
 kFa (cR Tryz.prog R) w_9 59 v2 0 fun v15 w_10 =>
 kLoad (cR Tryz.prog R) w_10 57 v15 fun v16 w_11 =>
 kEq (cR Tryz.prog R) w_11 .eql 57 (.tmp 16) (.const (.int .i64 0)) v16 (.int .i64 0) fun v19 w_12 =>
 kIf v19 (
 kLoad (cR Tryz.prog R) w_12 59 v2 fun v66 w_13 =>
 kStore (cR Tryz.prog R) w_13 59 v2 v66 fun w_14 =>
 RetK Tryz.prog [.cell v2 59] R w_14) (
 kEq (cR Tryz.prog R) w_12 .eql 57 (.tmp 16) (.const (.int .i64 1)) v16 (.int .i64 1) fun v21 w_15 =>
 kIf v21 (
 kNil (cR Tryz.prog R) w_15 r fun v23 w_16 =>
 kFa (cR Tryz.prog R) w_16 144 v23 0 fun v24 w_17 =>
 kCall (cR Tryz.prog R) w_17 124 #[v24, (.int .i64 1)] fun v25 w_18 =>
 kIa (cR Tryz.prog R) w_18 44 v25 (.int .i64 0) fun v26 w_19 =>
 kLoad (cR Tryz.prog R) w_19 5 v26 fun v27 w_20 =>
 kConv (cR Tryz.prog R) w_20 5 2 v27 fun v28 w_21 =>
 kFa (cR Tryz.prog R) w_21 59 v2 1 fun v29 w_22 =>
 kStore (cR Tryz.prog R) w_22 2 v29 v28 fun w_23 =>
 kLoad (cR Tryz.prog R) w_23 59 v2 fun v66_1 w_24 =>
 kStore (cR Tryz.prog R) w_24 59 v2 v66_1 fun w_25 =>
 RetK Tryz.prog [.cell v2 59] R w_25) (
 kEq (cR Tryz.prog R) w_15 .eql 57 (.tmp 16) (.const (.int .i64 2)) v16 (.int .i64 2) fun v31 w_26 =>
 kIf v31 (
 kCall (cR Tryz.prog R) w_26 88 #[r] fun v33 w_27 =>
 kBin (cR Tryz.prog R) w_27 .shr 145 v33 (.int .u64 1) fun v35 w_28 =>
 kConv (cR Tryz.prog R) w_28 145 2 v35 fun v36 w_29 =>
 kBin (cR Tryz.prog R) w_29 .and 145 v33 (.int .u64 1) fun v38 w_30 =>
 kConv (cR Tryz.prog R) w_30 145 2 v38 fun v39 w_31 =>
 kUn (cR Tryz.prog R) w_31 .neg v39 fun v40 w_32 =>
 kBin (cR Tryz.prog R) w_32 .xor 2 v36 v40 fun v41 w_33 =>
 kFa (cR Tryz.prog R) w_33 59 v2 1 fun v42 w_34 =>
 kStore (cR Tryz.prog R) w_34 2 v42 v41 fun w_35 =>
 kLoad (cR Tryz.prog R) w_35 59 v2 fun v66_2 w_36 =>
 kStore (cR Tryz.prog R) w_36 59 v2 v66_2 fun w_37 =>
 RetK Tryz.prog [.cell v2 59] R w_37) (
 kJn (fun J =>
 kEq (cR Tryz.prog R) w_26 .eql 57 (.tmp 16) (.const (.int .i64 3)) v16 (.int .i64 3) fun v44 w_54 =>
 kIf v44 (
 kD [] [] (J [v44] w_54)) (
 kEq (cR Tryz.prog R) w_54 .eql 57 (.tmp 16) (.const (.int .i64 4)) v16 (.int .i64 4) fun v45 w_55 =>
 kD [] [] (J [v45] w_55))) (fun cs w_38 => ∀ ds : List Value,
 (fun j43 =>
 kIf j43 (
 kNil (cR Tryz.prog R) w_38 r fun v48 w_39 =>
 kFa (cR Tryz.prog R) w_39 144 v48 0 fun v49 w_40 =>
 kFa (cR Tryz.prog R) w_40 142 v49 0 fun v50 w_41 =>
 kLoad (cR Tryz.prog R) w_41 44 v50 fun v51 w_42 =>
 kCall (cR Tryz.prog R) w_42 125 #[v51] fun v52 w_43 =>
 kExt v52 0 fun v53 =>
 kExt v52 1 fun v54 =>
 kExt v52 2 fun v55 =>
 kEq (cR Tryz.prog R) w_43 .eql 26 (.tmp 56) (.const (.int .i64 0)) v55 (.int .i64 0) fun v57 w_44 =>
 kCall (cR Tryz.prog R) w_44 89 #[v57, (.int .i64 210)] fun v58 w_45 =>
 kNil (cR Tryz.prog R) w_45 r fun v60 w_46 =>
 kFa (cR Tryz.prog R) w_46 144 v60 0 fun v61 w_47 =>
 kCall (cR Tryz.prog R) w_47 124 #[v61, v54] fun v63 w_48 =>
 kFa (cR Tryz.prog R) w_48 59 v2 2 fun v65 w_49 =>
 kStore (cR Tryz.prog R) w_49 9 v65 v53 fun w_50 =>
 kLoad (cR Tryz.prog R) w_50 59 v2 fun v66_3 w_51 =>
 kStore (cR Tryz.prog R) w_51 59 v2 v66_3 fun w_52 =>
 RetK Tryz.prog [.cell v2 59] R w_52) (
 kMkI (cR Tryz.prog R) w_38 26 (.int .i64 210) fun v17 w_53 =>
 kPanic (cR Tryz.prog R) w_53 v17)) (cs.getD 0 undef)))))
theorem c90 (r : Value) (R : Ending → World → Prop) (w : World) (h : vc90 r R w) : Calls Tryz.prog 90 #[r] w R :=
  calls_of_vc (A := { loops := [(1000012, [43])], pars := [] }) (Eq.mpr (show FnVc Tryz.prog { loops := [(1000012, [43])], pars := [] } 67 90 [r] R w = vc90 r R w by kernel_rfl) h)

/-- loupe/row.Encode -/
def vc91 (row : Option Addr) (rown : Nat) (rowc : Nat) (R : Ending → World → Prop) (w : World) : Prop :=
 kAlloc (cR Tryz.prog R) w 44 fun v2 w_1 =>
 kAlloc (cR Tryz.prog R) w_1 26 fun v3 w_2 =>
 (fun (c : Cx) =>
 kCall c w_2 127 #[(.slice row rown rowc)] fun v6 w_3 =>
 kStore c w_3 44 v2 v6 fun w_4 =>
 kStore c w_4 26 v3 (.int .i64 0) fun w_5 =>
 Lv Tryz.prog [.cell v2 44, .cell v3 26] R [{ target := .fn (.func 86) #[], args := #[v3, (.func (.func 126) #[] #[v2])] }] .returning w_5) ⟨Tryz.prog, fun ch w => Lv Tryz.prog [.cell v2 44, .cell v3 26] R [{ target := .fn (.func 86) #[], args := #[v3, (.func (.func 126) #[] #[v2])] }] (.panicking ch) w, false⟩
theorem c91 (row : Option Addr) (rown : Nat) (rowc : Nat) (R : Ending → World → Prop) (w : World) (h : vc91 row rown rowc R w) : Calls Tryz.prog 91 #[(.slice row rown rowc)] w R :=
  calls_of_vc (A := { loops := [], pars := [] }) (Eq.mpr (show FnVc Tryz.prog { loops := [], pars := [] } 7 91 [(.slice row rown rowc)] R w = vc91 row rown rowc R w by kernel_rfl) h)

/-- loupe/code.some[loupe/api.Value,int] -/
def vc92 (l : Option Addr) (ln : Nat) (lc : Nat) (tell : Value) (R : Ending → World → Prop) (w : World) : Prop :=
 kBlt (cR Tryz.prog R) w .len #[104] 3 #[false] #[(.slice l ln lc)] fun v8 w_1 =>
 kLoopF [(.slice none 0 0), (.int .i64 0)] w_1 fun cs ds w_2 N =>
 (fun x4 x9 =>
 kBin (cR Tryz.prog R) w_2 .lss 3 x9 v8 fun v10 w_3 =>
 kIf v10 (
 kIa (cR Tryz.prog R) w_3 104 (.slice l ln lc) x9 fun v11 w_4 =>
 kLoad (cR Tryz.prog R) w_4 59 v11 fun v12 w_5 =>
 kAlloc (cR Tryz.prog R) w_5 59 fun v6 w_6 =>
 kStore (cR Tryz.prog R) w_6 59 v6 v12 fun w_7 =>
 kLoad (cR Tryz.prog R) w_7 59 v6 fun v15 w_8 =>
 kCallV (cR Tryz.prog R) w_8 tell #[v15] fun v16 w_9 =>
 kBuildS (cR Tryz.prog R) w_9 60 1 #[(0, v16)] fun v17 w_10 =>
 kBlt (cR Tryz.prog R) w_10 .append #[60, 60] 60 #[false, false] #[x4, v17] fun v18 w_11 =>
 kBin (cR Tryz.prog R) w_11 .add 3 x9 (.int .i64 1) fun v19 w_12 =>
 kD [] [] (N [v18, v19] w_12)) (
 R (.returned x4) w_3)) (cs.getD 0 undef) (cs.getD 1 undef)
theorem c92 (l : Option Addr) (ln : Nat) (lc : Nat) (tell : Value) (R : Ending → World → Prop) (w : World) (h : vc92 l ln lc tell R w) : Calls Tryz.prog 92 #[(.slice l ln lc), tell] w R :=
  calls_of_vc (A := { loops := [(0, [4, 9])], pars := [] }) (Eq.mpr (show FnVc Tryz.prog { loops := [(0, [4, 9])], pars := [] } 21 92 [(.slice l ln lc), tell] R w = vc92 l ln lc tell R w by kernel_rfl) h)

/-- loupe/code.ins$1 -/
def vc93 (v0 : Int) (v1 : Int) (v2 : ByteArray) (R : Ending → World → Prop) (w : World) : Prop :=
 kBox (cR Tryz.prog R) w 59 (.agg #[(.int .i64 v0), (.int .i64 v1), (.string v2)]) fun v1_1 w_1 =>
 kFa (cR Tryz.prog R) w_1 59 v1_1 0 fun v3 w_2 =>
 kLoad (cR Tryz.prog R) w_2 57 v3 fun v4 w_3 =>
 kEq (cR Tryz.prog R) w_3 .eql 57 (.tmp 4) (.const (.int .i64 2)) v4 (.int .i64 2) fun v5 w_4 =>
 kIf v5 (
 kFa (cR Tryz.prog R) w_4 59 v1_1 1 fun v7 w_5 =>
 kLoad (cR Tryz.prog R) w_5 2 v7 fun v8 w_6 =>
 kBin (cR Tryz.prog R) w_6 .geq 2 v8 (.int .i64 (-1)) fun v9 w_7 =>
 kIf v9 (
 kFa (cR Tryz.prog R) w_7 59 v1_1 1 fun v12 w_8 =>
 kLoad (cR Tryz.prog R) w_8 2 v12 fun v13 w_9 =>
 kBin (cR Tryz.prog R) w_9 .leq 2 v13 (.int .i64 2147483647) fun v14 w_10 =>
 kCall (cR Tryz.prog R) w_10 43 #[v14, (.int .i64 390)] fun v16 w_11 =>
 kFa (cR Tryz.prog R) w_11 59 v1_1 1 fun v17 w_12 =>
 kLoad (cR Tryz.prog R) w_12 2 v17 fun v18 w_13 =>
 R (.returned v18) w_13) (
 kCall (cR Tryz.prog R) w_7 43 #[(.bool false), (.int .i64 390)] fun v16_1 w_14 =>
 kFa (cR Tryz.prog R) w_14 59 v1_1 1 fun v17_1 w_15 =>
 kLoad (cR Tryz.prog R) w_15 2 v17_1 fun v18_1 w_16 =>
 R (.returned v18_1) w_16)) (
 kCall (cR Tryz.prog R) w_4 43 #[(.bool false), (.int .i64 390)] fun v16_2 w_17 =>
 kFa (cR Tryz.prog R) w_17 59 v1_1 1 fun v17_2 w_18 =>
 kLoad (cR Tryz.prog R) w_18 2 v17_2 fun v18_2 w_19 =>
 R (.returned v18_2) w_19)
theorem c93 (v0 : Int) (v1 : Int) (v2 : ByteArray) (R : Ending → World → Prop) (w : World) (h : vc93 v0 v1 v2 R w) : Calls Tryz.prog 93 #[(.agg #[(.int .i64 v0), (.int .i64 v1), (.string v2)])] w R :=
  calls_of_vc (A := { loops := [], pars := [] }) (Eq.mpr (show FnVc Tryz.prog { loops := [], pars := [] } 19 93 [(.agg #[(.int .i64 v0), (.int .i64 v1), (.string v2)])] R w = vc93 v0 v1 v2 R w by kernel_rfl) h)

/-- loupe/code.some[int,loupe/api.Value] -/
def vc96 (l : Option Addr) (ln : Nat) (lc : Nat) (tell : Value) (R : Ending → World → Prop) (w : World) : Prop :=
 kBlt (cR Tryz.prog R) w .len #[60] 3 #[false] #[(.slice l ln lc)] fun v8 w_1 =>
 kLoopF [(.slice none 0 0), (.int .i64 0)] w_1 fun cs ds w_2 N =>
 (fun x4 x9 =>
 kBin (cR Tryz.prog R) w_2 .lss 3 x9 v8 fun v10 w_3 =>
 kIf v10 (
 kIa (cR Tryz.prog R) w_3 60 (.slice l ln lc) x9 fun v11 w_4 =>
 kLoad (cR Tryz.prog R) w_4 3 v11 fun v12 w_5 =>
 kCallV (cR Tryz.prog R) w_5 tell #[v12] fun v16 w_6 =>
 kBuildS (cR Tryz.prog R) w_6 104 1 #[(0, v16)] fun v17 w_7 =>
 kBlt (cR Tryz.prog R) w_7 .append #[104, 104] 104 #[false, false] #[x4, v17] fun v18 w_8 =>
 kBin (cR Tryz.prog R) w_8 .add 3 x9 (.int .i64 1) fun v19 w_9 =>
 kD [] [] (N [v18, v19] w_9)) (
 R (.returned x4) w_3)) (cs.getD 0 undef) (cs.getD 1 undef)
theorem c96 (l : Option Addr) (ln : Nat) (lc : Nat) (tell : Value) (R : Ending → World → Prop) (w : World) (h : vc96 l ln lc tell R w) : Calls Tryz.prog 96 #[(.slice l ln lc), tell] w R :=
  calls_of_vc (A := { loops := [(0, [4, 9])], pars := [] }) (Eq.mpr (show FnVc Tryz.prog { loops := [(0, [4, 9])], pars := [] } 21 96 [(.slice l ln lc), tell] R w = vc96 l ln lc tell R w by kernel_rfl) h)

/-- (*loupe/code.writer).put$1 -/
def vc97 (n : Int) (R : Ending → World → Prop) (w : World) : Prop :=
 kAlloc (cR Tryz.prog R) w 59 fun v2 w_1 =>
 kBuild (cR Tryz.prog R) w_1 59 #[(0, (.int .i64 2)), (1, (.int .i64 n))] fun v4 w_2 =>
 kStore (cR Tryz.prog R) w_2 59 v2 v4 fun w_3 =>
 RetK Tryz.prog [.cell v2 59] R w_3
theorem c97 (n : Int) (R : Ending → World → Prop) (w : World) (h : vc97 n R w) : Calls Tryz.prog 97 #[(.int .i64 n)] w R :=
  calls_of_vc (A := { loops := [], pars := [] }) (Eq.mpr (show FnVc Tryz.prog { loops := [], pars := [] } 5 97 [(.int .i64 n)] R w = vc97 n R w by kernel_rfl) h)

/-- slices.Chunk[[]int,int] -/
def vc98 (s : Option Addr) (sn : Nat) (sc : Nat) (n : Int) (R : Ending → World → Prop) (w : World) : Prop :=
 kBox (cR Tryz.prog R) w 60 (.slice s sn sc) fun v2 w_1 =>
 kBox (cR Tryz.prog R) w_1 3 (.int .i64 n) fun v3 w_2 =>
 kLoad (cR Tryz.prog R) w_2 3 v3 fun v5 w_3 =>
 kBin (cR Tryz.prog R) w_3 .lss 3 v5 (.int .i64 1) fun v6 w_4 =>
 kIf v6 (
 kMkI (cR Tryz.prog R) w_4 9 (.string ⟨#[99, 97, 110, 110, 111, 116, 32, 98, 101, 32, 108, 101, 115, 115, 32, 116, 104, 97, 110, 32, 49]⟩) fun v7 w_5 =>
 kPanic (cR Tryz.prog R) w_5 v7) (
 R (.returned (.func (.func 129) #[] #[v2, v3])) w_4)
theorem c98 (s : Option Addr) (sn : Nat) (sc : Nat) (n : Int) (R : Ending → World → Prop) (w : World) (h : vc98 s sn sc n R w) : Calls Tryz.prog 98 #[(.slice s sn sc), (.int .i64 n)] w R :=
  calls_of_vc (A := { loops := [], pars := [] }) (Eq.mpr (show FnVc Tryz.prog { loops := [], pars := [] } 9 98 [(.slice s sn sc), (.int .i64 n)] R w = vc98 s sn sc n R w by kernel_rfl) h)

/-- (*loupe/code.writer).put$2 -/
def vc99 (n : Int) (R : Ending → World → Prop) (w : World) : Prop :=
 kBin (cR Tryz.prog R) w .shr 3 (.int .i64 n) (.int .u64 8) fun v4 w_1 =>
 kConv (cR Tryz.prog R) w_1 3 5 v4 fun v5 w_2 =>
 kConv (cR Tryz.prog R) w_2 3 5 (.int .i64 n) fun v7 w_3 =>
 kBuildS (cR Tryz.prog R) w_3 44 2 #[(0, v5), (1, v7)] fun v8 w_4 =>
 kConv (cR Tryz.prog R) w_4 44 9 v8 fun v9 w_5 =>
 R (.returned v9) w_5
theorem c99 (n : Int) (R : Ending → World → Prop) (w : World) (h : vc99 n R w) : Calls Tryz.prog 99 #[(.int .i64 n)] w R :=
  calls_of_vc (A := { loops := [], pars := [] }) (Eq.mpr (show FnVc Tryz.prog { loops := [], pars := [] } 10 99 [(.int .i64 n)] R w = vc99 n R w by kernel_rfl) h)

/-- loupe/louperef03.Number -/
def vc100 (n : Int) (R : Ending → World → Prop) (w : World) : Prop :=
 kLoopF [(.slice none 0 0), (.int .u64 n)] w fun cs ds w_1 N =>
 (fun x3 x0 =>
 kBin (cR Tryz.prog R) w_1 .geq 145 x0 (.int .u64 128) fun v5 w_2 =>
 kIf v5 (
 kBin (cR Tryz.prog R) w_2 .rem 145 x0 (.int .u64 128) fun v8 w_3 =>
 kBin (cR Tryz.prog R) w_3 .add 145 v8 (.int .u64 128) fun v9 w_4 =>
 kConv (cR Tryz.prog R) w_4 145 5 v9 fun v10 w_5 =>
 kBuildS (cR Tryz.prog R) w_5 44 1 #[(0, v10)] fun v11 w_6 =>
 kBlt (cR Tryz.prog R) w_6 .append #[44, 44] 44 #[false, false] #[x3, v11] fun v12 w_7 =>
 kBin (cR Tryz.prog R) w_7 .quo 145 x0 (.int .u64 128) fun v14 w_8 =>
 kD [] [] (N [v12, v14] w_8)) (
 kConv (cR Tryz.prog R) w_2 145 5 x0 fun v17 w_9 =>
 kBuildS (cR Tryz.prog R) w_9 44 1 #[(0, v17)] fun v18 w_10 =>
 kBlt (cR Tryz.prog R) w_10 .append #[44, 44] 44 #[false, false] #[x3, v18] fun v19 w_11 =>
 R (.returned v19) w_11)) (cs.getD 0 undef) (cs.getD 1 undef)
theorem c100 (n : Int) (R : Ending → World → Prop) (w : World) (h : vc100 n R w) : Calls Tryz.prog 100 #[(.int .u64 n)] w R :=
  calls_of_vc (A := { loops := [(0, [3, 0])], pars := [] }) (Eq.mpr (show FnVc Tryz.prog { loops := [(0, [3, 0])], pars := [] } 20 100 [(.int .u64 n)] R w = vc100 n R w by kernel_rfl) h)

/-- loupe/louperef11.fold -/
def vc101 (n : Int) (R : Ending → World → Prop) (w : World) : Prop :=
 kBin (cR Tryz.prog R) w .geq 2 (.int .i64 n) (.int .i64 0) fun v4 w_1 =>
 kIf v4 (
 kConv (cR Tryz.prog R) w_1 2 145 (.int .i64 n) fun v6 w_2 =>
 kBin (cR Tryz.prog R) w_2 .mul 145 (.int .u64 2) v6 fun v7 w_3 =>
 R (.returned v7) w_3) (
 kBin (cR Tryz.prog R) w_1 .add 2 (.int .i64 n) (.int .i64 1) fun v9 w_4 =>
 kUn (cR Tryz.prog R) w_4 .neg v9 fun v10 w_5 =>
 kConv (cR Tryz.prog R) w_5 2 145 v10 fun v11 w_6 =>
 kBin (cR Tryz.prog R) w_6 .mul 145 (.int .u64 2) v11 fun v12 w_7 =>
 kBin (cR Tryz.prog R) w_7 .add 145 v12 (.int .u64 1) fun v13 w_8 =>
 R (.returned v13) w_8)
theorem c101 (n : Int) (R : Ending → World → Prop) (w : World) (h : vc101 n R w) : Calls Tryz.prog 101 #[(.int .i64 n)] w R :=
  calls_of_vc (A := { loops := [], pars := [] }) (Eq.mpr (show FnVc Tryz.prog { loops := [], pars := [] } 14 101 [(.int .i64 n)] R w = vc101 n R w by kernel_rfl) h)

/-- loupe/louperef03.String -/
def vc102 (s : ByteArray) (R : Ending → World → Prop) (w : World) : Prop :=
 kBlt (cR Tryz.prog R) w .len #[9] 3 #[false] #[(.string s)] fun v4 w_1 =>
 kConv (cR Tryz.prog R) w_1 3 145 v4 fun v5 w_2 =>
 kCall (cR Tryz.prog R) w_2 100 #[v5] fun v6 w_3 =>
 kBlt (cR Tryz.prog R) w_3 .append #[44, 9] 44 #[false, false] #[v6, (.string s)] fun v8 w_4 =>
 R (.returned v8) w_4
theorem c102 (s : ByteArray) (R : Ending → World → Prop) (w : World) (h : vc102 s R w) : Calls Tryz.prog 102 #[(.string s)] w R :=
  calls_of_vc (A := { loops := [], pars := [] }) (Eq.mpr (show FnVc Tryz.prog { loops := [], pars := [] } 9 102 [(.string s)] R w = vc102 s R w by kernel_rfl) h)

/-- loupe/louperef29.number -/
def vc103 (n : Int) (R : Ending → World → Prop) (w : World) : Prop :=
 kAlloc (cR Tryz.prog R) w 59 fun v2 w_1 =>
 kBuild (cR Tryz.prog R) w_1 59 #[(0, (.int .i64 2)), (1, (.int .i64 n))] fun v4 w_2 =>
 kStore (cR Tryz.prog R) w_2 59 v2 v4 fun w_3 =>
 RetK Tryz.prog [.cell v2 59] R w_3
theorem c103 (n : Int) (R : Ending → World → Prop) (w : World) (h : vc103 n R w) : Calls Tryz.prog 103 #[(.int .i64 n)] w R :=
  calls_of_vc (A := { loops := [], pars := [] }) (Eq.mpr (show FnVc Tryz.prog { loops := [], pars := [] } 5 103 [(.int .i64 n)] R w = vc103 n R w by kernel_rfl) h)

/-- loupe/value.Check -/
def vc104 (v0 : Int) (v1 : Int) (v2 : ByteArray) (R : Ending → World → Prop) (w : World) : Prop :=
 kBox (cR Tryz.prog R) w 59 (.agg #[(.int .i64 v0), (.int .i64 v1), (.string v2)]) fun v1_1 w_1 =>
 kAlloc (cR Tryz.prog R) w_1 26 fun v2_1 w_2 =>
 (fun (c : Cx) =>
 kLoad c w_2 59 v1_1 fun v3 w_3 =>
 kCall c w_3 78 #[v3] fun v4 w_4 =>
 kStore c w_4 26 v2_1 (.int .i64 0) fun w_5 =>
 Lv Tryz.prog [.cell v2_1 26] R [{ target := .fn (.func 76) #[], args := #[v2_1, (.func (.func 130) #[] #[])] }] .returning w_5) ⟨Tryz.prog, fun ch w => Lv Tryz.prog [.cell v2_1 26] R [{ target := .fn (.func 76) #[], args := #[v2_1, (.func (.func 130) #[] #[])] }] (.panicking ch) w, false⟩
theorem c104 (v0 : Int) (v1 : Int) (v2 : ByteArray) (R : Ending → World → Prop) (w : World) (h : vc104 v0 v1 v2 R w) : Calls Tryz.prog 104 #[(.agg #[(.int .i64 v0), (.int .i64 v1), (.string v2)])] w R :=
  calls_of_vc (A := { loops := [], pars := [] }) (Eq.mpr (show FnVc Tryz.prog { loops := [], pars := [] } 5 104 [(.agg #[(.int .i64 v0), (.int .i64 v1), (.string v2)])] R w = vc104 v0 v1 v2 R w by kernel_rfl) h)

/-- loupe/code.args$1 -/
def vc105 (x0 : Int) (x1 : Int) (x2 : Int) (x3 : Int) (x4 : Int) (x5 : Int) (x6 : Int) (x7 : ByteArray) (x8 : ByteArray) (x9 : Option Addr) (x9n : Nat) (x9c : Nat) (f0 : Value) (R : Ending → World → Prop) (w : World) : Prop :=
 kBox (cR Tryz.prog R) w 62 (.agg #[(.int .i64 x0), (.int .i64 x1), (.int .i64 x2), (.int .i64 x3), (.int .i64 x4), (.int .i64 x5), (.int .i64 x6), (.string x7), (.string x8), (.slice x9 x9n x9c)]) fun v2 w_1 =>
 kAlloc (cR Tryz.prog R) w_1 62 fun v3 w_2 =>
 kDrawn true (
 kDrawn true (
 kFa (cQ Tryz.prog) w_2 62 v2 7 fun v5 w_3 =>
 kLoad (cQ Tryz.prog) w_3 60 v5 fun v6 w_4 =>
 kBuild (cQ Tryz.prog) w_4 62 #[(7, v6)] fun v7 w_5 =>
 kFa (cQ Tryz.prog) w_5 62 v2 7 fun v8 w_6 =>
 kLoad (cQ Tryz.prog) w_6 60 v8 fun v9 w_7 =>
 kBlt (cQ Tryz.prog) w_7 .len #[60] 3 #[false] #[v9] fun v10 w_8 =>
 kLoad (cQ Tryz.prog) w_8 3 f0 fun v11 w_9 =>
 kBin (cQ Tryz.prog) w_9 .geq 3 v10 v11 fun v12 w_10 =>
 kIf v12 (
 kFa (cQ Tryz.prog) w_10 62 v2 7 fun v14 w_11 =>
 kLoad (cQ Tryz.prog) w_11 60 v14 fun v15 w_12 =>
 kBlt (cQ Tryz.prog) w_12 .len #[60] 3 #[false] #[v15] fun v16 w_13 =>
 kBin (cQ Tryz.prog) w_13 .leq 3 v16 (.int .i64 200) fun v17 w_14 =>
 kIf v17 (
 kFa (cQ Tryz.prog) w_14 62 v2 7 fun v20 w_15 =>
 kLoad (cQ Tryz.prog) w_15 60 v20 fun v21 w_16 =>
 kDrew w_16 fun w_17 =>
 (fun (c : Cx) =>
 kCall c w_17 36 #[(.int .i64 0), (.int .i64 399), v21] fun v22 w_18 =>
 kFa (cQ Tryz.prog) w_18 62 v2 7 fun v5_1 w_19 =>
 kSame v5_1 v5 (
 kLoad (cQ Tryz.prog) w_18 60 v5 fun v6_1 w_20 =>
 kSame v6_1 v6 (
 kBuild (cQ Tryz.prog) w_18 62 #[(7, v6)] fun v7_1 w_21 =>
 kSame v7_1 v7 (
 kDrew w_18 fun w_22 =>
 kStore c w_22 62 v3 v7 fun w_23 =>
 kDrew w_23 fun w_24 =>
 RetK Tryz.prog [.cell v3 62, .val v22] R w_24)))) ⟨Tryz.prog, fun ch w => ∀ _ : List Value, R (.panicked ch) w, false⟩) (
 kDrew w_14 fun w_25 =>
 (fun (c_1 : Cx) =>
 kStore c_1 w_25 62 v3 v7 fun w_26 =>
 kDrew w_26 fun w_27 =>
 RetK Tryz.prog [.cell v3 62, .val (.bool false)] R w_27) ⟨Tryz.prog, fun ch w => ∀ _ : List Value, R (.panicked ch) w, false⟩)) (
 kDrew w_10 fun w_28 =>
 (fun (c_2 : Cx) =>
 kStore c_2 w_28 62 v3 v7 fun w_29 =>
 kDrew w_29 fun w_30 =>
 RetK Tryz.prog [.cell v3 62, .val (.bool false)] R w_30) ⟨Tryz.prog, fun ch w => ∀ _ : List Value, R (.panicked ch) w, false⟩)))
theorem c105 (x0 : Int) (x1 : Int) (x2 : Int) (x3 : Int) (x4 : Int) (x5 : Int) (x6 : Int) (x7 : ByteArray) (x8 : ByteArray) (x9 : Option Addr) (x9n : Nat) (x9c : Nat) (f0 : Value) (R : Ending → World → Prop) (w : World) (h : vc105 x0 x1 x2 x3 x4 x5 x6 x7 x8 x9 x9n x9c f0 R w) : Calls Tryz.prog 105 #[(.agg #[(.int .i64 x0), (.int .i64 x1), (.int .i64 x2), (.int .i64 x3), (.int .i64 x4), (.int .i64 x5), (.int .i64 x6), (.string x7), (.string x8), (.slice x9 x9n x9c)]), f0] w R :=
  calls_of_vc (A := { loops := [], pars := [], chs := [(1, (.q 0 (.q 1 (.q 2 (.q 3 (.q 4 (.q 5 (.q 6 (.q 7 (.q 8 (.q 9 (.q 10 (.q 11 (.q 12 (.q 13 (.q 14 (.q 15 (.q 16 (.e 17 (.q 18 (.e 19 .done)))))))))))))))))))))] }) (Eq.mpr (show FnVc Tryz.prog { loops := [], pars := [], chs := [(1, (.q 0 (.q 1 (.q 2 (.q 3 (.q 4 (.q 5 (.q 6 (.q 7 (.q 8 (.q 9 (.q 10 (.q 11 (.q 12 (.q 13 (.q 14 (.q 15 (.q 16 (.e 17 (.q 18 (.e 19 .done)))))))))))))))))))))] } 24 105 [(.agg #[(.int .i64 x0), (.int .i64 x1), (.int .i64 x2), (.int .i64 x3), (.int .i64 x4), (.int .i64 x5), (.int .i64 x6), (.string x7), (.string x8), (.slice x9 x9n x9c)]), f0] R w = vc105 x0 x1 x2 x3 x4 x5 x6 x7 x8 x9 x9n x9c f0 R w by kernel_rfl) h)

/-- slices.Contains[[]string,string] -/
def vc106 (s : Option Addr) (sn : Nat) (sc : Nat) (v : ByteArray) (R : Ending → World → Prop) (w : World) : Prop :=
 kCall (cR Tryz.prog R) w 131 #[(.slice s sn sc), (.string v)] fun v7 w_1 =>
 kBin (cR Tryz.prog R) w_1 .geq 3 v7 (.int .i64 0) fun v8 w_2 =>
 R (.returned v8) w_2
theorem c106 (s : Option Addr) (sn : Nat) (sc : Nat) (v : ByteArray) (R : Ending → World → Prop) (w : World) (h : vc106 s sn sc v R w) : Calls Tryz.prog 106 #[(.slice s sn sc), (.string v)] w R :=
  calls_of_vc (A := { loops := [], pars := [] }) (Eq.mpr (show FnVc Tryz.prog { loops := [], pars := [] } 9 106 [(.slice s sn sc), (.string v)] R w = vc106 s sn sc v R w by kernel_rfl) h)

/-- loupe/value.must -/
def vc108 (fine : Bool) (eA : Int) (R : Ending → World → Prop) (w : World) : Prop :=
 kUn (cR Tryz.prog R) w .not (.bool fine) fun v5 w_1 =>
 kIf v5 (
 kMkI (cR Tryz.prog R) w_1 26 (.int .i64 eA) fun v7 w_2 =>
 kPanic (cR Tryz.prog R) w_2 v7) (
 R (.returned (.tuple #[])) w_1)
theorem c108 (fine : Bool) (eA : Int) (R : Ending → World → Prop) (w : World) (h : vc108 fine eA R w) : Calls Tryz.prog 108 #[(.bool fine), (.int .i64 eA)] w R :=
  calls_of_vc (A := { loops := [], pars := [] }) (Eq.mpr (show FnVc Tryz.prog { loops := [], pars := [] } 8 108 [(.bool fine), (.int .i64 eA)] R w = vc108 fine eA R w by kernel_rfl) h)

/-- loupe/value.laid$3 -/
def vc112 (v0 : Int) (v1 : Int) (v2 : ByteArray) (R : Ending → World → Prop) (w : World) : Prop :=
 kBox (cR Tryz.prog R) w 59 (.agg #[(.int .i64 v0), (.int .i64 v1), (.string v2)]) fun v1_1 w_1 =>
 kFa (cR Tryz.prog R) w_1 59 v1_1 1 fun v3 w_2 =>
 kLoad (cR Tryz.prog R) w_2 2 v3 fun v4 w_3 =>
 kCall (cR Tryz.prog R) w_3 113 #[v4, (.int .i64 10)] fun v5 w_4 =>
 R (.returned v5) w_4
theorem c112 (v0 : Int) (v1 : Int) (v2 : ByteArray) (R : Ending → World → Prop) (w : World) (h : vc112 v0 v1 v2 R w) : Calls Tryz.prog 112 #[(.agg #[(.int .i64 v0), (.int .i64 v1), (.string v2)])] w R :=
  calls_of_vc (A := { loops := [], pars := [] }) (Eq.mpr (show FnVc Tryz.prog { loops := [], pars := [] } 6 112 [(.agg #[(.int .i64 v0), (.int .i64 v1), (.string v2)])] R w = vc112 v0 v1 v2 R w by kernel_rfl) h)

/-- strconv.FormatInt -/
def vc113 (i : Int) (base : Int) (R : Ending → World → Prop) (w : World) : Prop :=
 kCall (cR Tryz.prog R) w 107 #[(.int .i64 i), (.int .i64 base)] fun v7 w_1 =>
 R (.returned v7) w_1
theorem c113 (i : Int) (base : Int) (R : Ending → World → Prop) (w : World) (h : vc113 i base R w) : Calls Tryz.prog 113 #[(.int .i64 i), (.int .i64 base)] w R :=
  calls_of_vc (A := { loops := [], pars := [] }) (Eq.mpr (show FnVc Tryz.prog { loops := [], pars := [] } 8 113 [(.int .i64 i), (.int .i64 base)] R w = vc113 i base R w by kernel_rfl) h)

/-- slices.IndexFunc[[]int,int] -/
def vc122 (s : Option Addr) (sn : Nat) (sc : Nat) (f : Value) (R : Ending → World → Prop) (w : World) : Prop :=
 kBlt (cR Tryz.prog R) w .len #[60] 3 #[false] #[(.slice s sn sc)] fun v7 w_1 =>
 kLoopF [(.int .i64 0)] w_1 fun cs ds w_2 N =>
 (fun x8 =>
 kBin (cR Tryz.prog R) w_2 .lss 3 x8 v7 fun v9 w_3 =>
 kIf v9 (
 kIa (cR Tryz.prog R) w_3 60 (.slice s sn sc) x8 fun v14 w_4 =>
 kLoad (cR Tryz.prog R) w_4 3 v14 fun v15 w_5 =>
 kCallV (cR Tryz.prog R) w_5 f #[v15] fun v16 w_6 =>
 kIf v16 (
 R (.returned x8) w_6) (
 kBin (cR Tryz.prog R) w_6 .add 3 x8 (.int .i64 1) fun v18 w_7 =>
 kD [] [] (N [v18] w_7))) (
 R (.returned (.int .i64 (-1))) w_3)) (cs.getD 0 undef)
theorem c122 (s : Option Addr) (sn : Nat) (sc : Nat) (f : Value) (R : Ending → World → Prop) (w : World) (h : vc122 s sn sc f R w) : Calls Tryz.prog 122 #[(.slice s sn sc), f] w R :=
  calls_of_vc (A := { loops := [(0, [8])], pars := [] }) (Eq.mpr (show FnVc Tryz.prog { loops := [(0, [8])], pars := [] } 19 122 [(.slice s sn sc), f] R w = vc122 s sn sc f R w by kernel_rfl) h)

/-- loupe/octet.ReadNumber -/
def vc123 (b : Option Addr) (bn : Nat) (bc : Nat) (R : Ending → World → Prop) (w : World) : Prop :=
 kBlt (cR Tryz.prog R) w .len #[44] 3 #[false] #[(.slice b bn bc)] fun v9 w_1 =>
 kBlt (cR Tryz.prog R) w_1 .min #[3, 3] 3 #[false, true] #[v9, (.int .i64 10)] fun v10 w_2 =>
 kSl (cR Tryz.prog R) w_2 44 (.slice b bn bc) none (some v10) none fun v11 w_3 =>
 kBlt (cR Tryz.prog R) w_3 .len #[44] 3 #[false] #[v11] fun v12 w_4 =>
 kLoopF [(.int .u64 0), (.int .i64 0)] w_4 fun cs ds w_5 N =>
 (fun x2 x13 =>
 kBin (cR Tryz.prog R) w_5 .lss 3 x13 v12 fun v14 w_6 =>
 kIf v14 (
 kIa (cR Tryz.prog R) w_6 44 v11 x13 fun v16 w_7 =>
 kLoad (cR Tryz.prog R) w_7 5 v16 fun v17 w_8 =>
 kJn (fun J =>
 kEq (cR Tryz.prog R) w_8 .eql 3 (.tmp 18) (.const (.int .i64 9)) x13 (.int .i64 9) fun v19 w_21 =>
 kIf v19 (
 kBin (cR Tryz.prog R) w_21 .gtr 5 v17 (.int .u8 1) fun v22 w_22 =>
 kIf v22 (
 R (.returned (.tuple #[(.int .u64 0), (.int .i64 0), (.int .i64 130)])) w_22) (
 kD [] [] (J [] w_22))) (
 kIf (.bool false) (
 R (.returned (.tuple #[(.int .u64 0), (.int .i64 0), (.int .i64 130)])) w_21) (
 kD [] [] (J [] w_21)))) (fun cs_1 w_9 => ∀ ds_1 : List Value,
 kBin (cR Tryz.prog R) w_9 .andNot 5 v17 (.int .u8 128) fun v26 w_10 =>
 kConv (cR Tryz.prog R) w_10 5 145 v26 fun v27 w_11 =>
 kBin (cR Tryz.prog R) w_11 .mul 3 (.int .i64 7) x13 fun v29 w_12 =>
 kBin (cR Tryz.prog R) w_12 .shl 145 v27 v29 fun v30 w_13 =>
 kBin (cR Tryz.prog R) w_13 .or 145 x2 v30 fun v31 w_14 =>
 kBin (cR Tryz.prog R) w_14 .geq 5 v17 (.int .u8 128) fun v33 w_15 =>
 kIf v33 (
 kBin (cR Tryz.prog R) w_15 .add 3 x13 (.int .i64 1) fun v43 w_16 =>
 kD [] [] (N [v31, v43] w_16)) (
 kJn (fun J_1 =>
 kEq (cR Tryz.prog R) w_15 .eql 5 (.tmp 34) (.const (.int .u8 0)) v17 (.int .u8 0) fun v35 w_19 =>
 kIf v35 (
 kBin (cR Tryz.prog R) w_19 .gtr 3 x13 (.int .i64 0) fun v38 w_20 =>
 kIf v38 (
 R (.returned (.tuple #[(.int .u64 0), (.int .i64 0), (.int .i64 130)])) w_20) (
 kD [] [] (J_1 [] w_20))) (
 kIf (.bool false) (
 R (.returned (.tuple #[(.int .u64 0), (.int .i64 0), (.int .i64 130)])) w_19) (
 kD [] [] (J_1 [] w_19)))) (fun cs_2 w_17 => ∀ ds_2 : List Value,
 kBin (cR Tryz.prog R) w_17 .add 3 x13 (.int .i64 1) fun v42 w_18 =>
 R (.returned (.tuple #[v31, v42, (.int .i64 0)])) w_18)))) (
 R (.returned (.tuple #[(.int .u64 0), (.int .i64 0), (.int .i64 130)])) w_6)) (cs.getD 0 undef) (cs.getD 1 undef)
theorem c123 (b : Option Addr) (bn : Nat) (bc : Nat) (R : Ending → World → Prop) (w : World) (h : vc123 b bn bc R w) : Calls Tryz.prog 123 #[(.slice b bn bc)] w R :=
  calls_of_vcG (A := { loops := [(1000008, []), (1000005, []), (0, [2, 13])], pars := [] }) (Eq.mpr (show FnVcG Tryz.prog { loops := [(1000008, []), (1000005, []), (0, [2, 13])], pars := [] } 44 123 [(.slice b bn bc)] R w = vc123 b bn bc R w by kernel_rfl) h)

/-- (*loupe/row.left).take -/
def vc124 (l : Value) (n : Int) (R : Ending → World → Prop) (w : World) : Prop :=
 kNil (cR Tryz.prog R) w l fun v8 w_1 =>
 kFa (cR Tryz.prog R) w_1 142 v8 0 fun v9 w_2 =>
 kLoad (cR Tryz.prog R) w_2 44 v9 fun v10 w_3 =>
 kBlt (cR Tryz.prog R) w_3 .len #[44] 3 #[false] #[v10] fun v11 w_4 =>
 kBin (cR Tryz.prog R) w_4 .leq 3 (.int .i64 n) v11 fun v12 w_5 =>
 kCall (cR Tryz.prog R) w_5 89 #[v12, (.int .i64 210)] fun v13 w_6 =>
 kNil (cR Tryz.prog R) w_6 l fun v15 w_7 =>
 kFa (cR Tryz.prog R) w_7 142 v15 0 fun v16 w_8 =>
 kLoad (cR Tryz.prog R) w_8 44 v16 fun v17 w_9 =>
 kSl (cR Tryz.prog R) w_9 44 v17 none (some (.int .i64 n)) (some (.int .i64 n)) fun v20 w_10 =>
 kNil (cR Tryz.prog R) w_10 l fun v23 w_11 =>
 kFa (cR Tryz.prog R) w_11 142 v23 0 fun v24 w_12 =>
 kLoad (cR Tryz.prog R) w_12 44 v24 fun v25 w_13 =>
 kSl (cR Tryz.prog R) w_13 44 v25 (some (.int .i64 n)) none none fun v27 w_14 =>
 kNil (cR Tryz.prog R) w_14 l fun v28 w_15 =>
 kFa (cR Tryz.prog R) w_15 142 v28 0 fun v29 w_16 =>
 kStore (cR Tryz.prog R) w_16 44 v29 v27 fun w_17 =>
 R (.returned v20) w_17
theorem c124 (l : Value) (n : Int) (R : Ending → World → Prop) (w : World) (h : vc124 l n R w) : Calls Tryz.prog 124 #[l, (.int .i64 n)] w R :=
  calls_of_vc (A := { loops := [], pars := [] }) (Eq.mpr (show FnVc Tryz.prog { loops := [], pars := [] } 31 124 [l, (.int .i64 n)] R w = vc124 l n R w by kernel_rfl) h)

/-- loupe/octet.ReadString -/
def vc125 (b : Option Addr) (bn : Nat) (bc : Nat) (R : Ending → World → Prop) (w : World) : Prop :=
 kCall (cR Tryz.prog R) w 123 #[(.slice b bn bc)] fun v11 w_1 =>
 kExt v11 0 fun v12 =>
 kExt v11 1 fun v13 =>
 kExt v11 2 fun v14 =>
 kSl (cR Tryz.prog R) w_1 44 (.slice b bn bc) (some v13) none none fun v17 w_2 =>
 kBuild (cR Tryz.prog R) w_2 192 #[(0, v17)] fun v18 w_3 =>
 kBuild (cR Tryz.prog R) w_3 194 #[(0, v18)] fun v19 w_4 =>
 kBox (cR Tryz.prog R) w_4 194 v19 fun v20 w_5 =>
 kJn (fun J =>
 kEq (cR Tryz.prog R) w_5 .neq 26 (.tmp 21) (.const (.int .i64 0)) v14 (.int .i64 0) fun v22 w_14 =>
 kIf v22 (
 kIf (.bool true) (
 R (.returned (.tuple #[(.string ⟨#[]⟩), (.int .i64 0), (.int .i64 130)])) w_14) (
 kD [] [] (J [] w_14))) (
 kNil (cR Tryz.prog R) w_14 v20 fun v25 w_15 =>
 kFa (cR Tryz.prog R) w_15 194 v25 0 fun v26 w_16 =>
 kCall (cR Tryz.prog R) w_16 139 #[v26, v12] fun v28 w_17 =>
 kUn (cR Tryz.prog R) w_17 .not v28 fun v29 w_18 =>
 kIf v29 (
 R (.returned (.tuple #[(.string ⟨#[]⟩), (.int .i64 0), (.int .i64 130)])) w_18) (
 kD [] [] (J [] w_18)))) (fun cs w_6 => ∀ ds : List Value,
 kNil (cR Tryz.prog R) w_6 v20 fun v32 w_7 =>
 kFa (cR Tryz.prog R) w_7 194 v32 0 fun v33 w_8 =>
 kConv (cR Tryz.prog R) w_8 145 3 v12 fun v35 w_9 =>
 kCall (cR Tryz.prog R) w_9 140 #[v33, v35] fun v36 w_10 =>
 kConv (cR Tryz.prog R) w_10 44 9 v36 fun v37 w_11 =>
 kConv (cR Tryz.prog R) w_11 145 3 v12 fun v40 w_12 =>
 kBin (cR Tryz.prog R) w_12 .add 3 v13 v40 fun v41 w_13 =>
 R (.returned (.tuple #[v37, v41, (.int .i64 0)])) w_13)
theorem c125 (b : Option Addr) (bn : Nat) (bc : Nat) (R : Ending → World → Prop) (w : World) (h : vc125 b bn bc R w) : Calls Tryz.prog 125 #[(.slice b bn bc)] w R :=
  calls_of_vc (A := { loops := [(1000005, [])], pars := [] }) (Eq.mpr (show FnVc Tryz.prog { loops := [(1000005, [])], pars := [] } 42 125 [(.slice b bn bc)] R w = vc125 b bn bc R w by kernel_rfl) h)

/-- loupe/row.Encode$1 -/
def vc126 (f0 : Value) (R : Ending → World → Prop) (w : World) : Prop :=
 kStore (cR Tryz.prog R) w 44 f0 (.slice none 0 0) fun w_1 =>
 R (.returned (.tuple #[])) w_1
theorem c126 (f0 : Value) (R : Ending → World → Prop) (w : World) (h : vc126 f0 R w) : Calls Tryz.prog 126 #[f0] w R :=
  calls_of_vc (A := { loops := [], pars := [] }) (Eq.mpr (show FnVc Tryz.prog { loops := [], pars := [] } 1 126 [f0] R w = vc126 f0 R w by kernel_rfl) h)

/-- loupe/row.encoded -/
def vc127 (row : Option Addr) (rown : Nat) (rowc : Nat) (R : Ending → World → Prop) (w : World) : Prop :=
 kBlt (cR Tryz.prog R) w .len #[104] 3 #[false] #[(.slice row rown rowc)] fun v7 w_1 =>
 kConv (cR Tryz.prog R) w_1 3 145 v7 fun v8 w_2 =>
 kCall (cR Tryz.prog R) w_2 141 #[v8] fun v9 w_3 =>
 kAlloc (cR Tryz.prog R) w_3 44 fun v3 w_4 =>
 kStore (cR Tryz.prog R) w_4 44 v3 v9 fun w_5 =>
 kCall (cR Tryz.prog R) w_5 142 #[(.slice row rown rowc)] fun v11 w_6 =>
 kRange Tryz.prog none w_6 v11 1 (fun l D args w_7 Rr =>
 (fun p12 =>
 kAlloc (cN Tryz.prog) w_7 59 fun v4 w_8 =>
 kStore (cN Tryz.prog) w_8 59 v4 p12 fun w_9 =>
 rndMid l D w_7 w_9 fun lo w_10 =>
 (fun (c : Cx) =>
 kLoad c w_10 59 v4 fun v13 w_11 =>
 kCall c w_11 104 #[v13] fun v14 w_12 =>
 kEq c w_12 .eql 26 (.tmp 15) (.const (.int .i64 0)) v14 (.int .i64 0) fun v16 w_13 =>
 kCall c w_13 89 #[v16, v14] fun v18 w_14 =>
 kDrawn true (
 kPar w_14 13 [[], [], [1], [2], [3], [0, 4], [5], [], [7], [6, 8], [], [9, 10, 6], [5, 11], [12, 0, 1, 2, 3, 4, 5, 6, 7, 8, 9, 10, 11]] (fun Inv Cl =>
 (∀ (S : Nat → Bool) (vs : Nat → Value) (w_15 : World), Inv S vs w_15 → Cl S → S 0 = false → (∀ j, j ∈ ([] : List Nat) → S j = true) →
 kLoad (cN Tryz.prog) w_15 44 v3 fun v19 w_16 =>
 Inv (inc S 0) (setV vs 0 v19) w_16) ∧
 (∀ (S_1 : Nat → Bool) (vs_1 : Nat → Value) (w_17 : World), Inv S_1 vs_1 w_17 → Cl S_1 → S_1 1 = false → (∀ j, j ∈ ([] : List Nat) → S_1 j = true) →
 kFa (cN Tryz.prog) w_17 59 v4 0 fun v20 w_18 =>
 Inv (inc S_1 1) (setV vs_1 1 v20) w_18) ∧
 (∀ (S_2 : Nat → Bool) (vs_2 : Nat → Value) (w_19 : World), Inv S_2 vs_2 w_19 → Cl S_2 → S_2 2 = false → (∀ j, j ∈ ([1] : List Nat) → S_2 j = true) →
 kLoad (cN Tryz.prog) w_19 57 (vs_2 1) fun v21 w_20 =>
 Inv (inc S_2 2) (setV vs_2 2 v21) w_20) ∧
 (∀ (S_3 : Nat → Bool) (vs_3 : Nat → Value) (w_21 : World), Inv S_3 vs_3 w_21 → Cl S_3 → S_3 3 = false → (∀ j, j ∈ ([2] : List Nat) → S_3 j = true) →
 kConv (cN Tryz.prog) w_21 57 5 (vs_3 2) fun v22 w_22 =>
 Inv (inc S_3 3) (setV vs_3 3 v22) w_22) ∧
 (∀ (S_4 : Nat → Bool) (vs_4 : Nat → Value) (w_23 : World), Inv S_4 vs_4 w_23 → Cl S_4 → S_4 4 = false → (∀ j, j ∈ ([3] : List Nat) → S_4 j = true) →
 kBuildS (cN Tryz.prog) w_23 44 1 #[(0, (vs_4 3))] fun v23 w_24 =>
 Inv (inc S_4 4) (setV vs_4 4 v23) w_24) ∧
 (∀ (S_5 : Nat → Bool) (vs_5 : Nat → Value) (w_25 : World), Inv S_5 vs_5 w_25 → Cl S_5 → S_5 5 = false → (∀ j, j ∈ ([0, 4] : List Nat) → S_5 j = true) →
 kBlt (cN Tryz.prog) w_25 .append #[44, 44] 44 #[false, false] #[(vs_5 0), (vs_5 4)] fun v24 w_26 =>
 Inv (inc S_5 5) (setV vs_5 5 v24) w_26) ∧
 (∀ (S_6 : Nat → Bool) (vs_6 : Nat → Value) (w_27 : World), Inv S_6 vs_6 w_27 → Cl S_6 → S_6 6 = false → (∀ j, j ∈ ([5] : List Nat) → S_6 j = true) →
 kCall (cN Tryz.prog) w_27 143 #[] fun v25 w_28 =>
 Inv (inc S_6 6) (setV vs_6 6 v25) w_28) ∧
 (∀ (S_7 : Nat → Bool) (vs_7 : Nat → Value) (w_29 : World), Inv S_7 vs_7 w_29 → Cl S_7 → S_7 7 = false → (∀ j, j ∈ ([] : List Nat) → S_7 j = true) →
 kFa (cN Tryz.prog) w_29 59 v4 0 fun v26 w_30 =>
 Inv (inc S_7 7) (setV vs_7 7 v26) w_30) ∧
 (∀ (S_8 : Nat → Bool) (vs_8 : Nat → Value) (w_31 : World), Inv S_8 vs_8 w_31 → Cl S_8 → S_8 8 = false → (∀ j, j ∈ ([7] : List Nat) → S_8 j = true) →
 kLoad (cN Tryz.prog) w_31 57 (vs_8 7) fun v27 w_32 =>
 Inv (inc S_8 8) (setV vs_8 8 v27) w_32) ∧
 (∀ (S_9 : Nat → Bool) (vs_9 : Nat → Value) (w_33 : World), Inv S_9 vs_9 w_33 → Cl S_9 → S_9 9 = false → (∀ j, j ∈ ([6, 8] : List Nat) → S_9 j = true) →
 kLook (cN Tryz.prog) w_33 200 (vs_9 6) (vs_9 8) false fun v28 w_34 =>
 Inv (inc S_9 9) (setV vs_9 9 v28) w_34) ∧
 (∀ (S_10 : Nat → Bool) (vs_10 : Nat → Value) (w_35 : World), Inv S_10 vs_10 w_35 → Cl S_10 → S_10 10 = false → (∀ j, j ∈ ([] : List Nat) → S_10 j = true) →
 kLoad (cN Tryz.prog) w_35 59 v4 fun v29 w_36 =>
 Inv (inc S_10 10) (setV vs_10 10 v29) w_36) ∧
 (∀ (S_11 : Nat → Bool) (vs_11 : Nat → Value) (w_37 : World), Inv S_11 vs_11 w_37 → Cl S_11 → S_11 11 = false → (∀ j, j ∈ ([9, 10, 6] : List Nat) → S_11 j = true) →
 kCallV (cN Tryz.prog) w_37 (vs_11 9) #[(vs_11 10)] fun v30 w_38 =>
 Inv (inc S_11 11) (setV vs_11 11 v30) w_38) ∧
 (∀ (S_12 : Nat → Bool) (vs_12 : Nat → Value) (w_39 : World), Inv S_12 vs_12 w_39 → Cl S_12 → S_12 12 = false → (∀ j, j ∈ ([5, 11] : List Nat) → S_12 j = true) →
 kBlt (cN Tryz.prog) w_39 .append #[44, 44] 44 #[false, false] #[(vs_12 5), (vs_12 11)] fun v31 w_40 =>
 Inv (inc S_12 12) (setV vs_12 12 v31) w_40) ∧
 True) (fun vs_13 w_41 =>
 kStore c w_41 44 v3 (vs_13 12) fun w_42 =>
 rndEnd l D lo w_7 Rr .normal [] w_42))) ⟨Tryz.prog, fun ch w => rndEnd l D lo w_7 Rr (.panic ch) [] w, false⟩) (args.getD 0 undef))
  (fun D_1 w_43 =>
 (fun (c_1 : Cx) =>
 kBlt c_1 w_43 .len #[104] 3 #[false] #[(.slice row rown rowc)] fun v33 w_44 =>
 kBin c_1 w_44 .leq 3 v33 (.int .i64 32) fun v34 w_45 =>
 kIf v34 (
 kLoad c_1 w_45 44 v3 fun v36 w_46 =>
 kBlt c_1 w_46 .len #[44] 3 #[false] #[v36] fun v37 w_47 =>
 kBin c_1 w_47 .leq 3 v37 (.int .i64 4000) fun v38 w_48 =>
 kCall c_1 w_48 89 #[v38, (.int .i64 3)] fun v40 w_49 =>
 kLoad c_1 w_49 44 v3 fun v41 w_50 =>
 Lv Tryz.prog [.val v41] R [markOf D_1] .returning w_50) (
 kCall c_1 w_45 89 #[(.bool false), (.int .i64 3)] fun v40_1 w_51 =>
 kLoad c_1 w_51 44 v3 fun v41_1 w_52 =>
 Lv Tryz.prog [.val v41_1] R [markOf D_1] .returning w_52)) ⟨Tryz.prog, fun ch w => Lv Tryz.prog [.val (.slice none 0 0)] R [markOf D_1] (.panicking ch) w, false⟩)
  (fun _ _ => False)
  (fun _ _ _ => False)
  (fun D_1 ch w_55 => (fun ch w => Lv Tryz.prog [.val (.slice none 0 0)] R [markOf D_1] (.panicking ch) w) ch w_55)
theorem c127 (row : Option Addr) (rown : Nat) (rowc : Nat) (R : Ending → World → Prop) (w : World) (h : vc127 row rown rowc R w) : Calls Tryz.prog 127 #[(.slice row rown rowc)] w R :=
  calls_of_vc (A := { loops := [], pars := [6] }) (Eq.mpr (show FnVc Tryz.prog { loops := [], pars := [6] } 42 127 [(.slice row rown rowc)] R w = vc127 row rown rowc R w by kernel_rfl) h)

/-- slices.Chunk[[]int,int]$1 -/
def vc129 (yield : Value) (f0 : Value) (f1 : Value) (R : Ending → World → Prop) (w : World) : Prop :=
 kLoopF [(.int .i64 0)] w fun cs ds w_1 N =>
 (fun x4 =>
 kLoad (cR Tryz.prog R) w_1 60 f0 fun v7 w_2 =>
 kBlt (cR Tryz.prog R) w_2 .len #[60] 3 #[false] #[v7] fun v8 w_3 =>
 kBin (cR Tryz.prog R) w_3 .lss 3 x4 v8 fun v9 w_4 =>
 kIf v9 (
 kDrawn true (
 kLoad (cQ Tryz.prog) w_4 3 f1 fun v13 w_5 =>
 kLoad (cQ Tryz.prog) w_5 60 f0 fun v14 w_6 =>
 kSl (cQ Tryz.prog) w_6 60 v14 (some x4) none none fun v16 w_7 =>
 kBlt (cQ Tryz.prog) w_7 .len #[60] 3 #[false] #[v16] fun v17 w_8 =>
 kBlt (cQ Tryz.prog) w_8 .min #[3, 3] 3 #[false, false] #[v13, v17] fun v18 w_9 =>
 kDrew w_4 fun w_10 =>
 kLoad (cR Tryz.prog R) w_10 60 f0 fun v20 w_11 =>
 kBin (cR Tryz.prog R) w_11 .add 3 x4 v18 fun v24 w_12 =>
 kBin (cR Tryz.prog R) w_12 .add 3 x4 v18 fun v27 w_13 =>
 kSl (cR Tryz.prog R) w_13 60 v20 (some x4) (some v24) (some v27) fun v28 w_14 =>
 kCallV (cR Tryz.prog R) w_14 yield #[v28] fun v29 w_15 =>
 kUn (cR Tryz.prog R) w_15 .not v29 fun v30 w_16 =>
 kIf v30 (
 R (.returned (.tuple #[])) w_16) (
 kLoad (cR Tryz.prog R) w_16 3 f1 fun v11 w_17 =>
 kBin (cR Tryz.prog R) w_17 .add 3 x4 v11 fun v12 w_18 =>
 kD [] [] (N [v12] w_18)))) (
 R (.returned (.tuple #[])) w_4)) (cs.getD 0 undef)
theorem c129 (yield : Value) (f0 : Value) (f1 : Value) (R : Ending → World → Prop) (w : World) (h : vc129 yield f0 f1 R w) : Calls Tryz.prog 129 #[yield, f0, f1] w R :=
  calls_of_vc (A := { loops := [(0, [4])], pars := [] }) (Eq.mpr (show FnVc Tryz.prog { loops := [(0, [4])], pars := [] } 31 129 [yield, f0, f1] R w = vc129 yield f0 f1 R w by kernel_rfl) h)

/-- loupe/value.Check$1 -/
def vc130  (R : Ending → World → Prop) (w : World) : Prop :=
 R (.returned (.tuple #[])) w
theorem c130  (R : Ending → World → Prop) (w : World) (h : vc130  R w) : Calls Tryz.prog 130 #[] w R :=
  calls_of_vc (A := { loops := [], pars := [] }) (Eq.mpr (show FnVc Tryz.prog { loops := [], pars := [] } 0 130 [] R w = vc130  R w by kernel_rfl) h)

/-- slices.Index[[]string,string] -/
def vc131 (s : Option Addr) (sn : Nat) (sc : Nat) (v : ByteArray) (R : Ending → World → Prop) (w : World) : Prop :=
 kBlt (cR Tryz.prog R) w .len #[74] 3 #[false] #[(.slice s sn sc)] fun v7 w_1 =>
 kLoopF [(.int .i64 0)] w_1 fun cs ds w_2 N =>
 (fun x8 =>
 kBin (cR Tryz.prog R) w_2 .lss 3 x8 v7 fun v9 w_3 =>
 kIf v9 (
 kIa (cR Tryz.prog R) w_3 74 (.slice s sn sc) x8 fun v14 w_4 =>
 kLoad (cR Tryz.prog R) w_4 9 v14 fun v15 w_5 =>
 kEq (cR Tryz.prog R) w_5 .eql 9 (.tmp 11) (.tmp 15) (.string v) v15 fun v16 w_6 =>
 kIf v16 (
 R (.returned x8) w_6) (
 kBin (cR Tryz.prog R) w_6 .add 3 x8 (.int .i64 1) fun v18 w_7 =>
 kD [] [] (N [v18] w_7))) (
 R (.returned (.int .i64 (-1))) w_3)) (cs.getD 0 undef)
theorem c131 (s : Option Addr) (sn : Nat) (sc : Nat) (v : ByteArray) (R : Ending → World → Prop) (w : World) (h : vc131 s sn sc v R w) : Calls Tryz.prog 131 #[(.slice s sn sc), (.string v)] w R :=
  calls_of_vc (A := { loops := [(0, [8])], pars := [] }) (Eq.mpr (show FnVc Tryz.prog { loops := [(0, [8])], pars := [] } 19 131 [(.slice s sn sc), (.string v)] R w = vc131 s sn sc v R w by kernel_rfl) h)

/-- (*loupe/octet.left).has -/
def vc139 (l : Value) (n : Int) (R : Ending → World → Prop) (w : World) : Prop :=
 kNil (cR Tryz.prog R) w l fun v7 w_1 =>
 kFa (cR Tryz.prog R) w_1 192 v7 0 fun v8 w_2 =>
 kLoad (cR Tryz.prog R) w_2 44 v8 fun v9 w_3 =>
 kBlt (cR Tryz.prog R) w_3 .len #[44] 3 #[false] #[v9] fun v10 w_4 =>
 kConv (cR Tryz.prog R) w_4 3 145 v10 fun v11 w_5 =>
 kBin (cR Tryz.prog R) w_5 .leq 145 (.int .u64 n) v11 fun v12 w_6 =>
 R (.returned v12) w_6
theorem c139 (l : Value) (n : Int) (R : Ending → World → Prop) (w : World) (h : vc139 l n R w) : Calls Tryz.prog 139 #[l, (.int .u64 n)] w R :=
  calls_of_vc (A := { loops := [], pars := [] }) (Eq.mpr (show FnVc Tryz.prog { loops := [], pars := [] } 13 139 [l, (.int .u64 n)] R w = vc139 l n R w by kernel_rfl) h)

/-- (*loupe/octet.left).take -/
def vc140 (l : Value) (n : Int) (R : Ending → World → Prop) (w : World) : Prop :=
 kNil (cR Tryz.prog R) w l fun v7 w_1 =>
 kFa (cR Tryz.prog R) w_1 192 v7 0 fun v8 w_2 =>
 kLoad (cR Tryz.prog R) w_2 44 v8 fun v9 w_3 =>
 kSl (cR Tryz.prog R) w_3 44 v9 none (some (.int .i64 n)) (some (.int .i64 n)) fun v12 w_4 =>
 kNil (cR Tryz.prog R) w_4 l fun v15 w_5 =>
 kFa (cR Tryz.prog R) w_5 192 v15 0 fun v16 w_6 =>
 kLoad (cR Tryz.prog R) w_6 44 v16 fun v17 w_7 =>
 kSl (cR Tryz.prog R) w_7 44 v17 (some (.int .i64 n)) none none fun v19 w_8 =>
 kNil (cR Tryz.prog R) w_8 l fun v20 w_9 =>
 kFa (cR Tryz.prog R) w_9 192 v20 0 fun v21 w_10 =>
 kStore (cR Tryz.prog R) w_10 44 v21 v19 fun w_11 =>
 R (.returned v12) w_11
theorem c140 (l : Value) (n : Int) (R : Ending → World → Prop) (w : World) (h : vc140 l n R w) : Calls Tryz.prog 140 #[l, (.int .i64 n)] w R :=
  calls_of_vc (A := { loops := [], pars := [] }) (Eq.mpr (show FnVc Tryz.prog { loops := [], pars := [] } 23 140 [l, (.int .i64 n)] R w = vc140 l n R w by kernel_rfl) h)

/-- loupe/octet.Number -/
def vc141 (n : Int) (R : Ending → World → Prop) (w : World) : Prop :=
 kLoopF [(.slice none 0 0), (.int .u64 n)] w fun cs ds w_1 N =>
 (fun x2 x0 =>
 kBin (cR Tryz.prog R) w_1 .geq 145 x0 (.int .u64 128) fun v4 w_2 =>
 kIf v4 (
 kConv (cR Tryz.prog R) w_2 145 5 x0 fun v9 w_3 =>
 kBin (cR Tryz.prog R) w_3 .or 5 v9 (.int .u8 128) fun v10 w_4 =>
 kBuildS (cR Tryz.prog R) w_4 44 1 #[(0, v10)] fun v11 w_5 =>
 kBlt (cR Tryz.prog R) w_5 .append #[44, 44] 44 #[false, false] #[x2, v11] fun v12 w_6 =>
 kBin (cR Tryz.prog R) w_6 .shr 145 x0 (.int .u64 7) fun v6 w_7 =>
 kD [] [] (N [v12, v6] w_7)) (
 kConv (cR Tryz.prog R) w_2 145 5 x0 fun v15 w_8 =>
 kBuildS (cR Tryz.prog R) w_8 44 1 #[(0, v15)] fun v16 w_9 =>
 kBlt (cR Tryz.prog R) w_9 .append #[44, 44] 44 #[false, false] #[x2, v16] fun v17 w_10 =>
 R (.returned v17) w_10)) (cs.getD 0 undef) (cs.getD 1 undef)
theorem c141 (n : Int) (R : Ending → World → Prop) (w : World) (h : vc141 n R w) : Calls Tryz.prog 141 #[(.int .u64 n)] w R :=
  calls_of_vc (A := { loops := [(0, [2, 0])], pars := [] }) (Eq.mpr (show FnVc Tryz.prog { loops := [(0, [2, 0])], pars := [] } 18 141 [(.int .u64 n)] R w = vc141 n R w by kernel_rfl) h)

/-- slices.Values[[]loupe/api.Value,loupe/api.Value] -/
def vc142 (s : Option Addr) (sn : Nat) (sc : Nat) (R : Ending → World → Prop) (w : World) : Prop :=
 kBox (cR Tryz.prog R) w 104 (.slice s sn sc) fun v1 w_1 =>
 R (.returned (.func (.func 152) #[] #[v1])) w_1
theorem c142 (s : Option Addr) (sn : Nat) (sc : Nat) (R : Ending → World → Prop) (w : World) (h : vc142 s sn sc R w) : Calls Tryz.prog 142 #[(.slice s sn sc)] w R :=
  calls_of_vc (A := { loops := [], pars := [] }) (Eq.mpr (show FnVc Tryz.prog { loops := [], pars := [] } 4 142 [(.slice s sn sc)] R w = vc142 s sn sc R w by kernel_rfl) h)

/-- loupe/row.laid -/
def vc143  (R : Ending → World → Prop) (w : World) : Prop :=
 kMkMap (cR Tryz.prog R) w 200 none fun v2 w_1 =>
 kUpd (cR Tryz.prog R) w_1 200 v2 (.int .i64 0) (.func (.func 155) #[] #[]) fun w_2 =>
 kUpd (cR Tryz.prog R) w_2 200 v2 (.int .i64 1) (.func (.func 156) #[] #[]) fun w_3 =>
 kUpd (cR Tryz.prog R) w_3 200 v2 (.int .i64 2) (.func (.func 157) #[] #[]) fun w_4 =>
 kUpd (cR Tryz.prog R) w_4 200 v2 (.int .i64 3) (.func (.func 153) #[] #[]) fun w_5 =>
 kUpd (cR Tryz.prog R) w_5 200 v2 (.int .i64 4) (.func (.func 153) #[] #[]) fun w_6 =>
 R (.returned v2) w_6
theorem c143  (R : Ending → World → Prop) (w : World) (h : vc143  R w) : Calls Tryz.prog 143 #[] w R :=
  calls_of_vc (A := { loops := [], pars := [] }) (Eq.mpr (show FnVc Tryz.prog { loops := [], pars := [] } 6 143 [] R w = vc143  R w by kernel_rfl) h)

/-- slices.Values[[]loupe/api.Value,loupe/api.Value]$1 -/
def vc152 (yield : Value) (f0 : Value) (R : Ending → World → Prop) (w : World) : Prop :=
 kLoad (cR Tryz.prog R) w 104 f0 fun v5 w_1 =>
 kBlt (cR Tryz.prog R) w_1 .len #[104] 3 #[false] #[v5] fun v6 w_2 =>
 kLoopF [(.int .i64 0)] w_2 fun cs ds w_3 N =>
 (fun x7 =>
 kBin (cR Tryz.prog R) w_3 .lss 3 x7 v6 fun v8 w_4 =>
 kIf v8 (
 kIa (cR Tryz.prog R) w_4 104 v5 x7 fun v9 w_5 =>
 kLoad (cR Tryz.prog R) w_5 59 v9 fun v10 w_6 =>
 kAlloc (cR Tryz.prog R) w_6 59 fun v4 w_7 =>
 kStore (cR Tryz.prog R) w_7 59 v4 v10 fun w_8 =>
 kLoad (cR Tryz.prog R) w_8 59 v4 fun v12 w_9 =>
 kCallV (cR Tryz.prog R) w_9 yield #[v12] fun v13 w_10 =>
 kUn (cR Tryz.prog R) w_10 .not v13 fun v14 w_11 =>
 kIf v14 (
 R (.returned (.tuple #[])) w_11) (
 kBin (cR Tryz.prog R) w_11 .add 3 x7 (.int .i64 1) fun v15 w_12 =>
 kD [] [] (N [v15] w_12))) (
 R (.returned (.tuple #[])) w_4)) (cs.getD 0 undef)
theorem c152 (yield : Value) (f0 : Value) (R : Ending → World → Prop) (w : World) (h : vc152 yield f0 R w) : Calls Tryz.prog 152 #[yield, f0] w R :=
  calls_of_vc (A := { loops := [(0, [7])], pars := [] }) (Eq.mpr (show FnVc Tryz.prog { loops := [(0, [7])], pars := [] } 16 152 [yield, f0] R w = vc152 yield f0 R w by kernel_rfl) h)

/-- loupe/row.laid$1 -/
def vc153 (v0 : Int) (v1 : Int) (v2 : ByteArray) (R : Ending → World → Prop) (w : World) : Prop :=
 kBox (cR Tryz.prog R) w 59 (.agg #[(.int .i64 v0), (.int .i64 v1), (.string v2)]) fun v1_1 w_1 =>
 kFa (cR Tryz.prog R) w_1 59 v1_1 2 fun v3 w_2 =>
 kLoad (cR Tryz.prog R) w_2 9 v3 fun v4 w_3 =>
 kCall (cR Tryz.prog R) w_3 154 #[v4] fun v5 w_4 =>
 R (.returned v5) w_4
theorem c153 (v0 : Int) (v1 : Int) (v2 : ByteArray) (R : Ending → World → Prop) (w : World) (h : vc153 v0 v1 v2 R w) : Calls Tryz.prog 153 #[(.agg #[(.int .i64 v0), (.int .i64 v1), (.string v2)])] w R :=
  calls_of_vc (A := { loops := [], pars := [] }) (Eq.mpr (show FnVc Tryz.prog { loops := [], pars := [] } 6 153 [(.agg #[(.int .i64 v0), (.int .i64 v1), (.string v2)])] R w = vc153 v0 v1 v2 R w by kernel_rfl) h)

/-- loupe/octet.String -/
def vc154 (s : ByteArray) (R : Ending → World → Prop) (w : World) : Prop :=
 kBlt (cR Tryz.prog R) w .len #[9] 3 #[false] #[(.string s)] fun v4 w_1 =>
 kConv (cR Tryz.prog R) w_1 3 145 v4 fun v5 w_2 =>
 kCall (cR Tryz.prog R) w_2 141 #[v5] fun v6 w_3 =>
 kBlt (cR Tryz.prog R) w_3 .append #[44, 9] 44 #[false, false] #[v6, (.string s)] fun v8 w_4 =>
 R (.returned v8) w_4
theorem c154 (s : ByteArray) (R : Ending → World → Prop) (w : World) (h : vc154 s R w) : Calls Tryz.prog 154 #[(.string s)] w R :=
  calls_of_vc (A := { loops := [], pars := [] }) (Eq.mpr (show FnVc Tryz.prog { loops := [], pars := [] } 9 154 [(.string s)] R w = vc154 s R w by kernel_rfl) h)

/-- loupe/row.laid$2 -/
def vc155 (a0 : Int) (a1 : Int) (a2 : ByteArray) (R : Ending → World → Prop) (w : World) : Prop :=
 kBox (cR Tryz.prog R) w 59 (.agg #[(.int .i64 a0), (.int .i64 a1), (.string a2)]) fun v1 w_1 =>
 R (.returned (.slice none 0 0)) w_1
theorem c155 (a0 : Int) (a1 : Int) (a2 : ByteArray) (R : Ending → World → Prop) (w : World) (h : vc155 a0 a1 a2 R w) : Calls Tryz.prog 155 #[(.agg #[(.int .i64 a0), (.int .i64 a1), (.string a2)])] w R :=
  calls_of_vc (A := { loops := [], pars := [] }) (Eq.mpr (show FnVc Tryz.prog { loops := [], pars := [] } 3 155 [(.agg #[(.int .i64 a0), (.int .i64 a1), (.string a2)])] R w = vc155 a0 a1 a2 R w by kernel_rfl) h)

/-- loupe/row.laid$3 -/
def vc156 (v0 : Int) (v1 : Int) (v2 : ByteArray) (R : Ending → World → Prop) (w : World) : Prop :=
 kBox (cR Tryz.prog R) w 59 (.agg #[(.int .i64 v0), (.int .i64 v1), (.string v2)]) fun v1_1 w_1 =>
 kFa (cR Tryz.prog R) w_1 59 v1_1 1 fun v3 w_2 =>
 kLoad (cR Tryz.prog R) w_2 2 v3 fun v4 w_3 =>
 kConv (cR Tryz.prog R) w_3 2 5 v4 fun v5 w_4 =>
 kBuildS (cR Tryz.prog R) w_4 44 1 #[(0, v5)] fun v6 w_5 =>
 R (.returned v6) w_5
theorem c156 (v0 : Int) (v1 : Int) (v2 : ByteArray) (R : Ending → World → Prop) (w : World) (h : vc156 v0 v1 v2 R w) : Calls Tryz.prog 156 #[(.agg #[(.int .i64 v0), (.int .i64 v1), (.string v2)])] w R :=
  calls_of_vc (A := { loops := [], pars := [] }) (Eq.mpr (show FnVc Tryz.prog { loops := [], pars := [] } 7 156 [(.agg #[(.int .i64 v0), (.int .i64 v1), (.string v2)])] R w = vc156 v0 v1 v2 R w by kernel_rfl) h)

/-- loupe/row.laid$4 -/
def vc157 (v0 : Int) (v1 : Int) (v2 : ByteArray) (R : Ending → World → Prop) (w : World) : Prop :=
 kBox (cR Tryz.prog R) w 59 (.agg #[(.int .i64 v0), (.int .i64 v1), (.string v2)]) fun v1_1 w_1 =>
 kFa (cR Tryz.prog R) w_1 59 v1_1 1 fun v3 w_2 =>
 kLoad (cR Tryz.prog R) w_2 2 v3 fun v4 w_3 =>
 kBin (cR Tryz.prog R) w_3 .shl 2 v4 (.int .u64 1) fun v5 w_4 =>
 kConv (cR Tryz.prog R) w_4 2 145 v5 fun v6 w_5 =>
 kFa (cR Tryz.prog R) w_5 59 v1_1 1 fun v7 w_6 =>
 kLoad (cR Tryz.prog R) w_6 2 v7 fun v8 w_7 =>
 kBin (cR Tryz.prog R) w_7 .shr 2 v8 (.int .u64 63) fun v9 w_8 =>
 kConv (cR Tryz.prog R) w_8 2 145 v9 fun v10 w_9 =>
 kBin (cR Tryz.prog R) w_9 .xor 145 v6 v10 fun v11 w_10 =>
 kCall (cR Tryz.prog R) w_10 141 #[v11] fun v12 w_11 =>
 R (.returned v12) w_11
theorem c157 (v0 : Int) (v1 : Int) (v2 : ByteArray) (R : Ending → World → Prop) (w : World) (h : vc157 v0 v1 v2 R w) : Calls Tryz.prog 157 #[(.agg #[(.int .i64 v0), (.int .i64 v1), (.string v2)])] w R :=
  calls_of_vc (A := { loops := [], pars := [] }) (Eq.mpr (show FnVc Tryz.prog { loops := [], pars := [] } 13 157 [(.agg #[(.int .i64 v0), (.int .i64 v1), (.string v2)])] R w = vc157 v0 v1 v2 R w by kernel_rfl) h)

end Go.L
