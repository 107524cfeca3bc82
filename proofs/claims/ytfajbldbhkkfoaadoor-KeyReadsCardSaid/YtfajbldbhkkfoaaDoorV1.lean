/- What is to be shown of single functions, printed by a program and compared with the translation by the kernel: no condition. -/
import Derived.Test.YtfajbldbhkkfoaaDoorA1
import Derived.Test.YtfajbldbhkkfoaaDoorProg
set_option linter.unusedVariables false
set_option linter.unusedSimpArgs false
namespace Go.L
open Go Go.RowKit Go.Proofs
set_option maxRecDepth 100000
set_option linter.unusedVariables false

/-- loupe/loupelaw10.KeyHolds -/
def vc3 (a : Option Addr) (an : Nat) (ac : Nat) (b : Option Addr) (bn : Nat) (bc : Nat) (R : Ending → World → Prop) (w : World) : Prop :=
 kJn (fun J =>
 kCall (cR Tryd.prog R) w 6 #[(.slice a an ac)] fun v14 w_40 =>
 kUn (cR Tryd.prog R) w_40 .not v14 fun v15 w_41 =>
 kIf v15 (
 kIf (.bool true) (
 kCall (cR Tryd.prog R) w_41 7 #[] fun v21 w_42 =>
 R (.returned v21) w_42) (
 kD [] [] (J [] w_41))) (
 kCall (cR Tryd.prog R) w_41 6 #[(.slice b bn bc)] fun v18 w_43 =>
 kUn (cR Tryd.prog R) w_43 .not v18 fun v19 w_44 =>
 kIf v19 (
 kCall (cR Tryd.prog R) w_44 7 #[] fun v21_1 w_45 =>
 R (.returned v21_1) w_45) (
 kD [] [] (J [] w_44)))) (fun cs w_1 => ∀ ds : List Value,
 kCall (cR Tryd.prog R) w_1 8 #[(.slice a an ac)] fun v24 w_2 =>
 kExt v24 0 fun v25 =>
 kExt v24 1 fun v26 =>
 kCall (cR Tryd.prog R) w_2 8 #[(.slice b bn bc)] fun v29 w_3 =>
 kExt v29 0 fun v30 =>
 kExt v29 1 fun v31 =>
 kCall (cR Tryd.prog R) w_3 9 #[(.slice a an ac)] fun v34 w_4 =>
 kExt v34 0 fun v35 =>
 kExt v34 1 fun v36 =>
 kCall (cR Tryd.prog R) w_4 10 #[v26] fun v38 w_5 =>
 kCall (cR Tryd.prog R) w_5 10 #[v31] fun v40 w_6 =>
 kBin (cR Tryd.prog R) w_6 .add 3 v38 v40 fun v41 w_7 =>
 kCall (cR Tryd.prog R) w_7 10 #[v36] fun v43 w_8 =>
 kBin (cR Tryd.prog R) w_8 .add 3 v41 v43 fun v44 w_9 =>
 kEq (cR Tryd.prog R) w_9 .neq 3 (.tmp 44) (.const (.int .i64 0)) v44 (.int .i64 0) fun v45 w_10 =>
 kIf v45 (
 kCall (cR Tryd.prog R) w_10 7 #[] fun v46 w_11 =>
 R (.returned v46) w_11) (
 kJn (fun J_1 =>
 kConv (cR Tryd.prog R) w_10 25 9 v25 fun v48 w_37 =>
 kConv (cR Tryd.prog R) w_37 25 9 v30 fun v50 w_38 =>
 kBin (cR Tryd.prog R) w_38 .lss 9 v48 v50 fun v51 w_39 =>
 kIf v51 (
 kD [] [] (J_1 [(.int .i64 (-1))] w_39)) (
 kD [] [] (J_1 [(.int .i64 0)] w_39))) (fun cs_1 w_12 => ∀ ds_1 : List Value,
 (fun j11 =>
 kJn (fun J_2 =>
 kConv (cR Tryd.prog R) w_12 25 9 v25 fun v53 w_34 =>
 kConv (cR Tryd.prog R) w_34 25 9 v30 fun v55 w_35 =>
 kBin (cR Tryd.prog R) w_35 .gtr 9 v53 v55 fun v56 w_36 =>
 kIf v56 (
 kD [] [] (J_2 [(.int .i64 1)] w_36)) (
 kD [] [] (J_2 [j11] w_36))) (fun cs_2 w_13 => ∀ ds_2 : List Value,
 (fun j11_1 =>
 kJn (fun J_3 =>
 kBlt (cR Tryd.prog R) w_13 .len #[22] 3 #[false] #[(.slice b bn bc)] fun v58 w_28 =>
 kBlt (cR Tryd.prog R) w_28 .len #[22] 3 #[false] #[(.slice a an ac)] fun v60 w_29 =>
 kBin (cR Tryd.prog R) w_29 .geq 3 v58 v60 fun v61 w_30 =>
 kIf v61 (
 kBlt (cR Tryd.prog R) w_30 .len #[22] 3 #[false] #[(.slice a an ac)] fun v65 w_31 =>
 kSl (cR Tryd.prog R) w_31 22 (.slice b bn bc) none (some v65) none fun v66 w_32 =>
 kCall (cR Tryd.prog R) w_32 11 #[v66, (.slice a an ac)] fun v68 w_33 =>
 kD [] [] (J_3 [v68] w_33)) (
 kD [] [] (J_3 [(.bool false)] w_30))) (fun cs_3 w_14 => ∀ ds_3 : List Value,
 (fun j12 =>
 kCall (cR Tryd.prog R) w_14 12 #[(.slice a an ac), (.slice b bn bc)] fun v72 w_15 =>
 kEq (cR Tryd.prog R) w_15 .eql 3 (.tmp 72) (.tmp 73) v72 j11_1 fun v74 w_16 =>
 kIf v74 (
 kCall (cR Tryd.prog R) w_16 12 #[(.slice b bn bc), (.slice a an ac)] fun v78 w_17 =>
 kUn (cR Tryd.prog R) w_17 .neg j11_1 fun v80 w_18 =>
 kEq (cR Tryd.prog R) w_18 .eql 3 (.tmp 78) (.tmp 80) v78 v80 fun v81 w_19 =>
 kIf v81 (
 kConv (cR Tryd.prog R) w_19 25 9 v30 fun v85 w_20 =>
 kConv (cR Tryd.prog R) w_20 25 9 v35 fun v87 w_21 =>
 kBin (cR Tryd.prog R) w_21 .lss 9 v85 v87 fun v88 w_22 =>
 kBin (cR Tryd.prog R) w_22 .gtr 3 j11_1 (.int .i64 0) fun v90 w_23 =>
 kIf v90 (
 kEq (cR Tryd.prog R) w_23 .eql 4 (.tmp 88) (.tmp 93) v88 (.bool true) fun v94 w_24 =>
 kIf v94 (
 kCall (cR Tryd.prog R) w_24 7 #[] fun v97 w_25 =>
 R (.returned v97) w_25) (
 R (.returned (.bool false)) w_24)) (
 kEq (cR Tryd.prog R) w_23 .eql 4 (.tmp 88) (.tmp 93) v88 j12 fun v94_1 w_26 =>
 kIf v94_1 (
 kCall (cR Tryd.prog R) w_26 7 #[] fun v97_1 w_27 =>
 R (.returned v97_1) w_27) (
 R (.returned (.bool false)) w_26))) (
 R (.returned (.bool false)) w_19)) (
 R (.returned (.bool false)) w_16)) (cs_3.getD 0 undef))) (cs_2.getD 0 undef))) (cs_1.getD 0 undef))))
theorem c3 (a : Option Addr) (an : Nat) (ac : Nat) (b : Option Addr) (bn : Nat) (bc : Nat) (R : Ending → World → Prop) (w : World) (h : vc3 a an ac b bn bc R w) : Calls Tryd.prog 3 #[(.slice a an ac), (.slice b bn bc)] w R :=
  calls_of_vc (A := { loops := [(1000014, [12]), (1000013, [11]), (1000011, [11]), (1000003, [])], pars := [] }) (Eq.mpr (show FnVc Tryd.prog { loops := [(1000014, [12]), (1000013, [11]), (1000011, [11]), (1000003, [])], pars := [] } 99 3 [(.slice a an ac), (.slice b bn bc)] R w = vc3 a an ac b bn bc R w by kernel_rfl) h)

/-- loupe/loupelaw10.KeyReads -/
def vc4 (b : Option Addr) (bn : Nat) (bc : Nat) (many : Int) (R : Ending → World → Prop) (w : World) : Prop :=
 kBox (cR Tryd.prog R) w 25 (.slice b bn bc) fun v2 w_1 =>
 kBox (cR Tryd.prog R) w_1 3 (.int .i64 many) fun v3 w_2 =>
 kAlloc (cR Tryd.prog R) w_2 4 fun v4 w_3 =>
 kLoad (cR Tryd.prog R) w_3 25 v2 fun v19 w_4 =>
 kBlt (cR Tryd.prog R) w_4 .len #[25] 3 #[false] #[v19] fun v20 w_5 =>
 kBin (cR Tryd.prog R) w_5 .gtr 3 v20 (.int .i64 300) fun v21 w_6 =>
 kIf v21 (
 kCall (cR Tryd.prog R) w_6 7 #[] fun v22 w_7 =>
 kStore (cR Tryd.prog R) w_7 4 v4 v22 fun w_8 =>
 RetK Tryd.prog [.cell v4 4] R w_8) (
 kLoad (cR Tryd.prog R) w_6 25 v2 fun v24 w_9 =>
 kCall (cR Tryd.prog R) w_9 13 #[v24] fun v25 w_10 =>
 kExt v25 0 fun v26 =>
 kExt v25 1 fun v27 =>
 kLoad (cR Tryd.prog R) w_10 25 v2 fun v29 w_11 =>
 kCall (cR Tryd.prog R) w_11 14 #[v29] fun v30 w_12 =>
 kExt v30 0 fun v31 =>
 kExt v30 1 fun v32 =>
 kLoad (cR Tryd.prog R) w_12 25 v2 fun v33 w_13 =>
 kCall (cR Tryd.prog R) w_13 15 #[v33] fun v34 w_14 =>
 kJn (fun J =>
 kCall (cR Tryd.prog R) w_14 11 #[v26, v31] fun v37 w_82 =>
 kUn (cR Tryd.prog R) w_82 .not v37 fun v38 w_83 =>
 kIf v38 (
 kIf (.bool true) (
 kStore (cR Tryd.prog R) w_83 4 v4 (.bool false) fun w_84 =>
 RetK Tryd.prog [.cell v4 4] R w_84) (
 kD [] [] (J [] w_83))) (
 kCall (cR Tryd.prog R) w_83 10 #[v27] fun v41 w_85 =>
 kEq (cR Tryd.prog R) w_85 .neq 3 (.tmp 41) (.tmp 42) v41 v32 fun v43 w_86 =>
 kIf v43 (
 kIf (.bool true) (
 kStore (cR Tryd.prog R) w_86 4 v4 (.bool false) fun w_87 =>
 RetK Tryd.prog [.cell v4 4] R w_87) (
 kD [] [] (J [] w_86))) (
 kEq (cR Tryd.prog R) w_86 .eql 37 (.tmp 46) (.const .nilFunc) v34 .nilFunc fun v47 w_88 =>
 kIf v47 (
 kStore (cR Tryd.prog R) w_88 4 v4 (.bool false) fun w_89 =>
 RetK Tryd.prog [.cell v4 4] R w_89) (
 kD [] [] (J [] w_88))))) (fun cs w_15 => ∀ ds : List Value,
 kAlloc (cR Tryd.prog R) w_15 3 fun v10 w_16 =>
 kStore (cR Tryd.prog R) w_16 3 v10 (.int .i64 0) fun w_17 =>
 kLoop [v10] [] w_17 fun cs_1 ds_1 d w_18 N =>
 (fun x10 =>
 (fun (c : Cx) =>
 kLoad c w_18 3 x10 fun v49 w_19 =>
 kBin c w_19 .lss 3 v49 (.int .i64 2) fun v50 w_20 =>
 kIf v50 (
 kJnD (fun J_1 =>
 kAlloc c w_20 3 fun v11 w_28 =>
 kAlloc c w_28 3 fun v12 w_29 =>
 kStore c w_29 3 v11 (.int .i64 0) fun w_30 =>
 kStore c w_30 3 v12 (.int .i64 0) fun w_31 =>
 kJnD (fun J_2 =>
 kRange Tryd.prog none w_31 v34 2 (fun l D args w_43 Rr =>
 (fun p54 p55 =>
 kAlloc (cN Tryd.prog) w_43 41 fun v14 w_44 =>
 kStore (cN Tryd.prog) w_44 41 v14 p55 fun w_45 =>
 rndMid l D w_43 w_45 fun lo w_46 =>
 (fun (c_3 : Cx) =>
 kLoad c_3 w_46 25 v2 fun v57 w_47 =>
 kLoad c_3 w_47 3 v11 fun v58 w_48 =>
 kSl c_3 w_48 25 v57 (some v58) none none fun v59 w_49 =>
 kCall c_3 w_49 16 #[v59] fun v60 w_50 =>
 kExt v60 0 fun v61 =>
 kExt v60 1 fun v62 =>
 kAlloc c_3 w_50 41 fun v15 w_51 =>
 kStore c_3 w_51 41 v15 v61 fun w_52 =>
 kJn (fun J_3 =>
 kEq c_3 w_52 .eql 3 (.tmp 63) (.const (.int .i64 0)) v62 (.int .i64 0) fun v64 w_65 =>
 kIf v64 (
 kIf (.bool true) (
 kStore c_3 w_65 4 v4 (.bool false) fun w_66 =>
 rndEnd l D lo w_43 Rr .ret [] w_66) (
 kD [] [] (J_3 [] w_65))) (
 kLoad c_3 w_65 3 v11 fun v67 w_67 =>
 kEq c_3 w_67 .neq 3 (.tmp 66) (.tmp 67) p54 v67 fun v68 w_68 =>
 kIf v68 (
 kIf (.bool true) (
 kStore c_3 w_68 4 v4 (.bool false) fun w_69 =>
 rndEnd l D lo w_43 Rr .ret [] w_69) (
 kD [] [] (J_3 [] w_68))) (
 kLoad c_3 w_68 41 v14 fun v71 w_70 =>
 kLoad c_3 w_70 41 v15 fun v72 w_71 =>
 kEq c_3 w_71 .neq 41 (.tmp 71) (.tmp 72) v71 v72 fun v73 w_72 =>
 kIf v73 (
 kStore c_3 w_72 4 v4 (.bool false) fun w_73 =>
 rndEnd l D lo w_43 Rr .ret [] w_73) (
 kD [] [] (J_3 [] w_72))))) (fun cs_4 w_53 => ∀ ds_4 : List Value,
 (fun (c_4 : Cx) =>
 kLoad c_4 w_53 3 v11 fun v75 w_54 =>
 kBin c_4 w_54 .add 3 v75 v62 fun v77 w_55 =>
 kStore c_4 w_55 3 v11 v77 fun w_56 =>
 kLoad c_4 w_56 3 v12 fun v78 w_57 =>
 kBin c_4 w_57 .add 3 v78 (.int .i64 1) fun v79 w_58 =>
 kStore c_4 w_58 3 v12 v79 fun w_59 =>
 kLoad c_4 w_59 3 x10 fun v80 w_60 =>
 kEq c_4 w_60 .eql 3 (.tmp 80) (.const (.int .i64 0)) v80 (.int .i64 0) fun v81 w_61 =>
 kIf v81 (
 kLoad c_4 w_61 3 v12 fun v83 w_62 =>
 kLoad c_4 w_62 3 v3 fun v84 w_63 =>
 kBin c_4 w_63 .geq 3 v83 v84 fun v85 w_64 =>
 kIf v85 (
 rndEnd l D lo w_43 Rr (.exit 2) [] w_64) (
 rndEnd l D lo w_43 Rr .normal [] w_64)) (
 kIf (.bool false) (
 rndEnd l D lo w_43 Rr (.exit 2) [] w_61) (
 rndEnd l D lo w_43 Rr .normal [] w_61))) ⟨Tryd.prog, fun ch w => rndEnd l D lo w_43 Rr (.panic ch) [] w, false⟩)) ⟨Tryd.prog, fun ch w => rndEnd l D lo w_43 Rr (.panic ch) [] w, false⟩) (args.getD 0 undef) (args.getD 1 undef))
  (fun D_1 w_74 =>
 J_2 [] (markOf D_1 :: d) w_74)
  (fun D_1 w_75 =>
 Lv Tryd.prog [.cell v4 4] R (markOf D_1 :: d) .returning w_75)
  (fun D_1 id w_76 => kX [2] id (if id = 2 then J_2 [] (markOf D_1 :: d) w_76 else if id = 1 then J_1 [] (markOf D_1 :: d) w_76 else if id = 0 then (fun (c_5 : Cx) =>
 kCall c_5 w_76 7 #[] fun v99 w_77 =>
 kStore c_5 w_77 4 v4 v99 fun w_78 =>
 Lv Tryd.prog [.cell v4 4] R (markOf D_1 :: d) .returning w_78) ⟨Tryd.prog, fun ch w => Lv Tryd.prog [.cell v4 4] R (markOf D_1 :: d) (.panicking ch) w, false⟩ else False))
  (fun D_1 ch w_79 => (fun ch w => Lv Tryd.prog [.cell v4 4] R (markOf D_1 :: d) (.panicking ch) w) ch w_79)) (fun cs_3 d_2 w_32 => ∀ ds_3 : List Value,
 (fun (c_2 : Cx) =>
 kLoad c_2 w_32 3 x10 fun v87 w_33 =>
 kEq c_2 w_33 .eql 3 (.tmp 87) (.const (.int .i64 1)) v87 (.int .i64 1) fun v88 w_34 =>
 kIf v88 (
 kLoad c_2 w_34 25 v2 fun v90 w_35 =>
 kLoad c_2 w_35 3 v11 fun v91 w_36 =>
 kSl c_2 w_36 25 v90 (some v91) none none fun v92 w_37 =>
 kCall c_2 w_37 16 #[v92] fun v93 w_38 =>
 kExt v93 0 fun v94 =>
 kExt v93 1 fun v95 =>
 kAlloc c_2 w_38 41 fun v17 w_39 =>
 kStore c_2 w_39 41 v17 v94 fun w_40 =>
 kEq c_2 w_40 .neq 3 (.tmp 96) (.const (.int .i64 0)) v95 (.int .i64 0) fun v97 w_41 =>
 kIf v97 (
 kStore c_2 w_41 4 v4 (.bool false) fun w_42 =>
 Lv Tryd.prog [.cell v4 4] R d_2 .returning w_42) (
 J_1 [] d_2 w_41)) (
 J_1 [] d_2 w_34)) ⟨Tryd.prog, fun ch w => Lv Tryd.prog [.cell v4 4] R d_2 (.panicking ch) w, false⟩)) (fun cs_2 d_1 w_21 => ∀ ds_2 : List Value,
 (fun (c_1 : Cx) =>
 kLoad c_1 w_21 3 x10 fun v98 w_22 =>
 kAlloc c_1 w_22 3 fun v10_1 w_23 =>
 kStore c_1 w_23 3 v10_1 v98 fun w_24 =>
 kLoad c_1 w_24 3 v10_1 fun v51 w_25 =>
 kBin c_1 w_25 .add 3 v51 (.int .i64 1) fun v52 w_26 =>
 kStore c_1 w_26 3 v10_1 v52 fun w_27 =>
 N [v10_1] d_1 w_27) ⟨Tryd.prog, fun ch w => Lv Tryd.prog [.cell v4 4] R d_1 (.panicking ch) w, false⟩)) (
 kCall c w_20 7 #[] fun v99_1 w_80 =>
 kStore c w_80 4 v4 v99_1 fun w_81 =>
 Lv Tryd.prog [.cell v4 4] R d .returning w_81)) ⟨Tryd.prog, fun ch w => Lv Tryd.prog [.cell v4 4] R d (.panicking ch) w, false⟩) (cs_1.getD 0 undef)))
theorem c4 (b : Option Addr) (bn : Nat) (bc : Nat) (many : Int) (R : Ending → World → Prop) (w : World) (h : vc4 b bn bc many R w) : Calls Tryd.prog 4 #[(.slice b bn bc), (.int .i64 many)] w R :=
  calls_of_vc (A := { loops := [(1000025, []), (1000021, []), (1000018, []), (0, [10]), (1000008, [])], pars := [], dvar := [0, 1000021, 1000025] }) (Eq.mpr (show FnVc Tryd.prog { loops := [(1000025, []), (1000021, []), (1000018, []), (0, [10]), (1000008, [])], pars := [], dvar := [0, 1000021, 1000025] } 100 4 [(.slice b bn bc), (.int .i64 many)] R w = vc4 b bn bc many R w by kernel_rfl) h)

/-- loupe/loupelaw10.few -/
def vc6 (l : Option Addr) (ln : Nat) (lc : Nat) (R : Ending → World → Prop) (w : World) : Prop :=
 kLoopF [(.int .i64 0)] w fun cs ds w_1 N =>
 (fun x3 =>
 kBlt (cR Tryd.prog R) w_1 .len #[22] 3 #[false] #[(.slice l ln lc)] fun v6 w_2 =>
 kBin (cR Tryd.prog R) w_2 .lss 3 x3 v6 fun v7 w_3 =>
 kIf v7 (
 kIa (cR Tryd.prog R) w_3 22 (.slice l ln lc) x3 fun v12 w_4 =>
 kFa (cR Tryd.prog R) w_4 41 v12 2 fun v13 w_5 =>
 kLoad (cR Tryd.prog R) w_5 9 v13 fun v14 w_6 =>
 kBlt (cR Tryd.prog R) w_6 .len #[9] 3 #[false] #[v14] fun v15 w_7 =>
 kBin (cR Tryd.prog R) w_7 .gtr 3 v15 (.int .i64 200) fun v16 w_8 =>
 kIf v16 (
 R (.returned (.bool false)) w_8) (
 kBin (cR Tryd.prog R) w_8 .add 3 x3 (.int .i64 1) fun v9 w_9 =>
 kD [] [] (N [v9] w_9))) (
 kBlt (cR Tryd.prog R) w_3 .len #[22] 3 #[false] #[(.slice l ln lc)] fun v18 w_10 =>
 kBin (cR Tryd.prog R) w_10 .leq 3 v18 (.int .i64 8) fun v19 w_11 =>
 R (.returned v19) w_11)) (cs.getD 0 undef)
theorem c6 (l : Option Addr) (ln : Nat) (lc : Nat) (R : Ending → World → Prop) (w : World) (h : vc6 l ln lc R w) : Calls Tryd.prog 6 #[(.slice l ln lc)] w R :=
  calls_of_vc (A := { loops := [(0, [3])], pars := [] }) (Eq.mpr (show FnVc Tryd.prog { loops := [(0, [3])], pars := [] } 20 6 [(.slice l ln lc)] R w = vc6 l ln lc R w by kernel_rfl) h)

/-- loupe/loupelaw10.works -/
def vc7  (R : Ending → World → Prop) (w : World) : Prop :=
 kAlloc (cR Tryd.prog R) w 41 fun v1 w_1 =>
 kDrawn true (
 kDrawn true (
 kLoad (cQ Tryd.prog) w_1 41 v1 fun v13 w_2 =>
 kDrew w_2 fun w_3 =>
 (fun (c : Cx) =>
 kCall c w_3 20 #[(.int .i64 1)] fun v14 w_4 =>
 kLoad (cQ Tryd.prog) w_4 41 v1 fun v13_1 w_5 =>
 kSame v13_1 v13 (
 kDrew w_4 fun w_6 =>
 kBuildS c w_6 22 2 #[(0, v13), (1, v14)] fun v15 w_7 =>
 kDrew w_7 fun w_8 =>
 kCall c w_8 8 #[v15] fun v16 w_9 =>
 kExt v16 0 fun v17 =>
 kExt v16 1 fun v18 =>
 kDrew w_9 fun w_10 =>
 kCall (cR Tryd.prog R) w_10 21 #[(.int .i64 (-1))] fun v20 w_11 =>
 kBuildS (cR Tryd.prog R) w_11 22 1 #[(0, v20)] fun v21 w_12 =>
 kCall (cR Tryd.prog R) w_12 8 #[v21] fun v22 w_13 =>
 kExt v22 0 fun v23 =>
 kExt v22 1 fun v24 =>
 kBuild (cR Tryd.prog R) w_13 41 #[(0, (.int .i64 3)), (2, (.string ⟨#[97, 0]⟩))] fun v26 w_14 =>
 kBuildS (cR Tryd.prog R) w_14 22 1 #[(0, v26)] fun v27 w_15 =>
 kCall (cR Tryd.prog R) w_15 8 #[v27] fun v28 w_16 =>
 kExt v28 0 fun v29 =>
 kExt v28 1 fun v30 =>
 kBuildS (cR Tryd.prog R) w_16 25 2 #[(0, (.int .u8 3)), (1, (.int .u8 97))] fun v32 w_17 =>
 kCall (cR Tryd.prog R) w_17 13 #[v32] fun v33 w_18 =>
 kExt v33 0 fun v34 =>
 kExt v33 1 fun v35 =>
 kLoad (cR Tryd.prog R) w_18 41 v1 fun v37 w_19 =>
 kBuildS (cR Tryd.prog R) w_19 22 1 #[(0, v37)] fun v38 w_20 =>
 kCall (cR Tryd.prog R) w_20 9 #[v38] fun v39 w_21 =>
 kExt v39 0 fun v40 =>
 kExt v39 1 fun v41 =>
 kDrawn true (
 kDrawn true (
 kJn (fun J =>
 kDrew w_21 fun w_22 =>
 kCall c w_22 10 #[v18] fun v43 w_23 =>
 kDrew w_23 fun w_24 =>
 kCall c w_24 10 #[v24] fun v45 w_25 =>
 kBin (cQ Tryd.prog) w_25 .add 3 v43 v45 fun v46 w_26 =>
 kDrew w_26 fun w_27 =>
 kCall c w_27 10 #[v30] fun v48 w_28 =>
 kBin (cQ Tryd.prog) w_28 .add 3 v43 v45 fun v46_1 w_29 =>
 kSame v46_1 v46 (
 kBin (cQ Tryd.prog) w_28 .add 3 v46 v48 fun v49 w_30 =>
 kDrew w_30 fun w_31 =>
 kCall c w_31 10 #[v41] fun v51 w_32 =>
 kBin (cQ Tryd.prog) w_32 .add 3 v43 v45 fun v46_2 w_33 =>
 kSame v46_2 v46 (
 kBin (cQ Tryd.prog) w_32 .add 3 v46 v48 fun v49_1 w_34 =>
 kSame v49_1 v49 (
 kBin (cQ Tryd.prog) w_32 .add 3 v49 v51 fun v52 w_35 =>
 kEq (cQ Tryd.prog) w_35 .eql 3 (.tmp 52) (.const (.int .i64 0)) v52 (.int .i64 0) fun v53 w_36 =>
 kIf v53 (
 kConv (cQ Tryd.prog) w_36 25 9 v17 fun v56 w_37 =>
 kEq (cQ Tryd.prog) w_37 .eql 9 (.tmp 56) (.const (.string ⟨#[0, 1, 1]⟩)) v56 (.string ⟨#[0, 1, 1]⟩) fun v57 w_38 =>
 kIf v57 (
 kConv (cQ Tryd.prog) w_38 25 9 v23 fun v61 w_39 =>
 kEq (cQ Tryd.prog) w_39 .eql 9 (.tmp 61) (.const (.string ⟨#[2, 127, 255, 255, 255, 255, 255, 255, 255]⟩)) v61 (.string ⟨#[2, 127, 255, 255, 255, 255, 255, 255, 255]⟩) fun v62 w_40 =>
 kIf v62 (
 kConv (cQ Tryd.prog) w_40 25 9 v29 fun v66 w_41 =>
 kEq (cQ Tryd.prog) w_41 .eql 9 (.tmp 66) (.const (.string ⟨#[3, 97, 0, 255, 0, 1]⟩)) v66 (.string ⟨#[3, 97, 0, 255, 0, 1]⟩) fun v67 w_42 =>
 kIf v67 (
 kDrew w_42 fun w_43 =>
 kCall c w_43 10 #[v35] fun v71 w_44 =>
 kEq (cQ Tryd.prog) w_44 .eql 3 (.tmp 71) (.const (.int .i64 200)) v71 (.int .i64 200) fun v72 w_45 =>
 kIf v72 (
 kConv (cQ Tryd.prog) w_45 25 9 v40 fun v76 w_46 =>
 kEq (cQ Tryd.prog) w_46 .eql 9 (.tmp 76) (.const (.string ⟨#[0, 255]⟩)) v76 (.string ⟨#[0, 255]⟩) fun v77 w_47 =>
 kIf v77 (
 kLoad (cQ Tryd.prog) w_47 41 v1 fun v83 w_48 =>
 kDrew w_48 fun w_49 =>
 kCall c w_49 21 #[(.int .i64 1)] fun v80 w_50 =>
 kLoad (cQ Tryd.prog) w_50 41 v1 fun v83_1 w_51 =>
 kSame v83_1 v83 (
 kBoth (
 kDrew w_50 fun w_52 =>
 kBuildS c w_52 22 1 #[(0, v80)] fun v81 w_53 =>
 kLoad (cQ Tryd.prog) w_53 41 v1 fun v83_2 w_54 =>
 kSame v83_2 v83 (
 kDrew w_53 fun w_55 =>
 kCall c w_55 21 #[(.int .i64 1)] fun v82 w_56 =>
 kLoad (cQ Tryd.prog) w_56 41 v1 fun v83_3 w_57 =>
 kSame v83_3 v83 (
 kDrew w_56 fun w_58 =>
 kBuildS c w_58 22 2 #[(0, v82), (1, v83)] fun v84 w_59 =>
 kDrew w_59 fun w_60 =>
 kCall c w_60 12 #[v81, v84] fun v85 w_61 =>
 kEq (cQ Tryd.prog) w_61 .eql 3 (.tmp 85) (.const (.int .i64 (-1))) v85 (.int .i64 (-1)) fun v86 w_62 =>
 kDrew w_62 fun w_63 => J [v18, v43, v24, v45, v46, v30, v48, v49, v41, v51, v52, v53, (.bool true), v17, v56, v57, v57, (.bool true), v23, v61, v62, v62, (.bool true), v29, v66, v67, v67, (.bool true), v35, v71, v72, v72, (.bool true), v40, v76, v77, v77, (.bool true), v80, v81, v82, v83, v84, v85, v86, v86] w_63))) (
 kDrew w_50 fun w_64 =>
 kCall c w_64 21 #[(.int .i64 1)] fun v82_1 w_65 =>
 kLoad (cQ Tryd.prog) w_65 41 v1 fun v83_4 w_66 =>
 kSame v83_4 v83 (
 kBoth (
 kDrew w_65 fun w_67 =>
 kBuildS c w_67 22 1 #[(0, v80)] fun v81_1 w_68 =>
 kLoad (cQ Tryd.prog) w_68 41 v1 fun v83_5 w_69 =>
 kSame v83_5 v83 (
 kDrew w_68 fun w_70 =>
 kBuildS c w_70 22 2 #[(0, v82_1), (1, v83)] fun v84_1 w_71 =>
 kDrew w_71 fun w_72 =>
 kCall c w_72 12 #[v81_1, v84_1] fun v85_1 w_73 =>
 kEq (cQ Tryd.prog) w_73 .eql 3 (.tmp 85) (.const (.int .i64 (-1))) v85_1 (.int .i64 (-1)) fun v86_1 w_74 =>
 kDrew w_74 fun w_75 => J [v18, v43, v24, v45, v46, v30, v48, v49, v41, v51, v52, v53, (.bool true), v17, v56, v57, v57, (.bool true), v23, v61, v62, v62, (.bool true), v29, v66, v67, v67, (.bool true), v35, v71, v72, v72, (.bool true), v40, v76, v77, v77, (.bool true), v80, v81_1, v82_1, v83, v84_1, v85_1, v86_1, v86_1] w_75)) (
 kDrew w_65 fun w_76 =>
 kBuildS c w_76 22 2 #[(0, v82_1), (1, v83)] fun v84_2 w_77 =>
 kDrew w_77 fun w_78 =>
 kBuildS c w_78 22 1 #[(0, v80)] fun v81_2 w_79 =>
 kDrew w_79 fun w_80 =>
 kCall c w_80 12 #[v81_2, v84_2] fun v85_2 w_81 =>
 kEq (cQ Tryd.prog) w_81 .eql 3 (.tmp 85) (.const (.int .i64 (-1))) v85_2 (.int .i64 (-1)) fun v86_2 w_82 =>
 kDrew w_82 fun w_83 => J [v18, v43, v24, v45, v46, v30, v48, v49, v41, v51, v52, v53, (.bool true), v17, v56, v57, v57, (.bool true), v23, v61, v62, v62, (.bool true), v29, v66, v67, v67, (.bool true), v35, v71, v72, v72, (.bool true), v40, v76, v77, v77, (.bool true), v80, v81_2, v82_1, v83, v84_2, v85_2, v86_2, v86_2] w_83))))) (
 kBoth (
 kDrew w_47 fun w_84 => J [v18, v43, v24, v45, v46, v30, v48, v49, v41, v51, v52, v53, (.bool true), v17, v56, v57, v57, (.bool true), v23, v61, v62, v62, (.bool true), v29, v66, v67, v67, (.bool true), v35, v71, v72, v72, (.bool true), v40, v76, v77, v77, (.bool false), undef, undef, undef, undef, undef, undef, undef, (.bool false)] w_84) (
 kBoth (
 kDrew w_47 fun w_85 => J [v18, v43, v24, v45, v46, v30, v48, v49, v41, v51, v52, v53, (.bool true), v17, v56, v57, v57, (.bool true), v23, v61, v62, v62, (.bool true), v29, v66, v67, v67, (.bool true), v35, v71, v72, v72, (.bool true), v40, v76, v77, v77, (.bool false), undef, undef, undef, undef, undef, undef, undef, (.bool false)] w_85) (
 kDrew w_47 fun w_86 => J [v18, v43, v24, v45, v46, v30, v48, v49, v41, v51, v52, v53, (.bool true), v17, v56, v57, v57, (.bool true), v23, v61, v62, v62, (.bool true), v29, v66, v67, v67, (.bool true), v35, v71, v72, v72, (.bool true), v40, v76, v77, v77, (.bool false), undef, undef, undef, undef, undef, undef, undef, (.bool false)] w_86)))) (
 kBoth (
 kDrew w_45 fun w_87 => J [v18, v43, v24, v45, v46, v30, v48, v49, v41, v51, v52, v53, (.bool true), v17, v56, v57, v57, (.bool true), v23, v61, v62, v62, (.bool true), v29, v66, v67, v67, (.bool true), v35, v71, v72, v72, (.bool false), undef, undef, undef, (.bool false), (.bool false), undef, undef, undef, undef, undef, undef, undef, (.bool false)] w_87) (
 kBoth (
 kDrew w_45 fun w_88 => J [v18, v43, v24, v45, v46, v30, v48, v49, v41, v51, v52, v53, (.bool true), v17, v56, v57, v57, (.bool true), v23, v61, v62, v62, (.bool true), v29, v66, v67, v67, (.bool true), v35, v71, v72, v72, (.bool false), undef, undef, undef, (.bool false), (.bool false), undef, undef, undef, undef, undef, undef, undef, (.bool false)] w_88) (
 kDrew w_45 fun w_89 => J [v18, v43, v24, v45, v46, v30, v48, v49, v41, v51, v52, v53, (.bool true), v17, v56, v57, v57, (.bool true), v23, v61, v62, v62, (.bool true), v29, v66, v67, v67, (.bool true), v35, v71, v72, v72, (.bool false), undef, undef, undef, (.bool false), (.bool false), undef, undef, undef, undef, undef, undef, undef, (.bool false)] w_89)))) (
 kBoth (
 kDrew w_42 fun w_90 => J [v18, v43, v24, v45, v46, v30, v48, v49, v41, v51, v52, v53, (.bool true), v17, v56, v57, v57, (.bool true), v23, v61, v62, v62, (.bool true), v29, v66, v67, v67, (.bool false), undef, undef, undef, (.bool false), (.bool false), undef, undef, undef, (.bool false), (.bool false), undef, undef, undef, undef, undef, undef, undef, (.bool false)] w_90) (
 kBoth (
 kDrew w_42 fun w_91 => J [v18, v43, v24, v45, v46, v30, v48, v49, v41, v51, v52, v53, (.bool true), v17, v56, v57, v57, (.bool true), v23, v61, v62, v62, (.bool true), v29, v66, v67, v67, (.bool false), undef, undef, undef, (.bool false), (.bool false), undef, undef, undef, (.bool false), (.bool false), undef, undef, undef, undef, undef, undef, undef, (.bool false)] w_91) (
 kDrew w_42 fun w_92 => J [v18, v43, v24, v45, v46, v30, v48, v49, v41, v51, v52, v53, (.bool true), v17, v56, v57, v57, (.bool true), v23, v61, v62, v62, (.bool true), v29, v66, v67, v67, (.bool false), undef, undef, undef, (.bool false), (.bool false), undef, undef, undef, (.bool false), (.bool false), undef, undef, undef, undef, undef, undef, undef, (.bool false)] w_92)))) (
 kBoth (
 kDrew w_40 fun w_93 => J [v18, v43, v24, v45, v46, v30, v48, v49, v41, v51, v52, v53, (.bool true), v17, v56, v57, v57, (.bool true), v23, v61, v62, v62, (.bool false), undef, undef, undef, (.bool false), (.bool false), undef, undef, undef, (.bool false), (.bool false), undef, undef, undef, (.bool false), (.bool false), undef, undef, undef, undef, undef, undef, undef, (.bool false)] w_93) (
 kBoth (
 kDrew w_40 fun w_94 => J [v18, v43, v24, v45, v46, v30, v48, v49, v41, v51, v52, v53, (.bool true), v17, v56, v57, v57, (.bool true), v23, v61, v62, v62, (.bool false), undef, undef, undef, (.bool false), (.bool false), undef, undef, undef, (.bool false), (.bool false), undef, undef, undef, (.bool false), (.bool false), undef, undef, undef, undef, undef, undef, undef, (.bool false)] w_94) (
 kDrew w_40 fun w_95 => J [v18, v43, v24, v45, v46, v30, v48, v49, v41, v51, v52, v53, (.bool true), v17, v56, v57, v57, (.bool true), v23, v61, v62, v62, (.bool false), undef, undef, undef, (.bool false), (.bool false), undef, undef, undef, (.bool false), (.bool false), undef, undef, undef, (.bool false), (.bool false), undef, undef, undef, undef, undef, undef, undef, (.bool false)] w_95)))) (
 kBoth (
 kDrew w_38 fun w_96 => J [v18, v43, v24, v45, v46, v30, v48, v49, v41, v51, v52, v53, (.bool true), v17, v56, v57, v57, (.bool false), undef, undef, undef, (.bool false), (.bool false), undef, undef, undef, (.bool false), (.bool false), undef, undef, undef, (.bool false), (.bool false), undef, undef, undef, (.bool false), (.bool false), undef, undef, undef, undef, undef, undef, undef, (.bool false)] w_96) (
 kBoth (
 kDrew w_38 fun w_97 => J [v18, v43, v24, v45, v46, v30, v48, v49, v41, v51, v52, v53, (.bool true), v17, v56, v57, v57, (.bool false), undef, undef, undef, (.bool false), (.bool false), undef, undef, undef, (.bool false), (.bool false), undef, undef, undef, (.bool false), (.bool false), undef, undef, undef, (.bool false), (.bool false), undef, undef, undef, undef, undef, undef, undef, (.bool false)] w_97) (
 kDrew w_38 fun w_98 => J [v18, v43, v24, v45, v46, v30, v48, v49, v41, v51, v52, v53, (.bool true), v17, v56, v57, v57, (.bool false), undef, undef, undef, (.bool false), (.bool false), undef, undef, undef, (.bool false), (.bool false), undef, undef, undef, (.bool false), (.bool false), undef, undef, undef, (.bool false), (.bool false), undef, undef, undef, undef, undef, undef, undef, (.bool false)] w_98)))) (
 kBoth (
 kDrew w_36 fun w_99 => J [v18, v43, v24, v45, v46, v30, v48, v49, v41, v51, v52, v53, (.bool false), undef, undef, undef, (.bool false), (.bool false), undef, undef, undef, (.bool false), (.bool false), undef, undef, undef, (.bool false), (.bool false), undef, undef, undef, (.bool false), (.bool false), undef, undef, undef, (.bool false), (.bool false), undef, undef, undef, undef, undef, undef, undef, (.bool false)] w_99) (
 kBoth (
 kDrew w_36 fun w_100 => J [v18, v43, v24, v45, v46, v30, v48, v49, v41, v51, v52, v53, (.bool false), undef, undef, undef, (.bool false), (.bool false), undef, undef, undef, (.bool false), (.bool false), undef, undef, undef, (.bool false), (.bool false), undef, undef, undef, (.bool false), (.bool false), undef, undef, undef, (.bool false), (.bool false), undef, undef, undef, undef, undef, undef, undef, (.bool false)] w_100) (
 kDrew w_36 fun w_101 => J [v18, v43, v24, v45, v46, v30, v48, v49, v41, v51, v52, v53, (.bool false), undef, undef, undef, (.bool false), (.bool false), undef, undef, undef, (.bool false), (.bool false), undef, undef, undef, (.bool false), (.bool false), undef, undef, undef, (.bool false), (.bool false), undef, undef, undef, (.bool false), (.bool false), undef, undef, undef, undef, undef, undef, undef, (.bool false)] w_101))))))) (fun cs w_102 =>
 (fun g45 =>
 R (.returned g45) w_102) (cs.getD 45 undef)))))) ⟨Tryd.prog, fun ch w => ∀ _ : List Value, R (.panicked ch) w, false⟩))
theorem c7  (R : Ending → World → Prop) (w : World) (h : vc7  R w) : Calls Tryd.prog 7 #[] w R :=
  calls_of_vc (A := { loops := [], pars := [], chs := [(2, (.q 0 (.e 1 (.e 2 (.e 3 (.q 4 (.q 5 (.q 6 (.q 7 .done))))))))), (7, (.q 0 (.q 2 (.q 5 (.q 8 (.e 1 (.e 3 (.q 4 (.e 6 (.q 7 (.e 9 (.q 10 (.q 11 (.q 12 (.q 13 (.q 14 (.q 15 (.q 16 (.q 17 (.q 18 (.q 19 (.q 20 (.q 21 (.q 22 (.q 23 (.q 24 (.q 25 (.q 26 (.q 27 (.q 28 (.e 29 (.q 30 (.q 31 (.q 32 (.q 33 (.q 34 (.q 35 (.q 36 (.q 37 (.q 41 (.e 38 (.or 39 (.e 40 (.e 42 (.e 43 (.q 44 (.q 45 .done))))) (.e 40 (.or 39 (.e 42 (.e 43 (.q 44 (.q 45 .done)))) (.e 42 (.e 39 (.e 43 (.q 44 (.q 45 .done)))))))))))))))))))))))))))))))))))))))))))))))))] }) (Eq.mpr (show FnVc Tryd.prog { loops := [], pars := [], chs := [(2, (.q 0 (.e 1 (.e 2 (.e 3 (.q 4 (.q 5 (.q 6 (.q 7 .done))))))))), (7, (.q 0 (.q 2 (.q 5 (.q 8 (.e 1 (.e 3 (.q 4 (.e 6 (.q 7 (.e 9 (.q 10 (.q 11 (.q 12 (.q 13 (.q 14 (.q 15 (.q 16 (.q 17 (.q 18 (.q 19 (.q 20 (.q 21 (.q 22 (.q 23 (.q 24 (.q 25 (.q 26 (.q 27 (.q 28 (.e 29 (.q 30 (.q 31 (.q 32 (.q 33 (.q 34 (.q 35 (.q 36 (.q 37 (.q 41 (.e 38 (.or 39 (.e 40 (.e 42 (.e 43 (.q 44 (.q 45 .done))))) (.e 40 (.or 39 (.e 42 (.e 43 (.q 44 (.q 45 .done)))) (.e 42 (.e 39 (.e 43 (.q 44 (.q 45 .done)))))))))))))))))))))))))))))))))))))))))))))))))] } 88 7 [] R w = vc7  R w by kernel_rfl) h)

/-- loupe/key.Encode -/
def vc8 (l : Option Addr) (ln : Nat) (lc : Nat) (R : Ending → World → Prop) (w : World) : Prop :=
 kAlloc (cR Tryd.prog R) w 25 fun v2 w_1 =>
 kAlloc (cR Tryd.prog R) w_1 26 fun v3 w_2 =>
 (fun (c : Cx) =>
 kCall c w_2 24 #[(.slice l ln lc)] fun v6 w_3 =>
 kStore c w_3 25 v2 v6 fun w_4 =>
 kStore c w_4 26 v3 (.int .i64 0) fun w_5 =>
 Lv Tryd.prog [.cell v2 25, .cell v3 26] R [{ target := .fn (.func 22) #[], args := #[v3, (.func (.func 23) #[] #[v2])] }] .returning w_5) ⟨Tryd.prog, fun ch w => Lv Tryd.prog [.cell v2 25, .cell v3 26] R [{ target := .fn (.func 22) #[], args := #[v3, (.func (.func 23) #[] #[v2])] }] (.panicking ch) w, false⟩
theorem c8 (l : Option Addr) (ln : Nat) (lc : Nat) (R : Ending → World → Prop) (w : World) (h : vc8 l ln lc R w) : Calls Tryd.prog 8 #[(.slice l ln lc)] w R :=
  calls_of_vc (A := { loops := [], pars := [] }) (Eq.mpr (show FnVc Tryd.prog { loops := [], pars := [] } 7 8 [(.slice l ln lc)] R w = vc8 l ln lc R w by kernel_rfl) h)

/-- loupe/key.Behind -/
def vc9 (l : Option Addr) (ln : Nat) (lc : Nat) (R : Ending → World → Prop) (w : World) : Prop :=
 kAlloc (cR Tryd.prog R) w 25 fun v2 w_1 =>
 kAlloc (cR Tryd.prog R) w_1 26 fun v3 w_2 =>
 (fun (c : Cx) =>
 kCall c w_2 24 #[(.slice l ln lc)] fun v6 w_3 =>
 kBuildS c w_3 25 1 #[(0, (.int .u8 255))] fun v7 w_4 =>
 kBlt c w_4 .append #[25, 25] 25 #[false, false] #[v6, v7] fun v8 w_5 =>
 kStore c w_5 25 v2 v8 fun w_6 =>
 kStore c w_6 26 v3 (.int .i64 0) fun w_7 =>
 Lv Tryd.prog [.cell v2 25, .cell v3 26] R [{ target := .fn (.func 22) #[], args := #[v3, (.func (.func 25) #[] #[v2])] }] .returning w_7) ⟨Tryd.prog, fun ch w => Lv Tryd.prog [.cell v2 25, .cell v3 26] R [{ target := .fn (.func 22) #[], args := #[v3, (.func (.func 25) #[] #[v2])] }] (.panicking ch) w, false⟩
theorem c9 (l : Option Addr) (ln : Nat) (lc : Nat) (R : Ending → World → Prop) (w : World) (h : vc9 l ln lc R w) : Calls Tryd.prog 9 #[(.slice l ln lc)] w R :=
  calls_of_vc (A := { loops := [], pars := [] }) (Eq.mpr (show FnVc Tryd.prog { loops := [], pars := [] } 9 9 [(.slice l ln lc)] R w = vc9 l ln lc R w by kernel_rfl) h)

/-- loupe/loupelaw10.num -/
def vc10 (eA : Int) (R : Ending → World → Prop) (w : World) : Prop :=
 R (.returned (.int .i64 eA)) w
theorem c10 (eA : Int) (R : Ending → World → Prop) (w : World) (h : vc10 eA R w) : Calls Tryd.prog 10 #[(.int .i64 eA)] w R :=
  calls_of_vc (A := { loops := [], pars := [] }) (Eq.mpr (show FnVc Tryd.prog { loops := [], pars := [] } 4 10 [(.int .i64 eA)] R w = vc10 eA R w by kernel_rfl) h)

/-- loupe/louperef10.Same -/
def vc11 (a : Option Addr) (an : Nat) (ac : Nat) (b : Option Addr) (bn : Nat) (bc : Nat) (R : Ending → World → Prop) (w : World) : Prop :=
 kCall (cR Tryd.prog R) w 26 #[(.slice a an ac), (.slice b bn bc)] fun v7 w_1 =>
 kEq (cR Tryd.prog R) w_1 .eql 3 (.tmp 7) (.const (.int .i64 0)) v7 (.int .i64 0) fun v8 w_2 =>
 R (.returned v8) w_2
theorem c11 (a : Option Addr) (an : Nat) (ac : Nat) (b : Option Addr) (bn : Nat) (bc : Nat) (R : Ending → World → Prop) (w : World) (h : vc11 a an ac b bn bc R w) : Calls Tryd.prog 11 #[(.slice a an ac), (.slice b bn bc)] w R :=
  calls_of_vc (A := { loops := [], pars := [] }) (Eq.mpr (show FnVc Tryd.prog { loops := [], pars := [] } 9 11 [(.slice a an ac), (.slice b bn bc)] R w = vc11 a an ac b bn bc R w by kernel_rfl) h)

/-- loupe/key.Order -/
def vc12 (a : Option Addr) (an : Nat) (ac : Nat) (b : Option Addr) (bn : Nat) (bc : Nat) (R : Ending → World → Prop) (w : World) : Prop :=
 kCall (cR Tryd.prog R) w 27 #[(.slice a an ac), (.slice b bn bc), (.func (.func 28) #[] #[])] fun v7 w_1 =>
 R (.returned v7) w_1
theorem c12 (a : Option Addr) (an : Nat) (ac : Nat) (b : Option Addr) (bn : Nat) (bc : Nat) (R : Ending → World → Prop) (w : World) (h : vc12 a an ac b bn bc R w) : Calls Tryd.prog 12 #[(.slice a an ac), (.slice b bn bc)] w R :=
  calls_of_vc (A := { loops := [], pars := [] }) (Eq.mpr (show FnVc Tryd.prog { loops := [], pars := [] } 8 12 [(.slice a an ac), (.slice b bn bc)] R w = vc12 a an ac b bn bc R w by kernel_rfl) h)

/-- loupe/key.Decode -/
def vc13 (b : Option Addr) (bn : Nat) (bc : Nat) (R : Ending → World → Prop) (w : World) : Prop :=
 kAlloc (cR Tryd.prog R) w 22 fun v2 w_1 =>
 kAlloc (cR Tryd.prog R) w_1 26 fun v3 w_2 =>
 (fun (c : Cx) =>
 kBuild c w_2 62 #[(0, (.slice b bn bc))] fun v7 w_3 =>
 kBuild c w_3 64 #[(0, v7)] fun v8 w_4 =>
 kBox c w_4 64 v8 fun v9 w_5 =>
 kLoopF [] w_5 fun cs ds w_6 N =>
 kNil c w_6 v9 fun v11 w_7 =>
 kFa c w_7 64 v11 0 fun v12 w_8 =>
 kFa c w_8 62 v12 0 fun v13 w_9 =>
 kLoad c w_9 25 v13 fun v14 w_10 =>
 kBlt c w_10 .len #[25] 3 #[false] #[v14] fun v15 w_11 =>
 kBin c w_11 .gtr 3 v15 (.int .i64 0) fun v16 w_12 =>
 kIf v16 (
 kDrawn true (
 kDrawn true (
 kLoad (cQ Tryd.prog) w_12 22 v2 fun v17 w_13 =>
 kDrew w_13 fun w_14 =>
 (fun (c_1 : Cx) =>
 kCall c_1 w_14 30 #[v9] fun v19 w_15 =>
 kLoad (cQ Tryd.prog) w_15 22 v2 fun v17_1 w_16 =>
 kSame v17_1 v17 (
 kDrew w_15 fun w_17 =>
 kBuildS c_1 w_17 22 1 #[(0, v19)] fun v20 w_18 =>
 kLoad (cQ Tryd.prog) w_18 22 v2 fun v17_2 w_19 =>
 kSame v17_2 v17 (
 kDrew w_18 fun w_20 =>
 kBlt c_1 w_20 .append #[22, 22] 22 #[false, false] #[v17, v20] fun v21 w_21 =>
 kDrew w_21 fun w_22 =>
 kStore c w_22 22 v2 v21 fun w_23 =>
 kD [{ target := .fn (.func 22) #[], args := #[v3, (.func (.func 29) #[] #[v2])] }] [{ target := .fn (.func 22) #[], args := #[v3, (.func (.func 29) #[] #[v2])] }] (N [] w_23)))) ⟨Tryd.prog, fun ch w => ∀ _ : List Value, Lv Tryd.prog [.cell v2 22, .cell v3 26] R [{ target := .fn (.func 22) #[], args := #[v3, (.func (.func 29) #[] #[v2])] }] (.panicking ch) w, false⟩))) (
 kBlt c w_12 .len #[25] 3 #[false] #[(.slice b bn bc)] fun v23 w_24 =>
 kBin c w_24 .leq 3 v23 (.int .i64 80) fun v24 w_25 =>
 kCall c w_25 31 #[v24, (.int .i64 3)] fun v25 w_26 =>
 kLoad c w_26 22 v2 fun v26 w_27 =>
 kStore c w_27 22 v2 v26 fun w_28 =>
 kStore c w_28 26 v3 (.int .i64 0) fun w_29 =>
 Lv Tryd.prog [.cell v2 22, .cell v3 26] R [{ target := .fn (.func 22) #[], args := #[v3, (.func (.func 29) #[] #[v2])] }] .returning w_29)) ⟨Tryd.prog, fun ch w => Lv Tryd.prog [.cell v2 22, .cell v3 26] R [{ target := .fn (.func 22) #[], args := #[v3, (.func (.func 29) #[] #[v2])] }] (.panicking ch) w, false⟩
theorem c13 (b : Option Addr) (bn : Nat) (bc : Nat) (R : Ending → World → Prop) (w : World) (h : vc13 b bn bc R w) : Calls Tryd.prog 13 #[(.slice b bn bc)] w R :=
  calls_of_vc (A := { loops := [(0, [])], pars := [], chs := [(4, (.q 0 (.q 1 (.e 2 (.e 3 (.e 4 .done))))))] }) (Eq.mpr (show FnVc Tryd.prog { loops := [(0, [])], pars := [], chs := [(4, (.q 0 (.q 1 (.e 2 (.e 3 (.e 4 .done))))))] } 27 13 [(.slice b bn bc)] R w = vc13 b bn bc R w by kernel_rfl) h)

/-- loupe/louperef10.Decode -/
def vc14 (b : Option Addr) (bn : Nat) (bc : Nat) (R : Ending → World → Prop) (w : World) : Prop :=
 kLoopF [(.slice none 0 0), (.int .i64 0)] w fun cs ds w_1 N =>
 (fun x4 x5 =>
 kBlt (cR Tryd.prog R) w_1 .len #[25] 3 #[false] #[(.slice b bn bc)] fun v10 w_2 =>
 kBin (cR Tryd.prog R) w_2 .lss 3 x5 v10 fun v11 w_3 =>
 kIf v11 (
 kSl (cR Tryd.prog R) w_3 25 (.slice b bn bc) (some x5) none none fun v15 w_4 =>
 kCall (cR Tryd.prog R) w_4 16 #[v15] fun v16 w_5 =>
 kExt v16 0 fun v17 =>
 kExt v16 1 fun v18 =>
 kAlloc (cR Tryd.prog R) w_5 41 fun v6 w_6 =>
 kStore (cR Tryd.prog R) w_6 41 v6 v17 fun w_7 =>
 kEq (cR Tryd.prog R) w_7 .eql 3 (.tmp 19) (.const (.int .i64 0)) v18 (.int .i64 0) fun v20 w_8 =>
 kIf v20 (
 R (.returned (.tuple #[(.slice none 0 0), (.int .i64 200)])) w_8) (
 kLoad (cR Tryd.prog R) w_8 41 v6 fun v22 w_9 =>
 kBuildS (cR Tryd.prog R) w_9 22 1 #[(0, v22)] fun v23 w_10 =>
 kBlt (cR Tryd.prog R) w_10 .append #[22, 22] 22 #[false, false] #[x4, v23] fun v24 w_11 =>
 kBin (cR Tryd.prog R) w_11 .add 3 x5 v18 fun v27 w_12 =>
 kD [] [] (N [v24, v27] w_12))) (
 kBlt (cR Tryd.prog R) w_3 .len #[25] 3 #[false] #[(.slice b bn bc)] fun v29 w_13 =>
 kBin (cR Tryd.prog R) w_13 .gtr 3 v29 (.int .i64 80) fun v30 w_14 =>
 kIf v30 (
 R (.returned (.tuple #[(.slice none 0 0), (.int .i64 3)])) w_14) (
 R (.returned (.tuple #[x4, (.int .i64 0)])) w_14))) (cs.getD 0 undef) (cs.getD 1 undef)
theorem c14 (b : Option Addr) (bn : Nat) (bc : Nat) (R : Ending → World → Prop) (w : World) (h : vc14 b bn bc R w) : Calls Tryd.prog 14 #[(.slice b bn bc)] w R :=
  calls_of_vc (A := { loops := [(0, [4, 5])], pars := [] }) (Eq.mpr (show FnVc Tryd.prog { loops := [(0, [4, 5])], pars := [] } 32 14 [(.slice b bn bc)] R w = vc14 b bn bc R w by kernel_rfl) h)

/-- loupe/key.Each -/
def vc15 (b : Option Addr) (bn : Nat) (bc : Nat) (R : Ending → World → Prop) (w : World) : Prop :=
 kCall (cR Tryd.prog R) w 32 #[(.slice b bn bc)] fun v5 w_1 =>
 kAlloc (cR Tryd.prog R) w_1 25 fun v3 w_2 =>
 kStore (cR Tryd.prog R) w_2 25 v3 v5 fun w_3 =>
 R (.returned (.func (.func 33) #[] #[v3])) w_3
theorem c15 (b : Option Addr) (bn : Nat) (bc : Nat) (R : Ending → World → Prop) (w : World) (h : vc15 b bn bc R w) : Calls Tryd.prog 15 #[(.slice b bn bc)] w R :=
  calls_of_vc (A := { loops := [], pars := [] }) (Eq.mpr (show FnVc Tryd.prog { loops := [], pars := [] } 7 15 [(.slice b bn bc)] R w = vc15 b bn bc R w by kernel_rfl) h)

/-- loupe/louperef10.Read -/
def vc16 (b : Option Addr) (bn : Nat) (bc : Nat) (R : Ending → World → Prop) (w : World) : Prop :=
 kAlloc (cR Tryd.prog R) w 41 fun v2 w_1 =>
 kBlt (cR Tryd.prog R) w_1 .len #[25] 3 #[false] #[(.slice b bn bc)] fun v10 w_2 =>
 kEq (cR Tryd.prog R) w_2 .eql 3 (.tmp 10) (.const (.int .i64 0)) v10 (.int .i64 0) fun v11 w_3 =>
 kIf v11 (
 kBuild (cR Tryd.prog R) w_3 41 #[] fun v12 w_4 =>
 kStore (cR Tryd.prog R) w_4 41 v2 v12 fun w_5 =>
 RetK Tryd.prog [.cell v2 41, .val (.int .i64 0)] R w_5) (
 kIa (cR Tryd.prog R) w_3 25 (.slice b bn bc) (.int .i64 0) fun v14 w_6 =>
 kLoad (cR Tryd.prog R) w_6 5 v14 fun v15 w_7 =>
 kConv (cR Tryd.prog R) w_7 5 3 v15 fun v16 w_8 =>
 kBuild (cR Tryd.prog R) w_8 41 #[(0, v16)] fun v17 w_9 =>
 kAlloc (cR Tryd.prog R) w_9 41 fun v4 w_10 =>
 kStore (cR Tryd.prog R) w_10 41 v4 v17 fun w_11 =>
 kJn (fun J =>
 kIa (cR Tryd.prog R) w_11 25 (.slice b bn bc) (.int .i64 0) fun v19 w_15 =>
 kLoad (cR Tryd.prog R) w_15 5 v19 fun v20 w_16 =>
 kEq (cR Tryd.prog R) w_16 .eql 5 (.tmp 20) (.const (.int .u8 0)) v20 (.int .u8 0) fun v23 w_17 =>
 kIf v23 (
 kD [] [] (J [(.int .i64 1)] w_17)) (
 kEq (cR Tryd.prog R) w_17 .eql 5 (.tmp 20) (.const (.int .u8 1)) v20 (.int .u8 1) fun v25 w_18 =>
 kIf v25 (
 kJn (fun J_1 =>
 kBlt (cR Tryd.prog R) w_18 .len #[25] 3 #[false] #[(.slice b bn bc)] fun v27 w_25 =>
 kBin (cR Tryd.prog R) w_25 .lss 3 v27 (.int .i64 2) fun v28 w_26 =>
 kIf v28 (
 kIf (.bool true) (
 kBuild (cR Tryd.prog R) w_26 41 #[] fun v35 w_27 =>
 kStore (cR Tryd.prog R) w_27 41 v2 v35 fun w_28 =>
 RetK Tryd.prog [.cell v2 41, .val (.int .i64 0)] R w_28) (
 kD [] [] (J_1 [] w_26))) (
 kIa (cR Tryd.prog R) w_26 25 (.slice b bn bc) (.int .i64 1) fun v31 w_29 =>
 kLoad (cR Tryd.prog R) w_29 5 v31 fun v32 w_30 =>
 kBin (cR Tryd.prog R) w_30 .gtr 5 v32 (.int .u8 1) fun v33 w_31 =>
 kIf v33 (
 kBuild (cR Tryd.prog R) w_31 41 #[] fun v35_1 w_32 =>
 kStore (cR Tryd.prog R) w_32 41 v2 v35_1 fun w_33 =>
 RetK Tryd.prog [.cell v2 41, .val (.int .i64 0)] R w_33) (
 kD [] [] (J_1 [] w_31)))) (fun cs_1 w_19 => ∀ ds_1 : List Value,
 kIa (cR Tryd.prog R) w_19 25 (.slice b bn bc) (.int .i64 1) fun v37 w_20 =>
 kLoad (cR Tryd.prog R) w_20 5 v37 fun v38 w_21 =>
 kConv (cR Tryd.prog R) w_21 5 2 v38 fun v39 w_22 =>
 kFa (cR Tryd.prog R) w_22 41 v4 1 fun v40 w_23 =>
 kStore (cR Tryd.prog R) w_23 2 v40 v39 fun w_24 =>
 kD [] [] (J [(.int .i64 2)] w_24))) (
 kEq (cR Tryd.prog R) w_18 .eql 5 (.tmp 20) (.const (.int .u8 2)) v20 (.int .u8 2) fun v42 w_34 =>
 kIf v42 (
 kBlt (cR Tryd.prog R) w_34 .len #[25] 3 #[false] #[(.slice b bn bc)] fun v44 w_35 =>
 kBin (cR Tryd.prog R) w_35 .lss 3 v44 (.int .i64 9) fun v45 w_36 =>
 kIf v45 (
 kBuild (cR Tryd.prog R) w_36 41 #[] fun v46 w_37 =>
 kStore (cR Tryd.prog R) w_37 41 v2 v46 fun w_38 =>
 RetK Tryd.prog [.cell v2 41, .val (.int .i64 0)] R w_38) (
 kLoopF [(.int .u64 0), (.int .i64 1)] w_36 fun cs_2 ds_2 w_39 N =>
 (fun x6 x7 =>
 kBin (cR Tryd.prog R) w_39 .lss 3 x7 (.int .i64 9) fun v48 w_40 =>
 kIf v48 (
 kBin (cR Tryd.prog R) w_40 .shl 71 x6 (.int .u64 8) fun v52 w_41 =>
 kIa (cR Tryd.prog R) w_41 25 (.slice b bn bc) x7 fun v55 w_42 =>
 kLoad (cR Tryd.prog R) w_42 5 v55 fun v56 w_43 =>
 kConv (cR Tryd.prog R) w_43 5 71 v56 fun v57 w_44 =>
 kBin (cR Tryd.prog R) w_44 .or 71 v52 v57 fun v58 w_45 =>
 kBin (cR Tryd.prog R) w_45 .add 3 x7 (.int .i64 1) fun v50 w_46 =>
 kD [] [] (N [v58, v50] w_46)) (
 kBin (cR Tryd.prog R) w_40 .xor 71 x6 (.int .u64 9223372036854775808) fun v60 w_47 =>
 kConv (cR Tryd.prog R) w_47 71 2 v60 fun v61 w_48 =>
 kFa (cR Tryd.prog R) w_48 41 v4 1 fun v62 w_49 =>
 kStore (cR Tryd.prog R) w_49 2 v62 v61 fun w_50 =>
 kD [] [] (J [(.int .i64 9)] w_50))) (cs_2.getD 0 undef) (cs_2.getD 1 undef))) (
 kJn (fun J_2 =>
 kEq (cR Tryd.prog R) w_34 .eql 5 (.tmp 20) (.const (.int .u8 3)) v20 (.int .u8 3) fun v64 w_93 =>
 kIf v64 (
 kD [] [] (J_2 [v64] w_93)) (
 kEq (cR Tryd.prog R) w_93 .eql 5 (.tmp 20) (.const (.int .u8 4)) v20 (.int .u8 4) fun v65 w_94 =>
 kD [] [] (J_2 [v65] w_94))) (fun cs_3 w_51 => ∀ ds_3 : List Value,
 (fun j63 =>
 kIf j63 (
 kLoopF [(.int .i64 1)] w_51 fun cs_4 ds_4 w_52 N_1 =>
 (fun x5 =>
 kBlt (cR Tryd.prog R) w_52 .len #[25] 3 #[false] #[(.slice b bn bc)] fun v68 w_53 =>
 kBin (cR Tryd.prog R) w_53 .geq 3 x5 v68 fun v69 w_54 =>
 kIf v69 (
 kBuild (cR Tryd.prog R) w_54 41 #[] fun v70 w_55 =>
 kStore (cR Tryd.prog R) w_55 41 v2 v70 fun w_56 =>
 RetK Tryd.prog [.cell v2 41, .val (.int .i64 0)] R w_56) (
 kIa (cR Tryd.prog R) w_54 25 (.slice b bn bc) x5 fun v73 w_57 =>
 kLoad (cR Tryd.prog R) w_57 5 v73 fun v74 w_58 =>
 kBin (cR Tryd.prog R) w_58 .add 3 x5 (.int .i64 1) fun v76 w_59 =>
 kJn (fun J_3 =>
 kEq (cR Tryd.prog R) w_59 .eql 5 (.tmp 77) (.const (.int .u8 0)) v74 (.int .u8 0) fun v78 w_68 =>
 kIf v78 (
 kJn (fun J_4 =>
 kBlt (cR Tryd.prog R) w_68 .len #[25] 3 #[false] #[(.slice b bn bc)] fun v81 w_77 =>
 kBin (cR Tryd.prog R) w_77 .geq 3 v76 v81 fun v82 w_78 =>
 kIf v82 (
 kIf (.bool true) (
 kBuild (cR Tryd.prog R) w_78 41 #[] fun v97 w_79 =>
 kStore (cR Tryd.prog R) w_79 41 v2 v97 fun w_80 =>
 RetK Tryd.prog [.cell v2 41, .val (.int .i64 0)] R w_80) (
 kD [] [] (J_4 [] w_78))) (
 kIa (cR Tryd.prog R) w_78 25 (.slice b bn bc) v76 fun v86 w_81 =>
 kLoad (cR Tryd.prog R) w_81 5 v86 fun v87 w_82 =>
 kEq (cR Tryd.prog R) w_82 .neq 5 (.tmp 87) (.const (.int .u8 1)) v87 (.int .u8 1) fun v88 w_83 =>
 kIf v88 (
 kIa (cR Tryd.prog R) w_83 25 (.slice b bn bc) v76 fun v92 w_84 =>
 kLoad (cR Tryd.prog R) w_84 5 v92 fun v93 w_85 =>
 kEq (cR Tryd.prog R) w_85 .neq 5 (.tmp 93) (.const (.int .u8 255)) v93 (.int .u8 255) fun v94 w_86 =>
 kIf v94 (
 kBuild (cR Tryd.prog R) w_86 41 #[] fun v97_1 w_87 =>
 kStore (cR Tryd.prog R) w_87 41 v2 v97_1 fun w_88 =>
 RetK Tryd.prog [.cell v2 41, .val (.int .i64 0)] R w_88) (
 kD [] [] (J_4 [] w_86))) (
 kIf (.bool false) (
 kBuild (cR Tryd.prog R) w_83 41 #[] fun v97_2 w_89 =>
 kStore (cR Tryd.prog R) w_89 41 v2 v97_2 fun w_90 =>
 RetK Tryd.prog [.cell v2 41, .val (.int .i64 0)] R w_90) (
 kD [] [] (J_4 [] w_83))))) (fun cs_6 w_69 => ∀ ds_6 : List Value,
 kBin (cR Tryd.prog R) w_69 .add 3 v76 (.int .i64 1) fun v99 w_70 =>
 kBin (cR Tryd.prog R) w_70 .sub 3 v99 (.int .i64 1) fun v102 w_71 =>
 kIa (cR Tryd.prog R) w_71 25 (.slice b bn bc) v102 fun v103 w_72 =>
 kLoad (cR Tryd.prog R) w_72 5 v103 fun v104 w_73 =>
 kEq (cR Tryd.prog R) w_73 .eql 5 (.tmp 104) (.const (.int .u8 1)) v104 (.int .u8 1) fun v105 w_74 =>
 kIf v105 (
 kLoad (cR Tryd.prog R) w_74 41 v4 fun v106 w_75 =>
 kStore (cR Tryd.prog R) w_75 41 v2 v106 fun w_76 =>
 RetK Tryd.prog [.cell v2 41, .val v99] R w_76) (
 kD [] [] (J_3 [v99] w_74)))) (
 kD [] [] (J_3 [v76] w_68))) (fun cs_5 w_60 => ∀ ds_5 : List Value,
 (fun j5_1 =>
 kFa (cR Tryd.prog R) w_60 41 v4 2 fun v108 w_61 =>
 kLoad (cR Tryd.prog R) w_61 9 v108 fun v109 w_62 =>
 kBuildS (cR Tryd.prog R) w_62 25 1 #[(0, v74)] fun v111 w_63 =>
 kConv (cR Tryd.prog R) w_63 25 9 v111 fun v112 w_64 =>
 kBin (cR Tryd.prog R) w_64 .add 9 v109 v112 fun v113 w_65 =>
 kFa (cR Tryd.prog R) w_65 41 v4 2 fun v114 w_66 =>
 kStore (cR Tryd.prog R) w_66 9 v114 v113 fun w_67 =>
 kD [] [] (N_1 [j5_1] w_67)) (cs_5.getD 0 undef)))) (cs_4.getD 0 undef)) (
 kBuild (cR Tryd.prog R) w_51 41 #[] fun v21 w_91 =>
 kStore (cR Tryd.prog R) w_91 41 v2 v21 fun w_92 =>
 RetK Tryd.prog [.cell v2 41, .val (.int .i64 0)] R w_92)) (cs_3.getD 0 undef)))))) (fun cs w_12 => ∀ ds : List Value,
 (fun j5 =>
 kLoad (cR Tryd.prog R) w_12 41 v4 fun v115 w_13 =>
 kStore (cR Tryd.prog R) w_13 41 v2 v115 fun w_14 =>
 RetK Tryd.prog [.cell v2 41, .val j5] R w_14) (cs.getD 0 undef)))
theorem c16 (b : Option Addr) (bn : Nat) (bc : Nat) (R : Ending → World → Prop) (w : World) (h : vc16 b bn bc R w) : Calls Tryd.prog 16 #[(.slice b bn bc)] w R :=
  calls_of_vc (A := { loops := [(1000034, [5]), (1000011, []), (1, [6, 7]), (1000033, [5]), (1000030, []), (3, [5]), (1000023, [63])], pars := [] }) (Eq.mpr (show FnVc Tryd.prog { loops := [(1000034, [5]), (1000011, []), (1, [6, 7]), (1000033, [5]), (1000030, []), (3, [5]), (1000023, [63])], pars := [] } 117 16 [(.slice b bn bc)] R w = vc16 b bn bc R w by kernel_rfl) h)

/-- loupe/louperef01.Of -/
def vc20 (t : Int) (R : Ending → World → Prop) (w : World) : Prop :=
 kAlloc (cR Tryd.prog R) w 41 fun v2 w_1 =>
 kEq (cR Tryd.prog R) w_1 .eql 3 (.tmp 3) (.const (.int .i64 0)) (.int .i64 t) (.int .i64 0) fun v4 w_2 =>
 kIf v4 (
 kIf (.bool true) (
 kBuild (cR Tryd.prog R) w_2 41 #[(0, (.int .i64 1)), (1, (.int .i64 t))] fun v10 w_3 =>
 kStore (cR Tryd.prog R) w_3 41 v2 v10 fun w_4 =>
 RetK Tryd.prog [.cell v2 41] R w_4) (
 kBuild (cR Tryd.prog R) w_2 41 #[] fun v11 w_5 =>
 kStore (cR Tryd.prog R) w_5 41 v2 v11 fun w_6 =>
 RetK Tryd.prog [.cell v2 41] R w_6)) (
 kEq (cR Tryd.prog R) w_2 .eql 3 (.tmp 6) (.const (.int .i64 1)) (.int .i64 t) (.int .i64 1) fun v7 w_7 =>
 kIf v7 (
 kBuild (cR Tryd.prog R) w_7 41 #[(0, (.int .i64 1)), (1, (.int .i64 t))] fun v10_1 w_8 =>
 kStore (cR Tryd.prog R) w_8 41 v2 v10_1 fun w_9 =>
 RetK Tryd.prog [.cell v2 41] R w_9) (
 kBuild (cR Tryd.prog R) w_7 41 #[] fun v11_1 w_10 =>
 kStore (cR Tryd.prog R) w_10 41 v2 v11_1 fun w_11 =>
 RetK Tryd.prog [.cell v2 41] R w_11))
theorem c20 (t : Int) (R : Ending → World → Prop) (w : World) (h : vc20 t R w) : Calls Tryd.prog 20 #[(.int .i64 t)] w R :=
  calls_of_vc (A := { loops := [], pars := [] }) (Eq.mpr (show FnVc Tryd.prog { loops := [], pars := [] } 12 20 [(.int .i64 t)] R w = vc20 t R w by kernel_rfl) h)

/-- loupe/loupelaw10.of -/
def vc21 (n : Int) (R : Ending → World → Prop) (w : World) : Prop :=
 kAlloc (cR Tryd.prog R) w 41 fun v2 w_1 =>
 kBuild (cR Tryd.prog R) w_1 41 #[(0, (.int .i64 2)), (1, (.int .i64 n))] fun v4 w_2 =>
 kStore (cR Tryd.prog R) w_2 41 v2 v4 fun w_3 =>
 RetK Tryd.prog [.cell v2 41] R w_3
theorem c21 (n : Int) (R : Ending → World → Prop) (w : World) (h : vc21 n R w) : Calls Tryd.prog 21 #[(.int .i64 n)] w R :=
  calls_of_vc (A := { loops := [], pars := [] }) (Eq.mpr (show FnVc Tryd.prog { loops := [], pars := [] } 5 21 [(.int .i64 n)] R w = vc21 n R w by kernel_rfl) h)

/-- loupe/key.Encode$1 -/
def vc23 (f0 : Value) (R : Ending → World → Prop) (w : World) : Prop :=
 kStore (cR Tryd.prog R) w 25 f0 (.slice none 0 0) fun w_1 =>
 R (.returned (.tuple #[])) w_1
theorem c23 (f0 : Value) (R : Ending → World → Prop) (w : World) (h : vc23 f0 R w) : Calls Tryd.prog 23 #[f0] w R :=
  calls_of_vc (A := { loops := [], pars := [] }) (Eq.mpr (show FnVc Tryd.prog { loops := [], pars := [] } 1 23 [f0] R w = vc23 f0 R w by kernel_rfl) h)

/-- loupe/key.encoded -/
def vc24 (l : Option Addr) (ln : Nat) (lc : Nat) (R : Ending → World → Prop) (w : World) : Prop :=
 kAlloc (cR Tryd.prog R) w 25 fun v2 w_1 =>
 kCall (cR Tryd.prog R) w_1 41 #[(.slice l ln lc)] fun v6 w_2 =>
 kRange Tryd.prog none w_2 v6 1 (fun l_1 D args w_3 Rr =>
 (fun p7 =>
 kAlloc (cN Tryd.prog) w_3 41 fun v3 w_4 =>
 kStore (cN Tryd.prog) w_4 41 v3 p7 fun w_5 =>
 rndMid l_1 D w_3 w_5 fun lo w_6 =>
 (fun (c : Cx) =>
 kLoad c w_6 41 v3 fun v8 w_7 =>
 kCall c w_7 42 #[v8] fun v9 w_8 =>
 kEq c w_8 .eql 26 (.tmp 10) (.const (.int .i64 0)) v9 (.int .i64 0) fun v11 w_9 =>
 kCall c w_9 31 #[v11, v9] fun v13 w_10 =>
 kDrawn true (
 kDrawn true (
 kLoad (cQ Tryd.prog) w_10 25 v2 fun v14 w_11 =>
 kFa (cQ Tryd.prog) w_11 41 v3 0 fun v15 w_12 =>
 kLoad (cQ Tryd.prog) w_12 39 v15 fun v16 w_13 =>
 kConv (cQ Tryd.prog) w_13 39 5 v16 fun v17 w_14 =>
 kFa (cQ Tryd.prog) w_14 41 v3 0 fun v21 w_15 =>
 kLoad (cQ Tryd.prog) w_15 39 v21 fun v22 w_16 =>
 kLoad (cQ Tryd.prog) w_16 41 v3 fun v24 w_17 =>
 kDrew w_17 fun w_18 =>
 (fun (c_1 : Cx) =>
 kBuildS c_1 w_18 25 1 #[(0, v17)] fun v18 w_19 =>
 kLoad (cQ Tryd.prog) w_19 25 v2 fun v14_1 w_20 =>
 kSame v14_1 v14 (
 kFa (cQ Tryd.prog) w_19 41 v3 0 fun v21_1 w_21 =>
 kSame v21_1 v21 (
 kLoad (cQ Tryd.prog) w_19 39 v21 fun v22_1 w_22 =>
 kSame v22_1 v22 (
 kLoad (cQ Tryd.prog) w_19 41 v3 fun v24_1 w_23 =>
 kSame v24_1 v24 (
 kDrew w_19 fun w_24 =>
 kBlt c_1 w_24 .append #[25, 25] 25 #[false, false] #[v14, v18] fun v19 w_25 =>
 kFa (cQ Tryd.prog) w_25 41 v3 0 fun v21_2 w_26 =>
 kSame v21_2 v21 (
 kLoad (cQ Tryd.prog) w_25 39 v21 fun v22_2 w_27 =>
 kSame v22_2 v22 (
 kLoad (cQ Tryd.prog) w_25 41 v3 fun v24_2 w_28 =>
 kSame v24_2 v24 (
 kDrew w_25 fun w_29 =>
 kCall c_1 w_29 43 #[] fun v20 w_30 =>
 kFa (cQ Tryd.prog) w_30 41 v3 0 fun v21_3 w_31 =>
 kSame v21_3 v21 (
 kLoad (cQ Tryd.prog) w_30 39 v21 fun v22_3 w_32 =>
 kSame v22_3 v22 (
 kLoad (cQ Tryd.prog) w_30 41 v3 fun v24_3 w_33 =>
 kSame v24_3 v24 (
 kLook (cQ Tryd.prog) w_30 99 v20 v22 false fun v23 w_34 =>
 kDrew w_34 fun w_35 =>
 kCallV c_1 w_35 v23 #[v24] fun v25 w_36 =>
 kDrew w_36 fun w_37 =>
 kBlt c_1 w_37 .append #[25, 25] 25 #[false, false] #[v19, v25] fun v26 w_38 =>
 kDrew w_38 fun w_39 =>
 kStore c w_39 25 v2 v26 fun w_40 =>
 rndEnd l_1 D lo w_3 Rr .normal [] w_40))))))))))) ⟨Tryd.prog, fun ch w => ∀ _ : List Value, rndEnd l_1 D lo w_3 Rr (.panic ch) [] w, false⟩))) ⟨Tryd.prog, fun ch w => rndEnd l_1 D lo w_3 Rr (.panic ch) [] w, false⟩) (args.getD 0 undef))
  (fun D_1 w_41 =>
 (fun (c_2 : Cx) =>
 kLoad c_2 w_41 25 v2 fun v27 w_42 =>
 kBlt c_2 w_42 .len #[25] 3 #[false] #[v27] fun v28 w_43 =>
 kBin c_2 w_43 .leq 3 v28 (.int .i64 80) fun v29 w_44 =>
 kCall c_2 w_44 31 #[v29, (.int .i64 3)] fun v30 w_45 =>
 kLoad c_2 w_45 25 v2 fun v31 w_46 =>
 kStore c_2 w_46 25 v2 v31 fun w_47 =>
 Lv Tryd.prog [.cell v2 25] R [markOf D_1] .returning w_47) ⟨Tryd.prog, fun ch w => Lv Tryd.prog [.cell v2 25] R [markOf D_1] (.panicking ch) w, false⟩)
  (fun _ _ => False)
  (fun _ _ _ => False)
  (fun D_1 ch w_50 => (fun ch w => Lv Tryd.prog [.cell v2 25] R [markOf D_1] (.panicking ch) w) ch w_50)
theorem c24 (l : Option Addr) (ln : Nat) (lc : Nat) (R : Ending → World → Prop) (w : World) (h : vc24 l ln lc R w) : Calls Tryd.prog 24 #[(.slice l ln lc)] w R :=
  calls_of_vc (A := { loops := [], pars := [], chs := [(5, (.q 0 (.q 1 (.q 2 (.q 3 (.q 7 (.q 8 (.q 10 (.e 4 (.e 5 (.e 6 (.q 9 (.e 11 (.e 12 .done))))))))))))))] }) (Eq.mpr (show FnVc Tryd.prog { loops := [], pars := [], chs := [(5, (.q 0 (.q 1 (.q 2 (.q 3 (.q 7 (.q 8 (.q 10 (.e 4 (.e 5 (.e 6 (.q 9 (.e 11 (.e 12 .done))))))))))))))] } 32 24 [(.slice l ln lc)] R w = vc24 l ln lc R w by kernel_rfl) h)

/-- loupe/key.Behind$1 -/
def vc25 (f0 : Value) (R : Ending → World → Prop) (w : World) : Prop :=
 kStore (cR Tryd.prog R) w 25 f0 (.slice none 0 0) fun w_1 =>
 R (.returned (.tuple #[])) w_1
theorem c25 (f0 : Value) (R : Ending → World → Prop) (w : World) (h : vc25 f0 R w) : Calls Tryd.prog 25 #[f0] w R :=
  calls_of_vc (A := { loops := [], pars := [] }) (Eq.mpr (show FnVc Tryd.prog { loops := [], pars := [] } 1 25 [f0] R w = vc25 f0 R w by kernel_rfl) h)

/-- loupe/louperef10.Order -/
def vc26 (a : Option Addr) (an : Nat) (ac : Nat) (b : Option Addr) (bn : Nat) (bc : Nat) (R : Ending → World → Prop) (w : World) : Prop :=
 kLoopF [(.int .i64 0)] w fun cs ds w_1 N =>
 (fun x5 =>
 kJn (fun J =>
 kBlt (cR Tryd.prog R) w_1 .len #[22] 3 #[false] #[(.slice a an ac)] fun v9 w_20 =>
 kBin (cR Tryd.prog R) w_20 .lss 3 x5 v9 fun v10 w_21 =>
 kIf v10 (
 kBlt (cR Tryd.prog R) w_21 .len #[22] 3 #[false] #[(.slice b bn bc)] fun v14 w_22 =>
 kBin (cR Tryd.prog R) w_22 .lss 3 x5 v14 fun v15 w_23 =>
 kIf v15 (
 kD [] [] (J [] w_23)) (
 kBlt (cR Tryd.prog R) w_23 .len #[22] 3 #[false] #[(.slice a an ac)] fun v32 w_24 =>
 kBlt (cR Tryd.prog R) w_24 .len #[22] 3 #[false] #[(.slice b bn bc)] fun v34 w_25 =>
 kBin (cR Tryd.prog R) w_25 .lss 3 v32 v34 fun v35 w_26 =>
 kIf v35 (
 R (.returned (.int .i64 (-1))) w_26) (
 kBlt (cR Tryd.prog R) w_26 .len #[22] 3 #[false] #[(.slice a an ac)] fun v37 w_27 =>
 kBlt (cR Tryd.prog R) w_27 .len #[22] 3 #[false] #[(.slice b bn bc)] fun v39 w_28 =>
 kBin (cR Tryd.prog R) w_28 .gtr 3 v37 v39 fun v40 w_29 =>
 kIf v40 (
 R (.returned (.int .i64 1)) w_29) (
 R (.returned (.int .i64 0)) w_29)))) (
 kIf (.bool false) (
 kD [] [] (J [] w_21)) (
 kBlt (cR Tryd.prog R) w_21 .len #[22] 3 #[false] #[(.slice a an ac)] fun v32_1 w_30 =>
 kBlt (cR Tryd.prog R) w_30 .len #[22] 3 #[false] #[(.slice b bn bc)] fun v34_1 w_31 =>
 kBin (cR Tryd.prog R) w_31 .lss 3 v32_1 v34_1 fun v35_1 w_32 =>
 kIf v35_1 (
 R (.returned (.int .i64 (-1))) w_32) (
 kBlt (cR Tryd.prog R) w_32 .len #[22] 3 #[false] #[(.slice a an ac)] fun v37_1 w_33 =>
 kBlt (cR Tryd.prog R) w_33 .len #[22] 3 #[false] #[(.slice b bn bc)] fun v39_1 w_34 =>
 kBin (cR Tryd.prog R) w_34 .gtr 3 v37_1 v39_1 fun v40_1 w_35 =>
 kIf v40_1 (
 R (.returned (.int .i64 1)) w_35) (
 R (.returned (.int .i64 0)) w_35))))) (fun cs_1 w_2 => ∀ ds_1 : List Value,
 kDrawn true (
 kPar w_2 9 [[], [], [0, 1], [2], [], [], [4, 5], [6], [3, 7], [8, 0, 1, 2, 3, 4, 5, 6, 7]] (fun Inv Cl =>
 (∀ (S : Nat → Bool) (vs : Nat → Value) (w_3 : World), Inv S vs w_3 → Cl S → S 0 = false → (∀ j, j ∈ ([] : List Nat) → S j = true) →
 Inv (inc S 0) (setV vs 0 (.slice a an ac)) w_3) ∧
 (∀ (S_1 : Nat → Bool) (vs_1 : Nat → Value) (w_4 : World), Inv S_1 vs_1 w_4 → Cl S_1 → S_1 1 = false → (∀ j, j ∈ ([] : List Nat) → S_1 j = true) →
 Inv (inc S_1 1) (setV vs_1 1 x5) w_4) ∧
 (∀ (S_2 : Nat → Bool) (vs_2 : Nat → Value) (w_5 : World), Inv S_2 vs_2 w_5 → Cl S_2 → S_2 2 = false → (∀ j, j ∈ ([0, 1] : List Nat) → S_2 j = true) →
 kIa (cN Tryd.prog) w_5 22 (vs_2 0) (vs_2 1) fun v21 w_6 =>
 Inv (inc S_2 2) (setV vs_2 2 v21) w_6) ∧
 (∀ (S_3 : Nat → Bool) (vs_3 : Nat → Value) (w_7 : World), Inv S_3 vs_3 w_7 → Cl S_3 → S_3 3 = false → (∀ j, j ∈ ([2] : List Nat) → S_3 j = true) →
 kLoad (cN Tryd.prog) w_7 41 (vs_3 2) fun v22 w_8 =>
 Inv (inc S_3 3) (setV vs_3 3 v22) w_8) ∧
 (∀ (S_4 : Nat → Bool) (vs_4 : Nat → Value) (w_9 : World), Inv S_4 vs_4 w_9 → Cl S_4 → S_4 4 = false → (∀ j, j ∈ ([] : List Nat) → S_4 j = true) →
 Inv (inc S_4 4) (setV vs_4 4 (.slice b bn bc)) w_9) ∧
 (∀ (S_5 : Nat → Bool) (vs_5 : Nat → Value) (w_10 : World), Inv S_5 vs_5 w_10 → Cl S_5 → S_5 5 = false → (∀ j, j ∈ ([] : List Nat) → S_5 j = true) →
 Inv (inc S_5 5) (setV vs_5 5 x5) w_10) ∧
 (∀ (S_6 : Nat → Bool) (vs_6 : Nat → Value) (w_11 : World), Inv S_6 vs_6 w_11 → Cl S_6 → S_6 6 = false → (∀ j, j ∈ ([4, 5] : List Nat) → S_6 j = true) →
 kIa (cN Tryd.prog) w_11 22 (vs_6 4) (vs_6 5) fun v25 w_12 =>
 Inv (inc S_6 6) (setV vs_6 6 v25) w_12) ∧
 (∀ (S_7 : Nat → Bool) (vs_7 : Nat → Value) (w_13 : World), Inv S_7 vs_7 w_13 → Cl S_7 → S_7 7 = false → (∀ j, j ∈ ([6] : List Nat) → S_7 j = true) →
 kLoad (cN Tryd.prog) w_13 41 (vs_7 6) fun v26 w_14 =>
 Inv (inc S_7 7) (setV vs_7 7 v26) w_14) ∧
 (∀ (S_8 : Nat → Bool) (vs_8 : Nat → Value) (w_15 : World), Inv S_8 vs_8 w_15 → Cl S_8 → S_8 8 = false → (∀ j, j ∈ ([3, 7] : List Nat) → S_8 j = true) →
 kCall (cN Tryd.prog) w_15 44 #[(vs_8 3), (vs_8 7)] fun v27 w_16 =>
 Inv (inc S_8 8) (setV vs_8 8 v27) w_16) ∧
 True) (fun vs_9 w_17 =>
 kEq (cR Tryd.prog R) w_17 .neq 3 (.tmp 28) (.const (.int .i64 0)) (vs_9 8) (.int .i64 0) fun v29 w_18 =>
 kIf v29 (
 R (.returned (vs_9 8)) w_18) (
 kBin (cR Tryd.prog R) w_18 .add 3 x5 (.int .i64 1) fun v18 w_19 =>
 kD [] [] (N [v18] w_19)))))) (cs.getD 0 undef)
theorem c26 (a : Option Addr) (an : Nat) (ac : Nat) (b : Option Addr) (bn : Nat) (bc : Nat) (R : Ending → World → Prop) (w : World) (h : vc26 a an ac b bn bc R w) : Calls Tryd.prog 26 #[(.slice a an ac), (.slice b bn bc)] w R :=
  calls_of_vc (A := { loops := [(1000004, []), (0, [5])], pars := [4] }) (Eq.mpr (show FnVc Tryd.prog { loops := [(1000004, []), (0, [5])], pars := [4] } 41 26 [(.slice a an ac), (.slice b bn bc)] R w = vc26 a an ac b bn bc R w by kernel_rfl) h)

/-- loupe/key.ordered[loupe/api.Value] -/
def vc27 (a : Option Addr) (an : Nat) (ac : Nat) (b : Option Addr) (bn : Nat) (bc : Nat) (byA : Value) (R : Ending → World → Prop) (w : World) : Prop :=
 kCall (cR Tryd.prog R) w 45 #[(.slice a an ac), (.slice b bn bc), byA] fun v10 w_1 =>
 R (.returned v10) w_1
theorem c27 (a : Option Addr) (an : Nat) (ac : Nat) (b : Option Addr) (bn : Nat) (bc : Nat) (byA : Value) (R : Ending → World → Prop) (w : World) (h : vc27 a an ac b bn bc byA R w) : Calls Tryd.prog 27 #[(.slice a an ac), (.slice b bn bc), byA] w R :=
  calls_of_vc (A := { loops := [], pars := [] }) (Eq.mpr (show FnVc Tryd.prog { loops := [], pars := [] } 11 27 [(.slice a an ac), (.slice b bn bc), byA] R w = vc27 a an ac b bn bc byA R w by kernel_rfl) h)

/-- loupe/value.Order -/
def vc28 (a0 : Int) (a1 : Int) (a2 : ByteArray) (b0 : Int) (b1 : Int) (b2 : ByteArray) (R : Ending → World → Prop) (w : World) : Prop :=
 kBox (cR Tryd.prog R) w 41 (.agg #[(.int .i64 a0), (.int .i64 a1), (.string a2)]) fun v2 w_1 =>
 kBox (cR Tryd.prog R) w_1 41 (.agg #[(.int .i64 b0), (.int .i64 b1), (.string b2)]) fun v3 w_2 =>
 kDrawn true (
 kDrawn true (
 kFa (cQ Tryd.prog) w_2 41 v2 0 fun v5 w_3 =>
 kLoad (cQ Tryd.prog) w_3 39 v5 fun v6 w_4 =>
 kFa (cQ Tryd.prog) w_4 41 v3 0 fun v7 w_5 =>
 kLoad (cQ Tryd.prog) w_5 39 v7 fun v8 w_6 =>
 kFa (cQ Tryd.prog) w_6 41 v2 1 fun v10 w_7 =>
 kLoad (cQ Tryd.prog) w_7 2 v10 fun v11 w_8 =>
 kFa (cQ Tryd.prog) w_8 41 v3 1 fun v12 w_9 =>
 kLoad (cQ Tryd.prog) w_9 2 v12 fun v13 w_10 =>
 kFa (cQ Tryd.prog) w_10 41 v2 2 fun v15 w_11 =>
 kLoad (cQ Tryd.prog) w_11 9 v15 fun v16 w_12 =>
 kFa (cQ Tryd.prog) w_12 41 v3 2 fun v17 w_13 =>
 kLoad (cQ Tryd.prog) w_13 9 v17 fun v18 w_14 =>
 kDrew w_14 fun w_15 =>
 (fun (c : Cx) =>
 kCall c w_15 47 #[v6, v8] fun v9 w_16 =>
 kFa (cQ Tryd.prog) w_16 41 v2 1 fun v10_1 w_17 =>
 kSame v10_1 v10 (
 kLoad (cQ Tryd.prog) w_16 2 v10 fun v11_1 w_18 =>
 kSame v11_1 v11 (
 kFa (cQ Tryd.prog) w_16 41 v3 1 fun v12_1 w_19 =>
 kSame v12_1 v12 (
 kLoad (cQ Tryd.prog) w_16 2 v12 fun v13_1 w_20 =>
 kSame v13_1 v13 (
 kFa (cQ Tryd.prog) w_16 41 v2 2 fun v15_1 w_21 =>
 kSame v15_1 v15 (
 kLoad (cQ Tryd.prog) w_16 9 v15 fun v16_1 w_22 =>
 kSame v16_1 v16 (
 kFa (cQ Tryd.prog) w_16 41 v3 2 fun v17_1 w_23 =>
 kSame v17_1 v17 (
 kLoad (cQ Tryd.prog) w_16 9 v17 fun v18_1 w_24 =>
 kSame v18_1 v18 (
 kDrew w_16 fun w_25 =>
 kCall c w_25 48 #[v11, v13] fun v14 w_26 =>
 kFa (cQ Tryd.prog) w_26 41 v2 2 fun v15_2 w_27 =>
 kSame v15_2 v15 (
 kLoad (cQ Tryd.prog) w_26 9 v15 fun v16_2 w_28 =>
 kSame v16_2 v16 (
 kFa (cQ Tryd.prog) w_26 41 v3 2 fun v17_2 w_29 =>
 kSame v17_2 v17 (
 kLoad (cQ Tryd.prog) w_26 9 v17 fun v18_2 w_30 =>
 kSame v18_2 v18 (
 kDrew w_26 fun w_31 =>
 kCall c w_31 49 #[v16, v18] fun v19 w_32 =>
 kDrew w_32 fun w_33 =>
 kBuildS c w_33 48 3 #[(0, v9), (1, v14), (2, v19)] fun v20 w_34 =>
 kDrew w_34 fun w_35 =>
 kCall c w_35 46 #[v20] fun v21 w_36 =>
 kDrew w_36 fun w_37 =>
 R (.returned v21) w_37))))))))))))) ⟨Tryd.prog, fun ch w => ∀ _ : List Value, R (.panicked ch) w, false⟩))
theorem c28 (a0 : Int) (a1 : Int) (a2 : ByteArray) (b0 : Int) (b1 : Int) (b2 : ByteArray) (R : Ending → World → Prop) (w : World) (h : vc28 a0 a1 a2 b0 b1 b2 R w) : Calls Tryd.prog 28 #[(.agg #[(.int .i64 a0), (.int .i64 a1), (.string a2)]), (.agg #[(.int .i64 b0), (.int .i64 b1), (.string b2)])] w R :=
  calls_of_vc (A := { loops := [], pars := [], chs := [(1, (.q 0 (.q 1 (.q 2 (.q 3 (.q 5 (.q 6 (.q 7 (.q 8 (.q 10 (.q 11 (.q 12 (.q 13 (.e 4 (.e 9 (.e 14 (.e 15 (.e 16 .done))))))))))))))))))] }) (Eq.mpr (show FnVc Tryd.prog { loops := [], pars := [], chs := [(1, (.q 0 (.q 1 (.q 2 (.q 3 (.q 5 (.q 6 (.q 7 (.q 8 (.q 10 (.q 11 (.q 12 (.q 13 (.e 4 (.e 9 (.e 14 (.e 15 (.e 16 .done))))))))))))))))))] } 22 28 [(.agg #[(.int .i64 a0), (.int .i64 a1), (.string a2)]), (.agg #[(.int .i64 b0), (.int .i64 b1), (.string b2)])] R w = vc28 a0 a1 a2 b0 b1 b2 R w by kernel_rfl) h)

/-- loupe/key.Decode$1 -/
def vc29 (f0 : Value) (R : Ending → World → Prop) (w : World) : Prop :=
 kStore (cR Tryd.prog R) w 22 f0 (.slice none 0 0) fun w_1 =>
 R (.returned (.tuple #[])) w_1
theorem c29 (f0 : Value) (R : Ending → World → Prop) (w : World) (h : vc29 f0 R w) : Calls Tryd.prog 29 #[f0] w R :=
  calls_of_vc (A := { loops := [], pars := [] }) (Eq.mpr (show FnVc Tryd.prog { loops := [], pars := [] } 1 29 [f0] R w = vc29 f0 R w by kernel_rfl) h)

/-- (*loupe/key.reader).value -/
def vc30 (r : Value) (R : Ending → World → Prop) (w : World) : Prop :=
 kAlloc (cR Tryd.prog R) w 41 fun v2 w_1 =>
 kNil (cR Tryd.prog R) w_1 r fun v8 w_2 =>
 kFa (cR Tryd.prog R) w_2 64 v8 0 fun v9 w_3 =>
 kCall (cR Tryd.prog R) w_3 50 #[v9, (.int .i64 1)] fun v10 w_4 =>
 kIa (cR Tryd.prog R) w_4 25 v10 (.int .i64 0) fun v11 w_5 =>
 kLoad (cR Tryd.prog R) w_5 5 v11 fun v12 w_6 =>
 kConv (cR Tryd.prog R) w_6 5 39 v12 fun v13 w_7 =>
 kFa (cR Tryd.prog R) w_7 41 v2 0 fun v14 w_8 =>
 kStore (cR Tryd.prog R) w_8 39 v14 v13 fun w_9 =>
 kFa (cR Tryd.prog R) w_9 41 v2 0 fun v15 w_10 =>
 kLoad (cR Tryd.prog R) w_10 39 v15 fun v16 w_11 =>
 kEq (cR Tryd.prog R) w_11 .eql 39 (.tmp 16) (.const (.int .i64 0)) v16 (.int .i64 0) fun v19 w_12 =>
 kIf v19 (
 kLoad (cR Tryd.prog R) w_12 41 v2 fun v61 w_13 =>
 kStore (cR Tryd.prog R) w_13 41 v2 v61 fun w_14 =>
 RetK Tryd.prog [.cell v2 41] R w_14) (
 kEq (cR Tryd.prog R) w_12 .eql 39 (.tmp 16) (.const (.int .i64 1)) v16 (.int .i64 1) fun v21 w_15 =>
 kIf v21 (
 kNil (cR Tryd.prog R) w_15 r fun v23 w_16 =>
 kFa (cR Tryd.prog R) w_16 64 v23 0 fun v24 w_17 =>
 kCall (cR Tryd.prog R) w_17 50 #[v24, (.int .i64 1)] fun v25 w_18 =>
 kIa (cR Tryd.prog R) w_18 25 v25 (.int .i64 0) fun v26 w_19 =>
 kLoad (cR Tryd.prog R) w_19 5 v26 fun v27 w_20 =>
 kBin (cR Tryd.prog R) w_20 .leq 5 v27 (.int .u8 1) fun v29 w_21 =>
 kCall (cR Tryd.prog R) w_21 31 #[v29, (.int .i64 200)] fun v30 w_22 =>
 kConv (cR Tryd.prog R) w_22 5 2 v27 fun v32 w_23 =>
 kFa (cR Tryd.prog R) w_23 41 v2 1 fun v33 w_24 =>
 kStore (cR Tryd.prog R) w_24 2 v33 v32 fun w_25 =>
 kLoad (cR Tryd.prog R) w_25 41 v2 fun v61_1 w_26 =>
 kStore (cR Tryd.prog R) w_26 41 v2 v61_1 fun w_27 =>
 RetK Tryd.prog [.cell v2 41] R w_27) (
 kEq (cR Tryd.prog R) w_15 .eql 39 (.tmp 16) (.const (.int .i64 2)) v16 (.int .i64 2) fun v35 w_28 =>
 kIf v35 (
 kNil (cR Tryd.prog R) w_28 r fun v37 w_29 =>
 kFa (cR Tryd.prog R) w_29 64 v37 0 fun v38 w_30 =>
 kCall (cR Tryd.prog R) w_30 50 #[v38, (.int .i64 8)] fun v39 w_31 =>
 kBlt (cR Tryd.prog R) w_31 .len #[25] 3 #[false] #[v39] fun v40 w_32 =>
 kLoopF [(.int .u64 0), (.int .i64 0)] w_32 fun cs ds w_33 N =>
 (fun x4 x41 =>
 kBin (cR Tryd.prog R) w_33 .lss 3 x41 v40 fun v42 w_34 =>
 kIf v42 (
 kIa (cR Tryd.prog R) w_34 25 v39 x41 fun v43 w_35 =>
 kLoad (cR Tryd.prog R) w_35 5 v43 fun v44 w_36 =>
 kBin (cR Tryd.prog R) w_36 .shl 71 x4 (.int .u64 8) fun v46 w_37 =>
 kConv (cR Tryd.prog R) w_37 5 71 v44 fun v48 w_38 =>
 kBin (cR Tryd.prog R) w_38 .or 71 v46 v48 fun v49 w_39 =>
 kBin (cR Tryd.prog R) w_39 .add 3 x41 (.int .i64 1) fun v50 w_40 =>
 kD [] [] (N [v49, v50] w_40)) (
 kBin (cR Tryd.prog R) w_34 .xor 71 x4 (.int .u64 9223372036854775808) fun v52 w_41 =>
 kConv (cR Tryd.prog R) w_41 71 2 v52 fun v53 w_42 =>
 kFa (cR Tryd.prog R) w_42 41 v2 1 fun v54 w_43 =>
 kStore (cR Tryd.prog R) w_43 2 v54 v53 fun w_44 =>
 kLoad (cR Tryd.prog R) w_44 41 v2 fun v61_2 w_45 =>
 kStore (cR Tryd.prog R) w_45 41 v2 v61_2 fun w_46 =>
 RetK Tryd.prog [.cell v2 41] R w_46)) (cs.getD 0 undef) (cs.getD 1 undef)) (
 kJn (fun J =>
 kEq (cR Tryd.prog R) w_28 .eql 39 (.tmp 16) (.const (.int .i64 3)) v16 (.int .i64 3) fun v56 w_54 =>
 kIf v56 (
 kD [] [] (J [v56] w_54)) (
 kEq (cR Tryd.prog R) w_54 .eql 39 (.tmp 16) (.const (.int .i64 4)) v16 (.int .i64 4) fun v57 w_55 =>
 kD [] [] (J [v57] w_55))) (fun cs_1 w_47 => ∀ ds_1 : List Value,
 (fun j55 =>
 kIf j55 (
 kCall (cR Tryd.prog R) w_47 51 #[r] fun v59 w_48 =>
 kFa (cR Tryd.prog R) w_48 41 v2 2 fun v60 w_49 =>
 kStore (cR Tryd.prog R) w_49 9 v60 v59 fun w_50 =>
 kLoad (cR Tryd.prog R) w_50 41 v2 fun v61_3 w_51 =>
 kStore (cR Tryd.prog R) w_51 41 v2 v61_3 fun w_52 =>
 RetK Tryd.prog [.cell v2 41] R w_52) (
 kMkI (cR Tryd.prog R) w_47 26 (.int .i64 200) fun v17 w_53 =>
 kPanic (cR Tryd.prog R) w_53 v17)) (cs_1.getD 0 undef)))))
theorem c30 (r : Value) (R : Ending → World → Prop) (w : World) (h : vc30 r R w) : Calls Tryd.prog 30 #[r] w R :=
  calls_of_vc (A := { loops := [(1, [4, 41]), (1000019, [55])], pars := [] }) (Eq.mpr (show FnVc Tryd.prog { loops := [(1, [4, 41]), (1000019, [55])], pars := [] } 62 30 [r] R w = vc30 r R w by kernel_rfl) h)

/-- loupe/key.must -/
def vc31 (fine : Bool) (eA : Int) (R : Ending → World → Prop) (w : World) : Prop :=
 kUn (cR Tryd.prog R) w .not (.bool fine) fun v5 w_1 =>
 kIf v5 (
 kMkI (cR Tryd.prog R) w_1 26 (.int .i64 eA) fun v7 w_2 =>
 kPanic (cR Tryd.prog R) w_2 v7) (
 R (.returned (.tuple #[])) w_1)
theorem c31 (fine : Bool) (eA : Int) (R : Ending → World → Prop) (w : World) (h : vc31 fine eA R w) : Calls Tryd.prog 31 #[(.bool fine), (.int .i64 eA)] w R :=
  calls_of_vc (A := { loops := [], pars := [] }) (Eq.mpr (show FnVc Tryd.prog { loops := [], pars := [] } 8 31 [(.bool fine), (.int .i64 eA)] R w = vc31 fine eA R w by kernel_rfl) h)

/-- slices.Clone[[]byte,byte] -/
def vc32 (s : Option Addr) (sn : Nat) (sc : Nat) (R : Ending → World → Prop) (w : World) : Prop :=
 kEq (cR Tryd.prog R) w .eql 25 (.tmp 3) (.const (.slice none 0 0)) (.slice s sn sc) (.slice none 0 0) fun v4 w_1 =>
 kIf v4 (
 R (.returned (.slice none 0 0)) w_1) (
 kBuildS (cR Tryd.prog R) w_1 25 0 #[] fun v5 w_2 =>
 kBlt (cR Tryd.prog R) w_2 .append #[25, 25] 25 #[false, false] #[v5, (.slice s sn sc)] fun v7 w_3 =>
 R (.returned v7) w_3)
theorem c32 (s : Option Addr) (sn : Nat) (sc : Nat) (R : Ending → World → Prop) (w : World) (h : vc32 s sn sc R w) : Calls Tryd.prog 32 #[(.slice s sn sc)] w R :=
  calls_of_vc (A := { loops := [], pars := [] }) (Eq.mpr (show FnVc Tryd.prog { loops := [], pars := [] } 8 32 [(.slice s sn sc)] R w = vc32 s sn sc R w by kernel_rfl) h)

/-- loupe/key.Each$1 -/
def vc33 (yield : Value) (f0 : Value) (R : Ending → World → Prop) (w : World) : Prop :=
 kLoad (cR Tryd.prog R) w 25 f0 fun v7 w_1 =>
 kBuild (cR Tryd.prog R) w_1 62 #[(0, v7)] fun v8 w_2 =>
 kBuild (cR Tryd.prog R) w_2 64 #[(0, v8)] fun v9 w_3 =>
 kBox (cR Tryd.prog R) w_3 64 v9 fun v10 w_4 =>
 kLoopF [] w_4 fun cs ds w_5 N =>
 kNil (cR Tryd.prog R) w_5 v10 fun v12 w_6 =>
 kFa (cR Tryd.prog R) w_6 64 v12 0 fun v13 w_7 =>
 kFa (cR Tryd.prog R) w_7 62 v13 0 fun v14 w_8 =>
 kLoad (cR Tryd.prog R) w_8 25 v14 fun v15 w_9 =>
 kBlt (cR Tryd.prog R) w_9 .len #[25] 3 #[false] #[v15] fun v16 w_10 =>
 kBin (cR Tryd.prog R) w_10 .gtr 3 v16 (.int .i64 0) fun v17 w_11 =>
 kIf v17 (
 kDrawn true (
 kLoad (cQ Tryd.prog) w_11 25 f0 fun v18 w_12 =>
 kBlt (cQ Tryd.prog) w_12 .len #[25] 3 #[false] #[v18] fun v19 w_13 =>
 kNil (cQ Tryd.prog) w_13 v10 fun v21 w_14 =>
 kFa (cQ Tryd.prog) w_14 64 v21 0 fun v22 w_15 =>
 kFa (cQ Tryd.prog) w_15 62 v22 0 fun v23 w_16 =>
 kLoad (cQ Tryd.prog) w_16 25 v23 fun v24 w_17 =>
 kBlt (cQ Tryd.prog) w_17 .len #[25] 3 #[false] #[v24] fun v25 w_18 =>
 kBin (cQ Tryd.prog) w_18 .sub 3 v19 v25 fun v26 w_19 =>
 kDrew w_11 fun w_20 =>
 kCall (cR Tryd.prog R) w_20 34 #[v10] fun v29 w_21 =>
 kExt v29 0 fun v30 =>
 kExt v29 1 fun v31 =>
 kAlloc (cR Tryd.prog R) w_21 41 fun v5 w_22 =>
 kStore (cR Tryd.prog R) w_22 41 v5 v30 fun w_23 =>
 kEq (cR Tryd.prog R) w_23 .neq 26 (.tmp 32) (.const (.int .i64 0)) v31 (.int .i64 0) fun v33 w_24 =>
 kIf v33 (
 kIf (.bool true) (
 R (.returned (.tuple #[])) w_24) (
 kD [] [] (N [] w_24))) (
 kLoad (cR Tryd.prog R) w_24 41 v5 fun v37 w_25 =>
 kCallV (cR Tryd.prog R) w_25 yield #[v26, v37] fun v38 w_26 =>
 kUn (cR Tryd.prog R) w_26 .not v38 fun v39 w_27 =>
 kIf v39 (
 R (.returned (.tuple #[])) w_27) (
 kD [] [] (N [] w_27))))) (
 R (.returned (.tuple #[])) w_11)
theorem c33 (yield : Value) (f0 : Value) (R : Ending → World → Prop) (w : World) (h : vc33 yield f0 R w) : Calls Tryd.prog 33 #[yield, f0] w R :=
  calls_of_vc (A := { loops := [(0, [])], pars := [] }) (Eq.mpr (show FnVc Tryd.prog { loops := [(0, [])], pars := [] } 41 33 [yield, f0] R w = vc33 yield f0 R w by kernel_rfl) h)

/-- (*loupe/key.reader).next -/
def vc34 (r : Value) (R : Ending → World → Prop) (w : World) : Prop :=
 kAlloc (cR Tryd.prog R) w 41 fun v2 w_1 =>
 kAlloc (cR Tryd.prog R) w_1 26 fun v3 w_2 =>
 (fun (c : Cx) =>
 kCall c w_2 30 #[r] fun v6 w_3 =>
 kStore c w_3 41 v2 v6 fun w_4 =>
 kStore c w_4 26 v3 (.int .i64 0) fun w_5 =>
 Lv Tryd.prog [.cell v2 41, .cell v3 26] R [{ target := .fn (.func 22) #[], args := #[v3, (.func (.func 52) #[] #[v2])] }] .returning w_5) ⟨Tryd.prog, fun ch w => Lv Tryd.prog [.cell v2 41, .cell v3 26] R [{ target := .fn (.func 22) #[], args := #[v3, (.func (.func 52) #[] #[v2])] }] (.panicking ch) w, false⟩
theorem c34 (r : Value) (R : Ending → World → Prop) (w : World) (h : vc34 r R w) : Calls Tryd.prog 34 #[r] w R :=
  calls_of_vc (A := { loops := [], pars := [] }) (Eq.mpr (show FnVc Tryd.prog { loops := [], pars := [] } 7 34 [r] R w = vc34 r R w by kernel_rfl) h)

/-- slices.Values[[]loupe/api.Value,loupe/api.Value] -/
def vc41 (s : Option Addr) (sn : Nat) (sc : Nat) (R : Ending → World → Prop) (w : World) : Prop :=
 kBox (cR Tryd.prog R) w 22 (.slice s sn sc) fun v1 w_1 =>
 R (.returned (.func (.func 81) #[] #[v1])) w_1
theorem c41 (s : Option Addr) (sn : Nat) (sc : Nat) (R : Ending → World → Prop) (w : World) (h : vc41 s sn sc R w) : Calls Tryd.prog 41 #[(.slice s sn sc)] w R :=
  calls_of_vc (A := { loops := [], pars := [] }) (Eq.mpr (show FnVc Tryd.prog { loops := [], pars := [] } 4 41 [(.slice s sn sc)] R w = vc41 s sn sc R w by kernel_rfl) h)

/-- loupe/value.Check -/
def vc42 (v0 : Int) (v1 : Int) (v2 : ByteArray) (R : Ending → World → Prop) (w : World) : Prop :=
 kBox (cR Tryd.prog R) w 41 (.agg #[(.int .i64 v0), (.int .i64 v1), (.string v2)]) fun v1_1 w_1 =>
 kAlloc (cR Tryd.prog R) w_1 26 fun v2_1 w_2 =>
 (fun (c : Cx) =>
 kLoad c w_2 41 v1_1 fun v3 w_3 =>
 kCall c w_3 84 #[v3] fun v4 w_4 =>
 kStore c w_4 26 v2_1 (.int .i64 0) fun w_5 =>
 Lv Tryd.prog [.cell v2_1 26] R [{ target := .fn (.func 82) #[], args := #[v2_1, (.func (.func 83) #[] #[])] }] .returning w_5) ⟨Tryd.prog, fun ch w => Lv Tryd.prog [.cell v2_1 26] R [{ target := .fn (.func 82) #[], args := #[v2_1, (.func (.func 83) #[] #[])] }] (.panicking ch) w, false⟩
theorem c42 (v0 : Int) (v1 : Int) (v2 : ByteArray) (R : Ending → World → Prop) (w : World) (h : vc42 v0 v1 v2 R w) : Calls Tryd.prog 42 #[(.agg #[(.int .i64 v0), (.int .i64 v1), (.string v2)])] w R :=
  calls_of_vc (A := { loops := [], pars := [] }) (Eq.mpr (show FnVc Tryd.prog { loops := [], pars := [] } 5 42 [(.agg #[(.int .i64 v0), (.int .i64 v1), (.string v2)])] R w = vc42 v0 v1 v2 R w by kernel_rfl) h)

/-- loupe/key.laid -/
def vc43  (R : Ending → World → Prop) (w : World) : Prop :=
 kMkMap (cR Tryd.prog R) w 99 none fun v2 w_1 =>
 kUpd (cR Tryd.prog R) w_1 99 v2 (.int .i64 0) (.func (.func 87) #[] #[]) fun w_2 =>
 kUpd (cR Tryd.prog R) w_2 99 v2 (.int .i64 1) (.func (.func 88) #[] #[]) fun w_3 =>
 kUpd (cR Tryd.prog R) w_3 99 v2 (.int .i64 2) (.func (.func 89) #[] #[]) fun w_4 =>
 kUpd (cR Tryd.prog R) w_4 99 v2 (.int .i64 3) (.func (.func 85) #[] #[]) fun w_5 =>
 kUpd (cR Tryd.prog R) w_5 99 v2 (.int .i64 4) (.func (.func 85) #[] #[]) fun w_6 =>
 R (.returned v2) w_6
theorem c43  (R : Ending → World → Prop) (w : World) (h : vc43  R w) : Calls Tryd.prog 43 #[] w R :=
  calls_of_vc (A := { loops := [], pars := [] }) (Eq.mpr (show FnVc Tryd.prog { loops := [], pars := [] } 6 43 [] R w = vc43  R w by kernel_rfl) h)

/-- loupe/louperef01.Order -/
def vc44 (a0 : Int) (a1 : Int) (a2 : ByteArray) (b0 : Int) (b1 : Int) (b2 : ByteArray) (R : Ending → World → Prop) (w : World) : Prop :=
 kBox (cR Tryd.prog R) w 41 (.agg #[(.int .i64 a0), (.int .i64 a1), (.string a2)]) fun v2 w_1 =>
 kBox (cR Tryd.prog R) w_1 41 (.agg #[(.int .i64 b0), (.int .i64 b1), (.string b2)]) fun v3 w_2 =>
 kFa (cR Tryd.prog R) w_2 41 v2 0 fun v7 w_3 =>
 kLoad (cR Tryd.prog R) w_3 39 v7 fun v8 w_4 =>
 kFa (cR Tryd.prog R) w_4 41 v3 0 fun v9 w_5 =>
 kLoad (cR Tryd.prog R) w_5 39 v9 fun v10 w_6 =>
 kCall (cR Tryd.prog R) w_6 91 #[v8, v10] fun v11 w_7 =>
 kEq (cR Tryd.prog R) w_7 .neq 3 (.tmp 12) (.const (.int .i64 0)) v11 (.int .i64 0) fun v13 w_8 =>
 kIf v13 (
 R (.returned v11) w_8) (
 kFa (cR Tryd.prog R) w_8 41 v2 1 fun v15 w_9 =>
 kLoad (cR Tryd.prog R) w_9 2 v15 fun v16 w_10 =>
 kFa (cR Tryd.prog R) w_10 41 v3 1 fun v17 w_11 =>
 kLoad (cR Tryd.prog R) w_11 2 v17 fun v18 w_12 =>
 kCall (cR Tryd.prog R) w_12 91 #[v16, v18] fun v19 w_13 =>
 kEq (cR Tryd.prog R) w_13 .neq 3 (.tmp 20) (.const (.int .i64 0)) v19 (.int .i64 0) fun v21 w_14 =>
 kIf v21 (
 R (.returned v19) w_14) (
 kFa (cR Tryd.prog R) w_14 41 v2 2 fun v23 w_15 =>
 kLoad (cR Tryd.prog R) w_15 9 v23 fun v24 w_16 =>
 kFa (cR Tryd.prog R) w_16 41 v3 2 fun v25 w_17 =>
 kLoad (cR Tryd.prog R) w_17 9 v25 fun v26 w_18 =>
 kBin (cR Tryd.prog R) w_18 .lss 9 v24 v26 fun v27 w_19 =>
 kIf v27 (
 R (.returned (.int .i64 (-1))) w_19) (
 kFa (cR Tryd.prog R) w_19 41 v2 2 fun v28 w_20 =>
 kLoad (cR Tryd.prog R) w_20 9 v28 fun v29 w_21 =>
 kFa (cR Tryd.prog R) w_21 41 v3 2 fun v30 w_22 =>
 kLoad (cR Tryd.prog R) w_22 9 v30 fun v31 w_23 =>
 kBin (cR Tryd.prog R) w_23 .gtr 9 v29 v31 fun v32 w_24 =>
 kIf v32 (
 R (.returned (.int .i64 1)) w_24) (
 R (.returned (.int .i64 0)) w_24))))
theorem c44 (a0 : Int) (a1 : Int) (a2 : ByteArray) (b0 : Int) (b1 : Int) (b2 : ByteArray) (R : Ending → World → Prop) (w : World) (h : vc44 a0 a1 a2 b0 b1 b2 R w) : Calls Tryd.prog 44 #[(.agg #[(.int .i64 a0), (.int .i64 a1), (.string a2)]), (.agg #[(.int .i64 b0), (.int .i64 b1), (.string b2)])] w R :=
  calls_of_vc (A := { loops := [], pars := [] }) (Eq.mpr (show FnVc Tryd.prog { loops := [], pars := [] } 33 44 [(.agg #[(.int .i64 a0), (.int .i64 a1), (.string a2)]), (.agg #[(.int .i64 b0), (.int .i64 b1), (.string b2)])] R w = vc44 a0 a1 a2 b0 b1 b2 R w by kernel_rfl) h)

/-- slices.CompareFunc[[]loupe/api.Value,[]loupe/api.Value,loupe/api.Value,loupe/api.Value] -/
def vc45 (s1 : Option Addr) (s1n : Nat) (s1c : Nat) (s2 : Option Addr) (s2n : Nat) (s2c : Nat) (cmp : Value) (R : Ending → World → Prop) (w : World) : Prop :=
 kBlt (cR Tryd.prog R) w .len #[22] 3 #[false] #[(.slice s1 s1n s1c)] fun v12 w_1 =>
 kLoopF [(.int .i64 0)] w_1 fun cs ds w_2 N =>
 (fun x13 =>
 kBin (cR Tryd.prog R) w_2 .lss 3 x13 v12 fun v14 w_3 =>
 kIf v14 (
 kIa (cR Tryd.prog R) w_3 22 (.slice s1 s1n s1c) x13 fun v16 w_4 =>
 kLoad (cR Tryd.prog R) w_4 41 v16 fun v17 w_5 =>
 kAlloc (cR Tryd.prog R) w_5 41 fun v8 w_6 =>
 kStore (cR Tryd.prog R) w_6 41 v8 v17 fun w_7 =>
 kBlt (cR Tryd.prog R) w_7 .len #[22] 3 #[false] #[(.slice s2 s2n s2c)] fun v20 w_8 =>
 kBin (cR Tryd.prog R) w_8 .geq 3 x13 v20 fun v21 w_9 =>
 kIf v21 (
 R (.returned (.int .i64 1)) w_9) (
 kIa (cR Tryd.prog R) w_9 22 (.slice s2 s2n s2c) x13 fun v24 w_10 =>
 kLoad (cR Tryd.prog R) w_10 41 v24 fun v25 w_11 =>
 kAlloc (cR Tryd.prog R) w_11 41 fun v9 w_12 =>
 kStore (cR Tryd.prog R) w_12 41 v9 v25 fun w_13 =>
 kLoad (cR Tryd.prog R) w_13 41 v8 fun v27 w_14 =>
 kLoad (cR Tryd.prog R) w_14 41 v9 fun v28 w_15 =>
 kCallV (cR Tryd.prog R) w_15 cmp #[v27, v28] fun v29 w_16 =>
 kEq (cR Tryd.prog R) w_16 .neq 3 (.tmp 30) (.const (.int .i64 0)) v29 (.int .i64 0) fun v31 w_17 =>
 kIf v31 (
 R (.returned v29) w_17) (
 kBin (cR Tryd.prog R) w_17 .add 3 x13 (.int .i64 1) fun v33 w_18 =>
 kD [] [] (N [v33] w_18)))) (
 kBlt (cR Tryd.prog R) w_3 .len #[22] 3 #[false] #[(.slice s1 s1n s1c)] fun v35 w_19 =>
 kBlt (cR Tryd.prog R) w_19 .len #[22] 3 #[false] #[(.slice s2 s2n s2c)] fun v37 w_20 =>
 kBin (cR Tryd.prog R) w_20 .lss 3 v35 v37 fun v38 w_21 =>
 kIf v38 (
 R (.returned (.int .i64 (-1))) w_21) (
 R (.returned (.int .i64 0)) w_21))) (cs.getD 0 undef)
theorem c45 (s1 : Option Addr) (s1n : Nat) (s1c : Nat) (s2 : Option Addr) (s2n : Nat) (s2c : Nat) (cmp : Value) (R : Ending → World → Prop) (w : World) (h : vc45 s1 s1n s1c s2 s2n s2c cmp R w) : Calls Tryd.prog 45 #[(.slice s1 s1n s1c), (.slice s2 s2n s2c), cmp] w R :=
  calls_of_vc (A := { loops := [(0, [13])], pars := [] }) (Eq.mpr (show FnVc Tryd.prog { loops := [(0, [13])], pars := [] } 39 45 [(.slice s1 s1n s1c), (.slice s2 s2n s2c), cmp] R w = vc45 s1 s1n s1c s2 s2n s2c cmp R w by kernel_rfl) h)

/-- cmp.Or[int] -/
def vc46 (vals : Option Addr) (valsn : Nat) (valsc : Nat) (R : Ending → World → Prop) (w : World) : Prop :=
 kBlt (cR Tryd.prog R) w .len #[48] 3 #[false] #[(.slice vals valsn valsc)] fun v7 w_1 =>
 kLoopF [(.int .i64 0)] w_1 fun cs ds w_2 N =>
 (fun x8 =>
 kBin (cR Tryd.prog R) w_2 .lss 3 x8 v7 fun v9 w_3 =>
 kIf v9 (
 kIa (cR Tryd.prog R) w_3 48 (.slice vals valsn valsc) x8 fun v10 w_4 =>
 kLoad (cR Tryd.prog R) w_4 3 v10 fun v11 w_5 =>
 kEq (cR Tryd.prog R) w_5 .neq 3 (.tmp 12) (.tmp 13) v11 (.int .i64 0) fun v14 w_6 =>
 kIf v14 (
 R (.returned v11) w_6) (
 kBin (cR Tryd.prog R) w_6 .add 3 x8 (.int .i64 1) fun v16 w_7 =>
 kD [] [] (N [v16] w_7))) (
 R (.returned (.int .i64 0)) w_3)) (cs.getD 0 undef)
theorem c46 (vals : Option Addr) (valsn : Nat) (valsc : Nat) (R : Ending → World → Prop) (w : World) (h : vc46 vals valsn valsc R w) : Calls Tryd.prog 46 #[(.slice vals valsn valsc)] w R :=
  calls_of_vc (A := { loops := [(0, [8])], pars := [] }) (Eq.mpr (show FnVc Tryd.prog { loops := [(0, [8])], pars := [] } 18 46 [(.slice vals valsn valsc)] R w = vc46 vals valsn valsc R w by kernel_rfl) h)

/-- cmp.Compare[loupe/api.ValueKind] -/
def vc47 (x : Int) (y : Int) (R : Ending → World → Prop) (w : World) : Prop :=
 kCall (cR Tryd.prog R) w 92 #[(.int .i64 x)] fun v8 w_1 =>
 kCall (cR Tryd.prog R) w_1 92 #[(.int .i64 y)] fun v10 w_2 =>
 kIf v8 (
 kIf v10 (
 R (.returned (.int .i64 0)) w_2) (
 R (.returned (.int .i64 (-1))) w_2)) (
 kIf v10 (
 R (.returned (.int .i64 1)) w_2) (
 kBin (cR Tryd.prog R) w_2 .lss 39 (.int .i64 x) (.int .i64 y) fun v16 w_3 =>
 kIf v16 (
 R (.returned (.int .i64 (-1))) w_3) (
 kBin (cR Tryd.prog R) w_3 .gtr 39 (.int .i64 x) (.int .i64 y) fun v19 w_4 =>
 kIf v19 (
 R (.returned (.int .i64 1)) w_4) (
 R (.returned (.int .i64 0)) w_4))))
theorem c47 (x : Int) (y : Int) (R : Ending → World → Prop) (w : World) (h : vc47 x y R w) : Calls Tryd.prog 47 #[(.int .i64 x), (.int .i64 y)] w R :=
  calls_of_vc (A := { loops := [], pars := [] }) (Eq.mpr (show FnVc Tryd.prog { loops := [], pars := [] } 20 47 [(.int .i64 x), (.int .i64 y)] R w = vc47 x y R w by kernel_rfl) h)

/-- cmp.Compare[int64] -/
def vc48 (x : Int) (y : Int) (R : Ending → World → Prop) (w : World) : Prop :=
 kCall (cR Tryd.prog R) w 93 #[(.int .i64 x)] fun v8 w_1 =>
 kCall (cR Tryd.prog R) w_1 93 #[(.int .i64 y)] fun v10 w_2 =>
 kIf v8 (
 kIf v10 (
 R (.returned (.int .i64 0)) w_2) (
 R (.returned (.int .i64 (-1))) w_2)) (
 kIf v10 (
 R (.returned (.int .i64 1)) w_2) (
 kBin (cR Tryd.prog R) w_2 .lss 2 (.int .i64 x) (.int .i64 y) fun v16 w_3 =>
 kIf v16 (
 R (.returned (.int .i64 (-1))) w_3) (
 kBin (cR Tryd.prog R) w_3 .gtr 2 (.int .i64 x) (.int .i64 y) fun v19 w_4 =>
 kIf v19 (
 R (.returned (.int .i64 1)) w_4) (
 R (.returned (.int .i64 0)) w_4))))
theorem c48 (x : Int) (y : Int) (R : Ending → World → Prop) (w : World) (h : vc48 x y R w) : Calls Tryd.prog 48 #[(.int .i64 x), (.int .i64 y)] w R :=
  calls_of_vc (A := { loops := [], pars := [] }) (Eq.mpr (show FnVc Tryd.prog { loops := [], pars := [] } 20 48 [(.int .i64 x), (.int .i64 y)] R w = vc48 x y R w by kernel_rfl) h)

/-- cmp.Compare[string] -/
def vc49 (x : ByteArray) (y : ByteArray) (R : Ending → World → Prop) (w : World) : Prop :=
 kCall (cR Tryd.prog R) w 94 #[(.string x)] fun v8 w_1 =>
 kCall (cR Tryd.prog R) w_1 94 #[(.string y)] fun v10 w_2 =>
 kIf v8 (
 kIf v10 (
 R (.returned (.int .i64 0)) w_2) (
 R (.returned (.int .i64 (-1))) w_2)) (
 kIf v10 (
 R (.returned (.int .i64 1)) w_2) (
 kBin (cR Tryd.prog R) w_2 .lss 9 (.string x) (.string y) fun v16 w_3 =>
 kIf v16 (
 R (.returned (.int .i64 (-1))) w_3) (
 kBin (cR Tryd.prog R) w_3 .gtr 9 (.string x) (.string y) fun v19 w_4 =>
 kIf v19 (
 R (.returned (.int .i64 1)) w_4) (
 R (.returned (.int .i64 0)) w_4))))
theorem c49 (x : ByteArray) (y : ByteArray) (R : Ending → World → Prop) (w : World) (h : vc49 x y R w) : Calls Tryd.prog 49 #[(.string x), (.string y)] w R :=
  calls_of_vc (A := { loops := [], pars := [] }) (Eq.mpr (show FnVc Tryd.prog { loops := [], pars := [] } 20 49 [(.string x), (.string y)] R w = vc49 x y R w by kernel_rfl) h)

/-- (*loupe/key.left).take -/
def vc50 (l : Value) (n : Int) (R : Ending → World → Prop) (w : World) : Prop :=
 kNil (cR Tryd.prog R) w l fun v7 w_1 =>
 kFa (cR Tryd.prog R) w_1 62 v7 0 fun v8 w_2 =>
 kLoad (cR Tryd.prog R) w_2 25 v8 fun v9 w_3 =>
 kBlt (cR Tryd.prog R) w_3 .len #[25] 3 #[false] #[v9] fun v10 w_4 =>
 kBin (cR Tryd.prog R) w_4 .geq 3 v10 (.int .i64 n) fun v12 w_5 =>
 kCall (cR Tryd.prog R) w_5 31 #[v12, (.int .i64 200)] fun v13 w_6 =>
 kNil (cR Tryd.prog R) w_6 l fun v15 w_7 =>
 kFa (cR Tryd.prog R) w_7 62 v15 0 fun v16 w_8 =>
 kLoad (cR Tryd.prog R) w_8 25 v16 fun v17 w_9 =>
 kSl (cR Tryd.prog R) w_9 25 v17 none (some (.int .i64 n)) (some (.int .i64 n)) fun v20 w_10 =>
 kNil (cR Tryd.prog R) w_10 l fun v23 w_11 =>
 kFa (cR Tryd.prog R) w_11 62 v23 0 fun v24 w_12 =>
 kLoad (cR Tryd.prog R) w_12 25 v24 fun v25 w_13 =>
 kSl (cR Tryd.prog R) w_13 25 v25 (some (.int .i64 n)) none none fun v27 w_14 =>
 kNil (cR Tryd.prog R) w_14 l fun v28 w_15 =>
 kFa (cR Tryd.prog R) w_15 62 v28 0 fun v29 w_16 =>
 kStore (cR Tryd.prog R) w_16 25 v29 v27 fun w_17 =>
 R (.returned v20) w_17
theorem c50 (l : Value) (n : Int) (R : Ending → World → Prop) (w : World) (h : vc50 l n R w) : Calls Tryd.prog 50 #[l, (.int .i64 n)] w R :=
  calls_of_vc (A := { loops := [], pars := [] }) (Eq.mpr (show FnVc Tryd.prog { loops := [], pars := [] } 31 50 [l, (.int .i64 n)] R w = vc50 l n R w by kernel_rfl) h)

/-- (*loupe/key.reader).text -/
def vc51 (r : Value) (R : Ending → World → Prop) (w : World) : Prop :=
 kLoopF [(.slice none 0 0)] w fun cs ds w_1 N =>
 (fun x3 =>
 kNil (cR Tryd.prog R) w_1 r fun v7 w_2 =>
 kFa (cR Tryd.prog R) w_2 64 v7 0 fun v8 w_3 =>
 kCall (cR Tryd.prog R) w_3 50 #[v8, (.int .i64 1)] fun v9 w_4 =>
 kIa (cR Tryd.prog R) w_4 25 v9 (.int .i64 0) fun v10 w_5 =>
 kLoad (cR Tryd.prog R) w_5 5 v10 fun v11 w_6 =>
 kJn (fun J =>
 kEq (cR Tryd.prog R) w_6 .eql 5 (.tmp 12) (.const (.int .u8 0)) v11 (.int .u8 0) fun v13 w_10 =>
 kIf v13 (
 kNil (cR Tryd.prog R) w_10 r fun v15 w_11 =>
 kFa (cR Tryd.prog R) w_11 64 v15 0 fun v16 w_12 =>
 kCall (cR Tryd.prog R) w_12 50 #[v16, (.int .i64 1)] fun v17 w_13 =>
 kIa (cR Tryd.prog R) w_13 25 v17 (.int .i64 0) fun v18 w_14 =>
 kLoad (cR Tryd.prog R) w_14 5 v18 fun v19 w_15 =>
 kJn (fun J_1 =>
 kIx (cR Tryd.prog R) w_15 9 (.string ⟨#[0, 1]⟩) (.int .i64 1) fun v21 w_20 =>
 kEq (cR Tryd.prog R) w_20 .eql 5 (.tmp 20) (.tmp 21) v19 v21 fun v22 w_21 =>
 kIf v22 (
 kCall (cR Tryd.prog R) w_21 31 #[(.bool true), (.int .i64 200)] fun v27 w_22 =>
 kD [] [] (J_1 [] w_22)) (
 kEq (cR Tryd.prog R) w_21 .eql 5 (.tmp 24) (.const (.int .u8 255)) v19 (.int .u8 255) fun v25 w_23 =>
 kCall (cR Tryd.prog R) w_23 31 #[v25, (.int .i64 200)] fun v27_1 w_24 =>
 kD [] [] (J_1 [] w_24))) (fun cs_2 w_16 => ∀ ds_2 : List Value,
 kIx (cR Tryd.prog R) w_16 9 (.string ⟨#[0, 1]⟩) (.int .i64 1) fun v29 w_17 =>
 kEq (cR Tryd.prog R) w_17 .eql 5 (.tmp 28) (.tmp 29) v19 v29 fun v30 w_18 =>
 kIf v30 (
 kConv (cR Tryd.prog R) w_18 25 9 x3 fun v32 w_19 =>
 R (.returned v32) w_19) (
 kD [] [] (J [] w_18)))) (
 kD [] [] (J [] w_10))) (fun cs_1 w_7 => ∀ ds_1 : List Value,
 kBuildS (cR Tryd.prog R) w_7 25 1 #[(0, v11)] fun v35 w_8 =>
 kBlt (cR Tryd.prog R) w_8 .append #[25, 25] 25 #[false, false] #[x3, v35] fun v36 w_9 =>
 kD [] [] (N [v36] w_9))) (cs.getD 0 undef)
theorem c51 (r : Value) (R : Ending → World → Prop) (w : World) (h : vc51 r R w) : Calls Tryd.prog 51 #[r] w R :=
  calls_of_vc (A := { loops := [(1000008, []), (1000006, []), (0, [3])], pars := [] }) (Eq.mpr (show FnVc Tryd.prog { loops := [(1000008, []), (1000006, []), (0, [3])], pars := [] } 37 51 [r] R w = vc51 r R w by kernel_rfl) h)

/-- (*loupe/key.reader).next$1 -/
def vc52 (f0 : Value) (R : Ending → World → Prop) (w : World) : Prop :=
 kBuild (cR Tryd.prog R) w 41 #[] fun v1 w_1 =>
 kStore (cR Tryd.prog R) w_1 41 f0 v1 fun w_2 =>
 R (.returned (.tuple #[])) w_2
theorem c52 (f0 : Value) (R : Ending → World → Prop) (w : World) (h : vc52 f0 R w) : Calls Tryd.prog 52 #[f0] w R :=
  calls_of_vc (A := { loops := [], pars := [] }) (Eq.mpr (show FnVc Tryd.prog { loops := [], pars := [] } 2 52 [f0] R w = vc52 f0 R w by kernel_rfl) h)

/-- slices.Values[[]loupe/api.Value,loupe/api.Value]$1 -/
def vc81 (yield : Value) (f0 : Value) (R : Ending → World → Prop) (w : World) : Prop :=
 kLoad (cR Tryd.prog R) w 22 f0 fun v5 w_1 =>
 kBlt (cR Tryd.prog R) w_1 .len #[22] 3 #[false] #[v5] fun v6 w_2 =>
 kLoopF [(.int .i64 0)] w_2 fun cs ds w_3 N =>
 (fun x7 =>
 kBin (cR Tryd.prog R) w_3 .lss 3 x7 v6 fun v8 w_4 =>
 kIf v8 (
 kIa (cR Tryd.prog R) w_4 22 v5 x7 fun v9 w_5 =>
 kLoad (cR Tryd.prog R) w_5 41 v9 fun v10 w_6 =>
 kAlloc (cR Tryd.prog R) w_6 41 fun v4 w_7 =>
 kStore (cR Tryd.prog R) w_7 41 v4 v10 fun w_8 =>
 kLoad (cR Tryd.prog R) w_8 41 v4 fun v12 w_9 =>
 kCallV (cR Tryd.prog R) w_9 yield #[v12] fun v13 w_10 =>
 kUn (cR Tryd.prog R) w_10 .not v13 fun v14 w_11 =>
 kIf v14 (
 R (.returned (.tuple #[])) w_11) (
 kBin (cR Tryd.prog R) w_11 .add 3 x7 (.int .i64 1) fun v15 w_12 =>
 kD [] [] (N [v15] w_12))) (
 R (.returned (.tuple #[])) w_4)) (cs.getD 0 undef)
theorem c81 (yield : Value) (f0 : Value) (R : Ending → World → Prop) (w : World) (h : vc81 yield f0 R w) : Calls Tryd.prog 81 #[yield, f0] w R :=
  calls_of_vc (A := { loops := [(0, [7])], pars := [] }) (Eq.mpr (show FnVc Tryd.prog { loops := [(0, [7])], pars := [] } 16 81 [yield, f0] R w = vc81 yield f0 R w by kernel_rfl) h)

/-- loupe/value.Check$1 -/
def vc83  (R : Ending → World → Prop) (w : World) : Prop :=
 R (.returned (.tuple #[])) w
theorem c83  (R : Ending → World → Prop) (w : World) (h : vc83  R w) : Calls Tryd.prog 83 #[] w R :=
  calls_of_vc (A := { loops := [], pars := [] }) (Eq.mpr (show FnVc Tryd.prog { loops := [], pars := [] } 0 83 [] R w = vc83  R w by kernel_rfl) h)

/-- loupe/value.right -/
def vc84 (v0 : Int) (v1 : Int) (v2 : ByteArray) (R : Ending → World → Prop) (w : World) : Prop :=
 kBox (cR Tryd.prog R) w 41 (.agg #[(.int .i64 v0), (.int .i64 v1), (.string v2)]) fun v1_1 w_1 =>
 kFa (cR Tryd.prog R) w_1 41 v1_1 2 fun v3 w_2 =>
 kLoad (cR Tryd.prog R) w_2 9 v3 fun v4 w_3 =>
 kBlt (cR Tryd.prog R) w_3 .len #[9] 3 #[false] #[v4] fun v5 w_4 =>
 kBin (cR Tryd.prog R) w_4 .leq 3 v5 (.int .i64 1000) fun v6 w_5 =>
 kCall (cR Tryd.prog R) w_5 104 #[v6, (.int .i64 3)] fun v7 w_6 =>
 kFa (cR Tryd.prog R) w_6 41 v1_1 0 fun v8 w_7 =>
 kLoad (cR Tryd.prog R) w_7 39 v8 fun v9 w_8 =>
 kBuild (cR Tryd.prog R) w_8 41 #[(0, v9)] fun v10 w_9 =>
 kAlloc (cR Tryd.prog R) w_9 41 fun v2_1 w_10 =>
 kStore (cR Tryd.prog R) w_10 41 v2_1 v10 fun w_11 =>
 kJn (fun J =>
 kFa (cR Tryd.prog R) w_11 41 v1_1 0 fun v11 w_25 =>
 kLoad (cR Tryd.prog R) w_25 39 v11 fun v12 w_26 =>
 kEq (cR Tryd.prog R) w_26 .eql 39 (.tmp 12) (.const (.int .i64 1)) v12 (.int .i64 1) fun v14 w_27 =>
 kIf v14 (
 kFa (cR Tryd.prog R) w_27 41 v1_1 1 fun v15 w_28 =>
 kLoad (cR Tryd.prog R) w_28 2 v15 fun v16 w_29 =>
 kBin (cR Tryd.prog R) w_29 .and 2 v16 (.int .i64 1) fun v17 w_30 =>
 kFa (cR Tryd.prog R) w_30 41 v2_1 1 fun v18 w_31 =>
 kStore (cR Tryd.prog R) w_31 2 v18 v17 fun w_32 =>
 kD [] [] (J [] w_32)) (
 kEq (cR Tryd.prog R) w_27 .eql 39 (.tmp 12) (.const (.int .i64 2)) v12 (.int .i64 2) fun v20 w_33 =>
 kIf v20 (
 kFa (cR Tryd.prog R) w_33 41 v1_1 1 fun v21 w_34 =>
 kLoad (cR Tryd.prog R) w_34 2 v21 fun v22 w_35 =>
 kFa (cR Tryd.prog R) w_35 41 v2_1 1 fun v23 w_36 =>
 kStore (cR Tryd.prog R) w_36 2 v23 v22 fun w_37 =>
 kD [] [] (J [] w_37)) (
 kJn (fun J_1 =>
 kEq (cR Tryd.prog R) w_33 .eql 39 (.tmp 12) (.const (.int .i64 3)) v12 (.int .i64 3) fun v25 w_43 =>
 kIf v25 (
 kD [] [] (J_1 [v25] w_43)) (
 kEq (cR Tryd.prog R) w_43 .eql 39 (.tmp 12) (.const (.int .i64 4)) v12 (.int .i64 4) fun v26 w_44 =>
 kD [] [] (J_1 [v26] w_44))) (fun cs_1 w_38 => ∀ ds_1 : List Value,
 (fun j24 =>
 kIf j24 (
 kFa (cR Tryd.prog R) w_38 41 v1_1 2 fun v27 w_39 =>
 kLoad (cR Tryd.prog R) w_39 9 v27 fun v28 w_40 =>
 kFa (cR Tryd.prog R) w_40 41 v2_1 2 fun v29 w_41 =>
 kStore (cR Tryd.prog R) w_41 9 v29 v28 fun w_42 =>
 kD [] [] (J [] w_42)) (
 kD [] [] (J [] w_38))) (cs_1.getD 0 undef))))) (fun cs w_12 => ∀ ds : List Value,
 kLoad (cR Tryd.prog R) w_12 41 v2_1 fun v30 w_13 =>
 kLoad (cR Tryd.prog R) w_13 41 v1_1 fun v31 w_14 =>
 kEq (cR Tryd.prog R) w_14 .eql 41 (.tmp 30) (.tmp 31) v30 v31 fun v32 w_15 =>
 kIf v32 (
 kFa (cR Tryd.prog R) w_15 41 v1_1 0 fun v34 w_16 =>
 kLoad (cR Tryd.prog R) w_16 39 v34 fun v35 w_17 =>
 kBin (cR Tryd.prog R) w_17 .geq 39 v35 (.int .i64 0) fun v36 w_18 =>
 kIf v36 (
 kFa (cR Tryd.prog R) w_18 41 v1_1 0 fun v39 w_19 =>
 kLoad (cR Tryd.prog R) w_19 39 v39 fun v40 w_20 =>
 kBin (cR Tryd.prog R) w_20 .leq 39 v40 (.int .i64 4) fun v41 w_21 =>
 kCall (cR Tryd.prog R) w_21 104 #[v41, (.int .i64 2)] fun v43 w_22 =>
 R (.returned (.tuple #[])) w_22) (
 kCall (cR Tryd.prog R) w_18 104 #[(.bool false), (.int .i64 2)] fun v43_1 w_23 =>
 R (.returned (.tuple #[])) w_23)) (
 kCall (cR Tryd.prog R) w_15 104 #[(.bool false), (.int .i64 2)] fun v43_2 w_24 =>
 R (.returned (.tuple #[])) w_24))
theorem c84 (v0 : Int) (v1 : Int) (v2 : ByteArray) (R : Ending → World → Prop) (w : World) (h : vc84 v0 v1 v2 R w) : Calls Tryd.prog 84 #[(.agg #[(.int .i64 v0), (.int .i64 v1), (.string v2)])] w R :=
  calls_of_vc (A := { loops := [(1000011, []), (1000010, [24])], pars := [] }) (Eq.mpr (show FnVc Tryd.prog { loops := [(1000011, []), (1000010, [24])], pars := [] } 44 84 [(.agg #[(.int .i64 v0), (.int .i64 v1), (.string v2)])] R w = vc84 v0 v1 v2 R w by kernel_rfl) h)

/-- loupe/key.laid$1 -/
def vc85 (v0 : Int) (v1 : Int) (v2 : ByteArray) (R : Ending → World → Prop) (w : World) : Prop :=
 kBox (cR Tryd.prog R) w 41 (.agg #[(.int .i64 v0), (.int .i64 v1), (.string v2)]) fun v1_1 w_1 =>
 kFa (cR Tryd.prog R) w_1 41 v1_1 2 fun v3 w_2 =>
 kLoad (cR Tryd.prog R) w_2 9 v3 fun v4 w_3 =>
 kCall (cR Tryd.prog R) w_3 86 #[v4, (.string ⟨#[0]⟩), (.string ⟨#[0, 255]⟩)] fun v5 w_4 =>
 kBin (cR Tryd.prog R) w_4 .add 9 v5 (.string ⟨#[0, 1]⟩) fun v6 w_5 =>
 kConv (cR Tryd.prog R) w_5 9 25 v6 fun v7 w_6 =>
 R (.returned v7) w_6
theorem c85 (v0 : Int) (v1 : Int) (v2 : ByteArray) (R : Ending → World → Prop) (w : World) (h : vc85 v0 v1 v2 R w) : Calls Tryd.prog 85 #[(.agg #[(.int .i64 v0), (.int .i64 v1), (.string v2)])] w R :=
  calls_of_vc (A := { loops := [], pars := [] }) (Eq.mpr (show FnVc Tryd.prog { loops := [], pars := [] } 8 85 [(.agg #[(.int .i64 v0), (.int .i64 v1), (.string v2)])] R w = vc85 v0 v1 v2 R w by kernel_rfl) h)

/-- loupe/key.laid$2 -/
def vc87 (a0 : Int) (a1 : Int) (a2 : ByteArray) (R : Ending → World → Prop) (w : World) : Prop :=
 kBox (cR Tryd.prog R) w 41 (.agg #[(.int .i64 a0), (.int .i64 a1), (.string a2)]) fun v1 w_1 =>
 R (.returned (.slice none 0 0)) w_1
theorem c87 (a0 : Int) (a1 : Int) (a2 : ByteArray) (R : Ending → World → Prop) (w : World) (h : vc87 a0 a1 a2 R w) : Calls Tryd.prog 87 #[(.agg #[(.int .i64 a0), (.int .i64 a1), (.string a2)])] w R :=
  calls_of_vc (A := { loops := [], pars := [] }) (Eq.mpr (show FnVc Tryd.prog { loops := [], pars := [] } 3 87 [(.agg #[(.int .i64 a0), (.int .i64 a1), (.string a2)])] R w = vc87 a0 a1 a2 R w by kernel_rfl) h)

/-- loupe/key.laid$3 -/
def vc88 (v0 : Int) (v1 : Int) (v2 : ByteArray) (R : Ending → World → Prop) (w : World) : Prop :=
 kBox (cR Tryd.prog R) w 41 (.agg #[(.int .i64 v0), (.int .i64 v1), (.string v2)]) fun v1_1 w_1 =>
 kFa (cR Tryd.prog R) w_1 41 v1_1 1 fun v3 w_2 =>
 kLoad (cR Tryd.prog R) w_2 2 v3 fun v4 w_3 =>
 kConv (cR Tryd.prog R) w_3 2 5 v4 fun v5 w_4 =>
 kBuildS (cR Tryd.prog R) w_4 25 1 #[(0, v5)] fun v6 w_5 =>
 R (.returned v6) w_5
theorem c88 (v0 : Int) (v1 : Int) (v2 : ByteArray) (R : Ending → World → Prop) (w : World) (h : vc88 v0 v1 v2 R w) : Calls Tryd.prog 88 #[(.agg #[(.int .i64 v0), (.int .i64 v1), (.string v2)])] w R :=
  calls_of_vc (A := { loops := [], pars := [] }) (Eq.mpr (show FnVc Tryd.prog { loops := [], pars := [] } 7 88 [(.agg #[(.int .i64 v0), (.int .i64 v1), (.string v2)])] R w = vc88 v0 v1 v2 R w by kernel_rfl) h)

/-- loupe/key.laid$4 -/
def vc89 (v0 : Int) (v1 : Int) (v2 : ByteArray) (R : Ending → World → Prop) (w : World) : Prop :=
 kBox (cR Tryd.prog R) w 41 (.agg #[(.int .i64 v0), (.int .i64 v1), (.string v2)]) fun v1_1 w_1 =>
 kFa (cR Tryd.prog R) w_1 41 v1_1 1 fun v4 w_2 =>
 kLoad (cR Tryd.prog R) w_2 2 v4 fun v5 w_3 =>
 kConv (cR Tryd.prog R) w_3 2 71 v5 fun v6 w_4 =>
 kBin (cR Tryd.prog R) w_4 .xor 71 v6 (.int .u64 9223372036854775808) fun v7 w_5 =>
 kCall (cR Tryd.prog R) w_5 90 #[v7] fun v8 w_6 =>
 kAlloc (cR Tryd.prog R) w_6 134 fun v3 w_7 =>
 kStore (cR Tryd.prog R) w_7 134 v3 v8 fun w_8 =>
 kSl (cR Tryd.prog R) w_8 134 v3 none none none fun v9 w_9 =>
 R (.returned v9) w_9
theorem c89 (v0 : Int) (v1 : Int) (v2 : ByteArray) (R : Ending → World → Prop) (w : World) (h : vc89 v0 v1 v2 R w) : Calls Tryd.prog 89 #[(.agg #[(.int .i64 v0), (.int .i64 v1), (.string v2)])] w R :=
  calls_of_vc (A := { loops := [], pars := [] }) (Eq.mpr (show FnVc Tryd.prog { loops := [], pars := [] } 10 89 [(.agg #[(.int .i64 v0), (.int .i64 v1), (.string v2)])] R w = vc89 v0 v1 v2 R w by kernel_rfl) h)

/-- loupe/key.eights -/
def vc90 (n : Int) (R : Ending → World → Prop) (w : World) : Prop :=
 kAlloc (cR Tryd.prog R) w 134 fun v2 w_1 =>
 kLoopF [(.int .i64 0)] w_1 fun cs ds w_2 N =>
 (fun x4 =>
 kBin (cR Tryd.prog R) w_2 .lss 3 x4 (.int .i64 8) fun v5 w_3 =>
 kIf v5 (
 kBin (cR Tryd.prog R) w_3 .sub 3 (.int .i64 7) x4 fun v8 w_4 =>
 kBin (cR Tryd.prog R) w_4 .mul 3 (.int .i64 8) x4 fun v11 w_5 =>
 kBin (cR Tryd.prog R) w_5 .shr 71 (.int .u64 n) v11 fun v12 w_6 =>
 kConv (cR Tryd.prog R) w_6 71 5 v12 fun v13 w_7 =>
 kIa (cR Tryd.prog R) w_7 134 v2 v8 fun v14 w_8 =>
 kStore (cR Tryd.prog R) w_8 5 v14 v13 fun w_9 =>
 kBin (cR Tryd.prog R) w_9 .add 3 x4 (.int .i64 1) fun v15 w_10 =>
 kD [] [] (N [v15] w_10)) (
 kLoad (cR Tryd.prog R) w_3 134 v2 fun v16 w_11 =>
 kStore (cR Tryd.prog R) w_11 134 v2 v16 fun w_12 =>
 RetK Tryd.prog [.cell v2 134] R w_12)) (cs.getD 0 undef)
theorem c90 (n : Int) (R : Ending → World → Prop) (w : World) (h : vc90 n R w) : Calls Tryd.prog 90 #[(.int .u64 n)] w R :=
  calls_of_vc (A := { loops := [(0, [4])], pars := [] }) (Eq.mpr (show FnVc Tryd.prog { loops := [(0, [4])], pars := [] } 17 90 [(.int .u64 n)] R w = vc90 n R w by kernel_rfl) h)

/-- loupe/louperef01.number -/
def vc91 (a : Int) (b : Int) (R : Ending → World → Prop) (w : World) : Prop :=
 kBin (cR Tryd.prog R) w .lss 2 (.int .i64 a) (.int .i64 b) fun v7 w_1 =>
 kIf v7 (
 R (.returned (.int .i64 (-1))) w_1) (
 kBin (cR Tryd.prog R) w_1 .gtr 2 (.int .i64 a) (.int .i64 b) fun v10 w_2 =>
 kIf v10 (
 R (.returned (.int .i64 1)) w_2) (
 R (.returned (.int .i64 0)) w_2))
theorem c91 (a : Int) (b : Int) (R : Ending → World → Prop) (w : World) (h : vc91 a b R w) : Calls Tryd.prog 91 #[(.int .i64 a), (.int .i64 b)] w R :=
  calls_of_vc (A := { loops := [], pars := [] }) (Eq.mpr (show FnVc Tryd.prog { loops := [], pars := [] } 11 91 [(.int .i64 a), (.int .i64 b)] R w = vc91 a b R w by kernel_rfl) h)

/-- cmp.isNaN[loupe/api.ValueKind] -/
def vc92 (x : Int) (R : Ending → World → Prop) (w : World) : Prop :=
 kEq (cR Tryd.prog R) w .neq 39 (.tmp 3) (.tmp 4) (.int .i64 x) (.int .i64 x) fun v5 w_1 =>
 R (.returned v5) w_1
theorem c92 (x : Int) (R : Ending → World → Prop) (w : World) (h : vc92 x R w) : Calls Tryd.prog 92 #[(.int .i64 x)] w R :=
  calls_of_vc (A := { loops := [], pars := [] }) (Eq.mpr (show FnVc Tryd.prog { loops := [], pars := [] } 6 92 [(.int .i64 x)] R w = vc92 x R w by kernel_rfl) h)

/-- cmp.isNaN[int64] -/
def vc93 (x : Int) (R : Ending → World → Prop) (w : World) : Prop :=
 kEq (cR Tryd.prog R) w .neq 2 (.tmp 3) (.tmp 4) (.int .i64 x) (.int .i64 x) fun v5 w_1 =>
 R (.returned v5) w_1
theorem c93 (x : Int) (R : Ending → World → Prop) (w : World) (h : vc93 x R w) : Calls Tryd.prog 93 #[(.int .i64 x)] w R :=
  calls_of_vc (A := { loops := [], pars := [] }) (Eq.mpr (show FnVc Tryd.prog { loops := [], pars := [] } 6 93 [(.int .i64 x)] R w = vc93 x R w by kernel_rfl) h)

/-- cmp.isNaN[string] -/
def vc94 (x : ByteArray) (R : Ending → World → Prop) (w : World) : Prop :=
 kEq (cR Tryd.prog R) w .neq 9 (.tmp 3) (.tmp 4) (.string x) (.string x) fun v5 w_1 =>
 R (.returned v5) w_1
theorem c94 (x : ByteArray) (R : Ending → World → Prop) (w : World) (h : vc94 x R w) : Calls Tryd.prog 94 #[(.string x)] w R :=
  calls_of_vc (A := { loops := [], pars := [] }) (Eq.mpr (show FnVc Tryd.prog { loops := [], pars := [] } 6 94 [(.string x)] R w = vc94 x R w by kernel_rfl) h)

/-- loupe/value.must -/
def vc104 (fine : Bool) (eA : Int) (R : Ending → World → Prop) (w : World) : Prop :=
 kUn (cR Tryd.prog R) w .not (.bool fine) fun v5 w_1 =>
 kIf v5 (
 kMkI (cR Tryd.prog R) w_1 26 (.int .i64 eA) fun v7 w_2 =>
 kPanic (cR Tryd.prog R) w_2 v7) (
 R (.returned (.tuple #[])) w_1)
theorem c104 (fine : Bool) (eA : Int) (R : Ending → World → Prop) (w : World) (h : vc104 fine eA R w) : Calls Tryd.prog 104 #[(.bool fine), (.int .i64 eA)] w R :=
  calls_of_vc (A := { loops := [], pars := [] }) (Eq.mpr (show FnVc Tryd.prog { loops := [], pars := [] } 8 104 [(.bool fine), (.int .i64 eA)] R w = vc104 fine eA R w by kernel_rfl) h)

end Go.L
