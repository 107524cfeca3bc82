/- What is to be shown of single functions, printed by a program and compared with the translation by the kernel: no condition. -/
import Derived.Test.YtjifkcfmolnepaaA1
import Derived.Test.YtjifkcfmolnepaaProg
set_option linter.unusedVariables false
set_option linter.unusedSimpArgs false
namespace Go.L
open Go Go.RowKit Go.Proofs
set_option maxRecDepth 100000
set_option linter.unusedVariables false

/-- loupe/loupelaw11.RowPicks -/
def vc3 (l : Option Addr) (ln : Nat) (lc : Nat) (atA : Option Addr) (atAn : Nat) (atAc : Nat) (t : Option Addr) (tn : Nat) (tc : Nat) (R : Ending → World → Prop) (w : World) : Prop :=
 kJn (fun J =>
 kCall (cR Try.prog R) w 10 #[(.slice l ln lc)] fun v14 w_26 =>
 kUn (cR Try.prog R) w_26 .not v14 fun v15 w_27 =>
 kIf v15 (
 kIf (.bool true) (
 kCall (cR Try.prog R) w_27 11 #[] fun v26 w_28 =>
 R (.returned v26) w_28) (
 kD [] [] (J [] w_27))) (
 kBlt (cR Try.prog R) w_27 .len #[23] 3 #[false] #[(.slice atA atAn atAc)] fun v18 w_29 =>
 kBin (cR Try.prog R) w_29 .gtr 3 v18 (.int .i64 40) fun v19 w_30 =>
 kIf v19 (
 kIf (.bool true) (
 kCall (cR Try.prog R) w_30 11 #[] fun v26_1 w_31 =>
 R (.returned v26_1) w_31) (
 kD [] [] (J [] w_30))) (
 kBlt (cR Try.prog R) w_30 .len #[24] 3 #[false] #[(.slice t tn tc)] fun v23 w_32 =>
 kBin (cR Try.prog R) w_32 .gtr 3 v23 (.int .i64 40) fun v24 w_33 =>
 kIf v24 (
 kCall (cR Try.prog R) w_33 11 #[] fun v26_2 w_34 =>
 R (.returned v26_2) w_34) (
 kD [] [] (J [] w_33))))) (fun cs w_1 => ∀ ds : List Value,
 kLoopF [(.slice none 0 0), (.int .i64 0)] w_1 fun cs_1 ds_1 w_2 N =>
 (fun x7 x8 =>
 kBlt (cR Try.prog R) w_2 .len #[24] 3 #[false] #[(.slice t tn tc)] fun v29 w_3 =>
 kBin (cR Try.prog R) w_3 .lss 3 x8 v29 fun v30 w_4 =>
 kIf v30 (
 kIa (cR Try.prog R) w_4 24 (.slice t tn tc) x8 fun v36 w_5 =>
 kLoad (cR Try.prog R) w_5 27 v36 fun v37 w_6 =>
 kBuildS (cR Try.prog R) w_6 23 1 #[(0, v37)] fun v38 w_7 =>
 kBlt (cR Try.prog R) w_7 .append #[23, 23] 23 #[false, false] #[x7, v38] fun v39 w_8 =>
 kBin (cR Try.prog R) w_8 .add 3 x8 (.int .i64 1) fun v32 w_9 =>
 kD [] [] (N [v39, v32] w_9)) (
 kCall (cR Try.prog R) w_4 12 #[(.slice l ln lc), (.slice atA atAn atAc)] fun v43 w_10 =>
 kExt v43 0 fun v44 =>
 kExt v43 1 fun v45 =>
 kCall (cR Try.prog R) w_10 13 #[(.slice l ln lc), (.slice atA atAn atAc)] fun v49 w_11 =>
 kExt v49 0 fun v50 =>
 kExt v49 1 fun v51 =>
 kCall (cR Try.prog R) w_11 14 #[v44, v50] fun v54 w_12 =>
 kIf v54 (
 kCall (cR Try.prog R) w_12 15 #[v45] fun v57 w_13 =>
 kEq (cR Try.prog R) w_13 .eql 3 (.tmp 57) (.const (.int .i64 0)) v57 (.int .i64 0) fun v58 w_14 =>
 kEq (cR Try.prog R) w_14 .eql 4 (.tmp 58) (.tmp 59) v58 v51 fun v60 w_15 =>
 kIf v60 (
 kIf v51 (
 kCall (cR Try.prog R) w_15 16 #[(.slice l ln lc), (.slice t tn tc)] fun v73 w_16 =>
 kCall (cR Try.prog R) w_16 17 #[(.slice l ln lc), x7] fun v76 w_17 =>
 kEq (cR Try.prog R) w_17 .eql 4 (.tmp 73) (.tmp 76) v73 v76 fun v77 w_18 =>
 kIf v77 (
 kCall (cR Try.prog R) w_18 11 #[] fun v80 w_19 =>
 R (.returned v80) w_19) (
 R (.returned (.bool false)) w_18)) (
 kCall (cR Try.prog R) w_15 15 #[v45] fun v66 w_20 =>
 kEq (cR Try.prog R) w_20 .eql 3 (.tmp 66) (.const (.int .i64 4)) v66 (.int .i64 4) fun v67 w_21 =>
 kIf v67 (
 kCall (cR Try.prog R) w_21 16 #[(.slice l ln lc), (.slice t tn tc)] fun v73_1 w_22 =>
 kCall (cR Try.prog R) w_22 17 #[(.slice l ln lc), x7] fun v76_1 w_23 =>
 kEq (cR Try.prog R) w_23 .eql 4 (.tmp 73) (.tmp 76) v73_1 v76_1 fun v77_1 w_24 =>
 kIf v77_1 (
 kCall (cR Try.prog R) w_24 11 #[] fun v80_1 w_25 =>
 R (.returned v80_1) w_25) (
 R (.returned (.bool false)) w_24)) (
 R (.returned (.bool false)) w_21))) (
 R (.returned (.bool false)) w_15)) (
 R (.returned (.bool false)) w_12))) (cs_1.getD 0 undef) (cs_1.getD 1 undef))
theorem c3 (l : Option Addr) (ln : Nat) (lc : Nat) (atA : Option Addr) (atAn : Nat) (atAc : Nat) (t : Option Addr) (tn : Nat) (tc : Nat) (R : Ending → World → Prop) (w : World) (h : vc3 l ln lc atA atAn atAc t tn tc R w) : Calls Try.prog 3 #[(.slice l ln lc), (.slice atA atAn atAc), (.slice t tn tc)] w R :=
  calls_of_vc (A := { loops := [(0, [7, 8]), (1000003, [])], pars := [] }) (Eq.mpr (show FnVc Try.prog { loops := [(0, [7, 8]), (1000003, [])], pars := [] } 82 3 [(.slice l ln lc), (.slice atA atAn atAc), (.slice t tn tc)] R w = vc3 l ln lc atA atAn atAc t tn tc R w by kernel_rfl) h)

/-- loupe/loupelaw11.RowHolds -/
def vc4 (a : Option Addr) (an : Nat) (ac : Nat) (b : Option Addr) (bn : Nat) (bc : Nat) (R : Ending → World → Prop) (w : World) : Prop :=
 kJn (fun J =>
 kCall (cR Try.prog R) w 10 #[(.slice a an ac)] fun v14 w_36 =>
 kUn (cR Try.prog R) w_36 .not v14 fun v15 w_37 =>
 kIf v15 (
 kIf (.bool true) (
 kCall (cR Try.prog R) w_37 11 #[] fun v21 w_38 =>
 R (.returned v21) w_38) (
 kD [] [] (J [] w_37))) (
 kCall (cR Try.prog R) w_37 10 #[(.slice b bn bc)] fun v18 w_39 =>
 kUn (cR Try.prog R) w_39 .not v18 fun v19 w_40 =>
 kIf v19 (
 kCall (cR Try.prog R) w_40 11 #[] fun v21_1 w_41 =>
 R (.returned v21_1) w_41) (
 kD [] [] (J [] w_40)))) (fun cs w_1 => ∀ ds : List Value,
 kCall (cR Try.prog R) w_1 18 #[(.slice a an ac)] fun v24 w_2 =>
 kExt v24 0 fun v25 =>
 kExt v24 1 fun v26 =>
 kCall (cR Try.prog R) w_2 18 #[(.slice b bn bc)] fun v29 w_3 =>
 kExt v29 0 fun v30 =>
 kExt v29 1 fun v31 =>
 kCall (cR Try.prog R) w_3 15 #[v26] fun v33 w_4 =>
 kCall (cR Try.prog R) w_4 15 #[v31] fun v35 w_5 =>
 kBin (cR Try.prog R) w_5 .add 3 v33 v35 fun v36 w_6 =>
 kEq (cR Try.prog R) w_6 .neq 3 (.tmp 36) (.const (.int .i64 0)) v36 (.int .i64 0) fun v37 w_7 =>
 kIf v37 (
 kCall (cR Try.prog R) w_7 11 #[] fun v38 w_8 =>
 R (.returned v38) w_8) (
 kLoopF [(.slice none 0 0), (.int .i64 0)] w_7 fun cs_1 ds_1 w_9 N =>
 (fun x9 x10 =>
 kBlt (cR Try.prog R) w_9 .len #[22] 3 #[false] #[(.slice a an ac)] fun v41 w_10 =>
 kBin (cR Try.prog R) w_10 .lss 3 x10 v41 fun v42 w_11 =>
 kIf v42 (
 kBuildS (cR Try.prog R) w_11 23 1 #[(0, x10)] fun v47 w_12 =>
 kBlt (cR Try.prog R) w_12 .append #[23, 23] 23 #[false, false] #[x9, v47] fun v48 w_13 =>
 kBin (cR Try.prog R) w_13 .add 3 x10 (.int .i64 1) fun v44 w_14 =>
 kD [] [] (N [v48, v44] w_14)) (
 kCall (cR Try.prog R) w_11 12 #[(.slice a an ac), x9] fun v52 w_15 =>
 kExt v52 0 fun v53 =>
 kExt v52 1 fun v54 =>
 kDrawn true (
 kDrawn true (
 kConv (cQ Try.prog) w_15 38 9 v25 fun v56 w_16 =>
 kConv (cQ Try.prog) w_16 38 9 v30 fun v58 w_17 =>
 kEq (cQ Try.prog) w_17 .eql 9 (.tmp 56) (.tmp 58) v56 v58 fun v59 w_18 =>
 kDrew w_18 fun w_19 =>
 (fun (c : Cx) =>
 kCall c w_19 14 #[(.slice a an ac), (.slice b bn bc)] fun v62 w_20 =>
 kConv (cQ Try.prog) w_20 38 9 v25 fun v56_1 w_21 =>
 kSame v56_1 v56 (
 kConv (cQ Try.prog) w_20 38 9 v30 fun v58_1 w_22 =>
 kSame v58_1 v58 (
 kEq (cQ Try.prog) w_20 .eql 9 (.tmp 56) (.tmp 58) v56 v58 fun v59_1 w_23 =>
 kSame v59_1 v59 (
 kEq (cQ Try.prog) w_20 .eql 4 (.tmp 59) (.tmp 62) v59 v62 fun v63 w_24 =>
 kIf v63 (
 kDrew w_24 fun w_25 =>
 kCall c w_25 14 #[v53, (.slice a an ac)] fun v67 w_26 =>
 kIf v67 (
 kDrew w_26 fun w_27 =>
 kCall c w_27 15 #[v54] fun v71 w_28 =>
 kEq (cQ Try.prog) w_28 .eql 3 (.tmp 71) (.const (.int .i64 0)) v71 (.int .i64 0) fun v72 w_29 =>
 kIf v72 (
 kDrew w_29 fun w_30 =>
 kCall c w_30 11 #[] fun v75 w_31 =>
 kDrew w_31 fun w_32 =>
 R (.returned v75) w_32) (
 kDrew w_29 fun w_33 =>
 R (.returned (.bool false)) w_33)) (
 kDrew w_26 fun w_34 =>
 R (.returned (.bool false)) w_34)) (
 kDrew w_24 fun w_35 =>
 R (.returned (.bool false)) w_35))))) ⟨Try.prog, fun ch w => ∀ _ : List Value, R (.panicked ch) w, false⟩)))) (cs_1.getD 0 undef) (cs_1.getD 1 undef)))
theorem c4 (a : Option Addr) (an : Nat) (ac : Nat) (b : Option Addr) (bn : Nat) (bc : Nat) (R : Ending → World → Prop) (w : World) (h : vc4 a an ac b bn bc R w) : Calls Try.prog 4 #[(.slice a an ac), (.slice b bn bc)] w R :=
  calls_of_vc (A := { loops := [(0, [9, 10]), (1000003, [])], pars := [], chs := [(13, (.q 0 (.q 1 (.q 2 (.q 3 (.q 4 (.q 5 (.q 6 (.e 7 (.q 8 (.q 9 (.q 10 (.q 11 (.e 12 (.q 13 (.q 14 (.q 15 (.e 16 (.q 17 (.q 18 (.q 19 (.e 20 (.q 21 .done)))))))))))))))))))))))] }) (Eq.mpr (show FnVc Try.prog { loops := [(0, [9, 10]), (1000003, [])], pars := [], chs := [(13, (.q 0 (.q 1 (.q 2 (.q 3 (.q 4 (.q 5 (.q 6 (.e 7 (.q 8 (.q 9 (.q 10 (.q 11 (.e 12 (.q 13 (.q 14 (.q 15 (.e 16 (.q 17 (.q 18 (.q 19 (.e 20 (.q 21 .done)))))))))))))))))))))))] } 77 4 [(.slice a an ac), (.slice b bn bc)] R w = vc4 a an ac b bn bc R w by kernel_rfl) h)

/-- loupe/loupelaw11.RowReads -/
def vc5 (b : Option Addr) (bn : Nat) (bc : Nat) (many : Int) (R : Ending → World → Prop) (w : World) : Prop :=
 kBox (cR Try.prog R) w 3 (.int .i64 many) fun v3 w_1 =>
 kAlloc (cR Try.prog R) w_1 4 fun v4 w_2 =>
 kBlt (cR Try.prog R) w_2 .len #[38] 3 #[false] #[(.slice b bn bc)] fun v15 w_3 =>
 kBin (cR Try.prog R) w_3 .gtr 3 v15 (.int .i64 4100) fun v16 w_4 =>
 kIf v16 (
 kCall (cR Try.prog R) w_4 11 #[] fun v17 w_5 =>
 kStore (cR Try.prog R) w_5 4 v4 v17 fun w_6 =>
 RetK Try.prog [.cell v4 4] R w_6) (
 kCall (cR Try.prog R) w_4 19 #[(.slice b bn bc)] fun v20 w_7 =>
 kExt v20 0 fun v21 =>
 kExt v20 1 fun v22 =>
 kCall (cR Try.prog R) w_7 20 #[(.slice b bn bc)] fun v25 w_8 =>
 kExt v25 0 fun v26 =>
 kExt v25 1 fun v27 =>
 kAlloc (cR Try.prog R) w_8 22 fun v7 w_9 =>
 kStore (cR Try.prog R) w_9 22 v7 v26 fun w_10 =>
 kCall (cR Try.prog R) w_10 21 #[(.slice b bn bc)] fun v29 w_11 =>
 kJn (fun J =>
 kLoad (cR Try.prog R) w_11 22 v7 fun v31 w_93 =>
 kCall (cR Try.prog R) w_93 14 #[v21, v31] fun v32 w_94 =>
 kUn (cR Try.prog R) w_94 .not v32 fun v33 w_95 =>
 kIf v33 (
 kIf (.bool true) (
 kStore (cR Try.prog R) w_95 4 v4 (.bool false) fun w_96 =>
 RetK Try.prog [.cell v4 4] R w_96) (
 kD [] [] (J [] w_95))) (
 kCall (cR Try.prog R) w_95 15 #[v22] fun v36 w_97 =>
 kEq (cR Try.prog R) w_97 .neq 3 (.tmp 36) (.tmp 37) v36 v27 fun v38 w_98 =>
 kIf v38 (
 kIf (.bool true) (
 kStore (cR Try.prog R) w_98 4 v4 (.bool false) fun w_99 =>
 RetK Try.prog [.cell v4 4] R w_99) (
 kD [] [] (J [] w_98))) (
 kEq (cR Try.prog R) w_98 .eql 45 (.tmp 41) (.const .nilFunc) v29 .nilFunc fun v42 w_100 =>
 kIf v42 (
 kStore (cR Try.prog R) w_100 4 v4 (.bool false) fun w_101 =>
 RetK Try.prog [.cell v4 4] R w_101) (
 kD [] [] (J [] w_100))))) (fun cs w_12 => ∀ ds : List Value,
 kAlloc (cR Try.prog R) w_12 3 fun v10 w_13 =>
 kStore (cR Try.prog R) w_13 3 v10 (.int .i64 0) fun w_14 =>
 kLoop [v10] [] w_14 fun cs_1 ds_1 d w_15 N =>
 (fun x10 =>
 (fun (c : Cx) =>
 kLoad c w_15 3 x10 fun v44 w_16 =>
 kBin c w_16 .lss 3 v44 (.int .i64 2) fun v45 w_17 =>
 kIf v45 (
 kJnD (fun J_1 =>
 kAlloc c w_17 3 fun v11 w_25 =>
 kStore c w_25 3 v11 (.int .i64 0) fun w_26 =>
 kJnD (fun J_2 =>
 kRange Try.prog none w_26 v29 2 (fun l D args w_54 Rr =>
 (fun p49 p50 =>
 kAlloc (cN Try.prog) w_54 49 fun v13 w_55 =>
 kStore (cN Try.prog) w_55 49 v13 p50 fun w_56 =>
 rndMid l D w_54 w_56 fun lo w_57 =>
 kJn (fun J_3 =>
 kDrawn true (
 kLoad (cQ Try.prog) w_57 3 v11 fun v52 w_67 =>
 kEq (cQ Try.prog) w_67 .neq 3 (.tmp 51) (.tmp 52) p49 v52 fun v53 w_68 =>
 kIf v53 (
 kDrew w_57 fun w_69 =>
 kIf (.bool true) (
 (fun (c_4 : Cx) =>
 kStore c_4 w_69 4 v4 (.bool false) fun w_70 =>
 rndEnd l D lo w_54 Rr .ret [] w_70) ⟨Try.prog, fun ch w => rndEnd l D lo w_54 Rr (.panic ch) [] w, false⟩) (
 kD [] [] (J_3 [] w_69))) (
 kLoad (cQ Try.prog) w_68 3 v11 fun v55 w_71 =>
 kLoad (cQ Try.prog) w_71 22 v7 fun v56 w_72 =>
 kBlt (cQ Try.prog) w_72 .len #[22] 3 #[false] #[v56] fun v57 w_73 =>
 kBin (cQ Try.prog) w_73 .geq 3 v55 v57 fun v58 w_74 =>
 kIf v58 (
 kDrew w_57 fun w_75 =>
 kIf (.bool true) (
 (fun (c_5 : Cx) =>
 kStore c_5 w_75 4 v4 (.bool false) fun w_76 =>
 rndEnd l D lo w_54 Rr .ret [] w_76) ⟨Try.prog, fun ch w => rndEnd l D lo w_54 Rr (.panic ch) [] w, false⟩) (
 kD [] [] (J_3 [] w_75))) (
 kLoad (cQ Try.prog) w_74 49 v13 fun v61 w_77 =>
 kLoad (cQ Try.prog) w_77 22 v7 fun v62 w_78 =>
 kLoad (cQ Try.prog) w_78 3 v11 fun v63 w_79 =>
 kIa (cQ Try.prog) w_79 22 v62 v63 fun v64 w_80 =>
 kLoad (cQ Try.prog) w_80 49 v64 fun v65 w_81 =>
 kEq (cQ Try.prog) w_81 .neq 49 (.tmp 61) (.tmp 65) v61 v65 fun v66 w_82 =>
 kDrew w_57 fun w_83 =>
 kIf v66 (
 (fun (c_6 : Cx) =>
 kStore c_6 w_83 4 v4 (.bool false) fun w_84 =>
 rndEnd l D lo w_54 Rr .ret [] w_84) ⟨Try.prog, fun ch w => rndEnd l D lo w_54 Rr (.panic ch) [] w, false⟩) (
 kD [] [] (J_3 [] w_83)))))) (fun cs_4 w_58 => ∀ ds_4 : List Value,
 (fun (c_3 : Cx) =>
 kLoad c_3 w_58 3 v11 fun v68 w_59 =>
 kBin c_3 w_59 .add 3 v68 (.int .i64 1) fun v69 w_60 =>
 kStore c_3 w_60 3 v11 v69 fun w_61 =>
 kLoad c_3 w_61 3 x10 fun v70 w_62 =>
 kEq c_3 w_62 .eql 3 (.tmp 70) (.const (.int .i64 0)) v70 (.int .i64 0) fun v71 w_63 =>
 kIf v71 (
 kLoad c_3 w_63 3 v11 fun v73 w_64 =>
 kLoad c_3 w_64 3 v3 fun v74 w_65 =>
 kBin c_3 w_65 .geq 3 v73 v74 fun v75 w_66 =>
 kIf v75 (
 rndEnd l D lo w_54 Rr (.exit 2) [] w_66) (
 rndEnd l D lo w_54 Rr .normal [] w_66)) (
 kIf (.bool false) (
 rndEnd l D lo w_54 Rr (.exit 2) [] w_63) (
 rndEnd l D lo w_54 Rr .normal [] w_63))) ⟨Try.prog, fun ch w => rndEnd l D lo w_54 Rr (.panic ch) [] w, false⟩)) (args.getD 0 undef) (args.getD 1 undef))
  (fun D_1 w_85 =>
 J_2 [] (markOf D_1 :: d) w_85)
  (fun D_1 w_86 =>
 Lv Try.prog [.cell v4 4] R (markOf D_1 :: d) .returning w_86)
  (fun D_1 id w_87 => kX [2] id (if id = 2 then J_2 [] (markOf D_1 :: d) w_87 else if id = 1 then J_1 [] (markOf D_1 :: d) w_87 else if id = 0 then (fun (c_7 : Cx) =>
 kCall c_7 w_87 11 #[] fun v99 w_88 =>
 kStore c_7 w_88 4 v4 v99 fun w_89 =>
 Lv Try.prog [.cell v4 4] R (markOf D_1 :: d) .returning w_89) ⟨Try.prog, fun ch w => Lv Try.prog [.cell v4 4] R (markOf D_1 :: d) (.panicking ch) w, false⟩ else False))
  (fun D_1 ch w_90 => (fun ch w => Lv Try.prog [.cell v4 4] R (markOf D_1 :: d) (.panicking ch) w) ch w_90)) (fun cs_3 d_2 w_27 => ∀ ds_3 : List Value,
 (fun (c_2 : Cx) =>
 kLoad c_2 w_27 3 x10 fun v77 w_28 =>
 kEq c_2 w_28 .eql 3 (.tmp 77) (.const (.int .i64 0)) v77 (.int .i64 0) fun v78 w_29 =>
 kIf v78 (
 kLoad c_2 w_29 3 v11 fun v80 w_30 =>
 kLoad c_2 w_30 22 v7 fun v81 w_31 =>
 kBlt c_2 w_31 .len #[22] 3 #[false] #[v81] fun v82 w_32 =>
 kLoad c_2 w_32 3 v3 fun v83 w_33 =>
 kBlt c_2 w_33 .max #[3, 3] 3 #[true, false] #[(.int .i64 1), v83] fun v84 w_34 =>
 kBlt c_2 w_34 .min #[3, 3] 3 #[false, false] #[v82, v84] fun v85 w_35 =>
 kEq c_2 w_35 .neq 3 (.tmp 80) (.tmp 85) v80 v85 fun v86 w_36 =>
 kIf v86 (
 kIf (.bool true) (
 kStore c_2 w_36 4 v4 (.bool false) fun w_37 =>
 Lv Try.prog [.cell v4 4] R d_2 .returning w_37) (
 J_1 [] d_2 w_36)) (
 kLoad c_2 w_36 3 x10 fun v89 w_38 =>
 kEq c_2 w_38 .eql 3 (.tmp 89) (.const (.int .i64 1)) v89 (.int .i64 1) fun v90 w_39 =>
 kIf v90 (
 kLoad c_2 w_39 3 v11 fun v92 w_40 =>
 kLoad c_2 w_40 22 v7 fun v93 w_41 =>
 kBlt c_2 w_41 .len #[22] 3 #[false] #[v93] fun v94 w_42 =>
 kEq c_2 w_42 .neq 3 (.tmp 92) (.tmp 94) v92 v94 fun v95 w_43 =>
 kIf v95 (
 kStore c_2 w_43 4 v4 (.bool false) fun w_44 =>
 Lv Try.prog [.cell v4 4] R d_2 .returning w_44) (
 J_1 [] d_2 w_43)) (
 kIf (.bool false) (
 kStore c_2 w_39 4 v4 (.bool false) fun w_45 =>
 Lv Try.prog [.cell v4 4] R d_2 .returning w_45) (
 J_1 [] d_2 w_39)))) (
 kLoad c_2 w_29 3 x10 fun v89_1 w_46 =>
 kEq c_2 w_46 .eql 3 (.tmp 89) (.const (.int .i64 1)) v89_1 (.int .i64 1) fun v90_1 w_47 =>
 kIf v90_1 (
 kLoad c_2 w_47 3 v11 fun v92_1 w_48 =>
 kLoad c_2 w_48 22 v7 fun v93_1 w_49 =>
 kBlt c_2 w_49 .len #[22] 3 #[false] #[v93_1] fun v94_1 w_50 =>
 kEq c_2 w_50 .neq 3 (.tmp 92) (.tmp 94) v92_1 v94_1 fun v95_1 w_51 =>
 kIf v95_1 (
 kStore c_2 w_51 4 v4 (.bool false) fun w_52 =>
 Lv Try.prog [.cell v4 4] R d_2 .returning w_52) (
 J_1 [] d_2 w_51)) (
 kIf (.bool false) (
 kStore c_2 w_47 4 v4 (.bool false) fun w_53 =>
 Lv Try.prog [.cell v4 4] R d_2 .returning w_53) (
 J_1 [] d_2 w_47)))) ⟨Try.prog, fun ch w => Lv Try.prog [.cell v4 4] R d_2 (.panicking ch) w, false⟩)) (fun cs_2 d_1 w_18 => ∀ ds_2 : List Value,
 (fun (c_1 : Cx) =>
 kLoad c_1 w_18 3 x10 fun v98 w_19 =>
 kAlloc c_1 w_19 3 fun v10_1 w_20 =>
 kStore c_1 w_20 3 v10_1 v98 fun w_21 =>
 kLoad c_1 w_21 3 v10_1 fun v46 w_22 =>
 kBin c_1 w_22 .add 3 v46 (.int .i64 1) fun v47 w_23 =>
 kStore c_1 w_23 3 v10_1 v47 fun w_24 =>
 N [v10_1] d_1 w_24) ⟨Try.prog, fun ch w => Lv Try.prog [.cell v4 4] R d_1 (.panicking ch) w, false⟩)) (
 kCall c w_17 11 #[] fun v99_1 w_91 =>
 kStore c w_91 4 v4 v99_1 fun w_92 =>
 Lv Try.prog [.cell v4 4] R d .returning w_92)) ⟨Try.prog, fun ch w => Lv Try.prog [.cell v4 4] R d (.panicking ch) w, false⟩) (cs_1.getD 0 undef)))
theorem c5 (b : Option Addr) (bn : Nat) (bc : Nat) (many : Int) (R : Ending → World → Prop) (w : World) (h : vc5 b bn bc many R w) : Calls Try.prog 5 #[(.slice b bn bc), (.int .i64 many)] w R :=
  calls_of_vc (A := { loops := [(1000021, []), (1000019, []), (1000017, []), (0, [10]), (1000008, [])], pars := [], dvar := [0, 1000019, 1000021] }) (Eq.mpr (show FnVc Try.prog { loops := [(1000021, []), (1000019, []), (1000017, []), (0, [10]), (1000008, [])], pars := [], dvar := [0, 1000019, 1000021] } 100 5 [(.slice b bn bc), (.int .i64 many)] R w = vc5 b bn bc many R w by kernel_rfl) h)

/-- loupe/loupelaw11.few -/
def vc10 (l : Option Addr) (ln : Nat) (lc : Nat) (R : Ending → World → Prop) (w : World) : Prop :=
 kLoopF [(.int .i64 0)] w fun cs ds w_1 N =>
 (fun x3 =>
 kBlt (cR Try.prog R) w_1 .len #[22] 3 #[false] #[(.slice l ln lc)] fun v6 w_2 =>
 kBin (cR Try.prog R) w_2 .lss 3 x3 v6 fun v7 w_3 =>
 kIf v7 (
 kIa (cR Try.prog R) w_3 22 (.slice l ln lc) x3 fun v12 w_4 =>
 kFa (cR Try.prog R) w_4 49 v12 2 fun v13 w_5 =>
 kLoad (cR Try.prog R) w_5 9 v13 fun v14 w_6 =>
 kBlt (cR Try.prog R) w_6 .len #[9] 3 #[false] #[v14] fun v15 w_7 =>
 kBin (cR Try.prog R) w_7 .gtr 3 v15 (.int .i64 1100) fun v16 w_8 =>
 kIf v16 (
 R (.returned (.bool false)) w_8) (
 kBin (cR Try.prog R) w_8 .add 3 x3 (.int .i64 1) fun v9 w_9 =>
 kD [] [] (N [v9] w_9))) (
 kBlt (cR Try.prog R) w_3 .len #[22] 3 #[false] #[(.slice l ln lc)] fun v18 w_10 =>
 kBin (cR Try.prog R) w_10 .leq 3 v18 (.int .i64 40) fun v19 w_11 =>
 R (.returned v19) w_11)) (cs.getD 0 undef)
theorem c10 (l : Option Addr) (ln : Nat) (lc : Nat) (R : Ending → World → Prop) (w : World) (h : vc10 l ln lc R w) : Calls Try.prog 10 #[(.slice l ln lc)] w R :=
  calls_of_vc (A := { loops := [(0, [3])], pars := [] }) (Eq.mpr (show FnVc Try.prog { loops := [(0, [3])], pars := [] } 20 10 [(.slice l ln lc)] R w = vc10 l ln lc R w by kernel_rfl) h)

/-- loupe/loupelaw11.works -/
def vc11  (R : Ending → World → Prop) (w : World) : Prop :=
 kAlloc (cR Try.prog R) w 49 fun v1 w_1 =>
 kDrawn true (
 kDrawn true (
 kLoad (cQ Try.prog) w_1 49 v1 fun v11 w_2 =>
 kBuild (cQ Try.prog) w_2 49 #[(0, (.int .i64 3)), (2, (.string ⟨#[97, 98]⟩))] fun v13 w_3 =>
 kDrew w_3 fun w_4 =>
 (fun (c : Cx) =>
 kCall c w_4 32 #[(.int .i64 (-1))] fun v12 w_5 =>
 kLoad (cQ Try.prog) w_5 49 v1 fun v11_1 w_6 =>
 kSame v11_1 v11 (
 kBuild (cQ Try.prog) w_5 49 #[(0, (.int .i64 3)), (2, (.string ⟨#[97, 98]⟩))] fun v13_1 w_7 =>
 kSame v13_1 v13 (
 kDrew w_5 fun w_8 =>
 kBuildS c w_8 22 3 #[(0, v11), (1, v12), (2, v13)] fun v14 w_9 =>
 kDrew w_9 fun w_10 =>
 kCall c w_10 18 #[v14] fun v15 w_11 =>
 kExt v15 0 fun v16 =>
 kExt v15 1 fun v17 =>
 kDrew w_11 fun w_12 =>
 kBuildS (cR Try.prog R) w_12 38 4 #[(0, (.int .u8 1)), (1, (.int .u8 2)), (2, (.int .u8 128)), (3, (.int .u8 0))] fun v19 w_13 =>
 kCall (cR Try.prog R) w_13 19 #[v19] fun v20 w_14 =>
 kExt v20 0 fun v21 =>
 kExt v20 1 fun v22 =>
 kCall (cR Try.prog R) w_14 32 #[(.int .i64 1)] fun v24 w_15 =>
 kCall (cR Try.prog R) w_15 32 #[(.int .i64 2)] fun v25 w_16 =>
 kBuildS (cR Try.prog R) w_16 22 2 #[(0, v24), (1, v25)] fun v26 w_17 =>
 kBuildS (cR Try.prog R) w_17 23 3 #[(0, (.int .i64 1)), (1, (.int .i64 1)), (2, (.int .i64 0))] fun v27 w_18 =>
 kCall (cR Try.prog R) w_18 12 #[v26, v27] fun v28 w_19 =>
 kExt v28 0 fun v29 =>
 kExt v28 1 fun v30 =>
 kCall (cR Try.prog R) w_19 32 #[(.int .i64 1)] fun v32 w_20 =>
 kBuildS (cR Try.prog R) w_20 22 1 #[(0, v32)] fun v33 w_21 =>
 kBuildS (cR Try.prog R) w_21 23 1 #[(0, (.int .i64 1))] fun v34 w_22 =>
 kCall (cR Try.prog R) w_22 12 #[v33, v34] fun v35 w_23 =>
 kExt v35 0 fun v36 =>
 kExt v35 1 fun v37 =>
 kDrawn true (
 kDrawn true (
 kJn (fun J =>
 kConv (cQ Try.prog) w_23 38 9 v16 fun v39 w_24 =>
 kEq (cQ Try.prog) w_24 .eql 9 (.tmp 39) (.const (.string ⟨#[3, 0, 2, 1, 3, 2, 97, 98]⟩)) v39 (.string ⟨#[3, 0, 2, 1, 3, 2, 97, 98]⟩) fun v40 w_25 =>
 kIf v40 (
 kDrew w_25 fun w_26 =>
 kCall c w_26 15 #[v17] fun v43 w_27 =>
 kDrew w_27 fun w_28 =>
 kCall c w_28 15 #[v30] fun v45 w_29 =>
 kBin (cQ Try.prog) w_29 .add 3 v43 v45 fun v46 w_30 =>
 kEq (cQ Try.prog) w_30 .eql 3 (.tmp 46) (.const (.int .i64 0)) v46 (.int .i64 0) fun v47 w_31 =>
 kIf v47 (
 kDrew w_31 fun w_32 =>
 kCall c w_32 15 #[v22] fun v51 w_33 =>
 kEq (cQ Try.prog) w_33 .eql 3 (.tmp 51) (.const (.int .i64 210)) v51 (.int .i64 210) fun v52 w_34 =>
 kIf v52 (
 kDrew w_34 fun w_35 =>
 kCall c w_35 32 #[(.int .i64 2)] fun v56 w_36 =>
 kDrew w_36 fun w_37 =>
 kCall c w_37 32 #[(.int .i64 2)] fun v57 w_38 =>
 kDrew w_38 fun w_39 =>
 kCall c w_39 32 #[(.int .i64 1)] fun v58 w_40 =>
 kDrew w_40 fun w_41 =>
 kBuildS c w_41 22 3 #[(0, v56), (1, v57), (2, v58)] fun v59 w_42 =>
 kDrew w_42 fun w_43 =>
 kCall c w_43 14 #[v29, v59] fun v60 w_44 =>
 kIf v60 (
 kDrew w_44 fun w_45 =>
 kCall c w_45 15 #[v37] fun v64 w_46 =>
 kEq (cQ Try.prog) w_46 .eql 3 (.tmp 64) (.const (.int .i64 4)) v64 (.int .i64 4) fun v65 w_47 =>
 kIf v65 (
 kLoad (cQ Try.prog) w_47 49 v1 fun v69 w_48 =>
 kBoth (
 kDrew w_48 fun w_49 =>
 kCall c w_49 32 #[(.int .i64 1)] fun v68 w_50 =>
 kLoad (cQ Try.prog) w_50 49 v1 fun v69_1 w_51 =>
 kSame v69_1 v69 (
 kBoth (
 kDrew w_50 fun w_52 =>
 kBuildS c w_52 22 2 #[(0, v68), (1, v69)] fun v70 w_53 =>
 kDrew w_53 fun w_54 =>
 kBuildS c w_54 24 2 #[(0, (.int .i64 2)), (1, (.int .i64 3))] fun v71 w_55 =>
 kDrew w_55 fun w_56 =>
 kCall c w_56 16 #[v70, v71] fun v72 w_57 =>
 kIf v72 (
 kLoad (cQ Try.prog) w_57 49 v1 fun v75 w_58 =>
 kDrew w_58 fun w_59 =>
 kBuildS c w_59 22 1 #[(0, v75)] fun v76 w_60 =>
 kDrew w_60 fun w_61 =>
 kCall c w_61 33 #[v76] fun v77 w_62 =>
 kEq (cQ Try.prog) w_62 .eql 3 (.tmp 77) (.const (.int .i64 2)) v77 (.int .i64 2) fun v78 w_63 =>
 kDrew w_63 fun w_64 => J [v16, v39, v40, (.bool true), v17, v43, v30, v45, v46, v47, v47, (.bool true), v22, v51, v52, v52, (.bool true), v29, v56, v57, v58, v59, v60, v60, (.bool true), v37, v64, v65, v65, (.bool true), v68, v69, v70, v71, v72, v72, (.bool true), v75, v76, v77, v78, v78] w_64) (
 kDrew w_57 fun w_65 => J [v16, v39, v40, (.bool true), v17, v43, v30, v45, v46, v47, v47, (.bool true), v22, v51, v52, v52, (.bool true), v29, v56, v57, v58, v59, v60, v60, (.bool true), v37, v64, v65, v65, (.bool true), v68, v69, v70, v71, v72, v72, (.bool false), undef, undef, undef, undef, (.bool false)] w_65)) (
 kDrew w_50 fun w_66 =>
 kBuildS c w_66 24 2 #[(0, (.int .i64 2)), (1, (.int .i64 3))] fun v71_1 w_67 =>
 kLoad (cQ Try.prog) w_67 49 v1 fun v69_2 w_68 =>
 kSame v69_2 v69 (
 kDrew w_67 fun w_69 =>
 kBuildS c w_69 22 2 #[(0, v68), (1, v69)] fun v70_1 w_70 =>
 kDrew w_70 fun w_71 =>
 kCall c w_71 16 #[v70_1, v71_1] fun v72_1 w_72 =>
 kIf v72_1 (
 kLoad (cQ Try.prog) w_72 49 v1 fun v75_1 w_73 =>
 kDrew w_73 fun w_74 =>
 kBuildS c w_74 22 1 #[(0, v75_1)] fun v76_1 w_75 =>
 kDrew w_75 fun w_76 =>
 kCall c w_76 33 #[v76_1] fun v77_1 w_77 =>
 kEq (cQ Try.prog) w_77 .eql 3 (.tmp 77) (.const (.int .i64 2)) v77_1 (.int .i64 2) fun v78_1 w_78 =>
 kDrew w_78 fun w_79 => J [v16, v39, v40, (.bool true), v17, v43, v30, v45, v46, v47, v47, (.bool true), v22, v51, v52, v52, (.bool true), v29, v56, v57, v58, v59, v60, v60, (.bool true), v37, v64, v65, v65, (.bool true), v68, v69, v70_1, v71_1, v72_1, v72_1, (.bool true), v75_1, v76_1, v77_1, v78_1, v78_1] w_79) (
 kDrew w_72 fun w_80 => J [v16, v39, v40, (.bool true), v17, v43, v30, v45, v46, v47, v47, (.bool true), v22, v51, v52, v52, (.bool true), v29, v56, v57, v58, v59, v60, v60, (.bool true), v37, v64, v65, v65, (.bool true), v68, v69, v70_1, v71_1, v72_1, v72_1, (.bool false), undef, undef, undef, undef, (.bool false)] w_80))))) (
 kDrew w_48 fun w_81 =>
 kBuildS c w_81 24 2 #[(0, (.int .i64 2)), (1, (.int .i64 3))] fun v71_2 w_82 =>
 kLoad (cQ Try.prog) w_82 49 v1 fun v69_3 w_83 =>
 kSame v69_3 v69 (
 kDrew w_82 fun w_84 =>
 kCall c w_84 32 #[(.int .i64 1)] fun v68_1 w_85 =>
 kLoad (cQ Try.prog) w_85 49 v1 fun v69_4 w_86 =>
 kSame v69_4 v69 (
 kDrew w_85 fun w_87 =>
 kBuildS c w_87 22 2 #[(0, v68_1), (1, v69)] fun v70_2 w_88 =>
 kDrew w_88 fun w_89 =>
 kCall c w_89 16 #[v70_2, v71_2] fun v72_2 w_90 =>
 kIf v72_2 (
 kLoad (cQ Try.prog) w_90 49 v1 fun v75_2 w_91 =>
 kDrew w_91 fun w_92 =>
 kBuildS c w_92 22 1 #[(0, v75_2)] fun v76_2 w_93 =>
 kDrew w_93 fun w_94 =>
 kCall c w_94 33 #[v76_2] fun v77_2 w_95 =>
 kEq (cQ Try.prog) w_95 .eql 3 (.tmp 77) (.const (.int .i64 2)) v77_2 (.int .i64 2) fun v78_2 w_96 =>
 kDrew w_96 fun w_97 => J [v16, v39, v40, (.bool true), v17, v43, v30, v45, v46, v47, v47, (.bool true), v22, v51, v52, v52, (.bool true), v29, v56, v57, v58, v59, v60, v60, (.bool true), v37, v64, v65, v65, (.bool true), v68_1, v69, v70_2, v71_2, v72_2, v72_2, (.bool true), v75_2, v76_2, v77_2, v78_2, v78_2] w_97) (
 kDrew w_90 fun w_98 => J [v16, v39, v40, (.bool true), v17, v43, v30, v45, v46, v47, v47, (.bool true), v22, v51, v52, v52, (.bool true), v29, v56, v57, v58, v59, v60, v60, (.bool true), v37, v64, v65, v65, (.bool true), v68_1, v69, v70_2, v71_2, v72_2, v72_2, (.bool false), undef, undef, undef, undef, (.bool false)] w_98))))) (
 kBoth (
 kBoth (
 kDrew w_47 fun w_99 => J [v16, v39, v40, (.bool true), v17, v43, v30, v45, v46, v47, v47, (.bool true), v22, v51, v52, v52, (.bool true), v29, v56, v57, v58, v59, v60, v60, (.bool true), v37, v64, v65, v65, (.bool false), undef, undef, undef, undef, undef, (.bool false), (.bool false), undef, undef, undef, undef, (.bool false)] w_99) (
 kDrew w_47 fun w_100 => J [v16, v39, v40, (.bool true), v17, v43, v30, v45, v46, v47, v47, (.bool true), v22, v51, v52, v52, (.bool true), v29, v56, v57, v58, v59, v60, v60, (.bool true), v37, v64, v65, v65, (.bool false), undef, undef, undef, undef, undef, (.bool false), (.bool false), undef, undef, undef, undef, (.bool false)] w_100)) (
 kDrew w_47 fun w_101 => J [v16, v39, v40, (.bool true), v17, v43, v30, v45, v46, v47, v47, (.bool true), v22, v51, v52, v52, (.bool true), v29, v56, v57, v58, v59, v60, v60, (.bool true), v37, v64, v65, v65, (.bool false), undef, undef, undef, undef, undef, (.bool false), (.bool false), undef, undef, undef, undef, (.bool false)] w_101))) (
 kBoth (
 kBoth (
 kDrew w_44 fun w_102 => J [v16, v39, v40, (.bool true), v17, v43, v30, v45, v46, v47, v47, (.bool true), v22, v51, v52, v52, (.bool true), v29, v56, v57, v58, v59, v60, v60, (.bool false), undef, undef, undef, (.bool false), (.bool false), undef, undef, undef, undef, undef, (.bool false), (.bool false), undef, undef, undef, undef, (.bool false)] w_102) (
 kDrew w_44 fun w_103 => J [v16, v39, v40, (.bool true), v17, v43, v30, v45, v46, v47, v47, (.bool true), v22, v51, v52, v52, (.bool true), v29, v56, v57, v58, v59, v60, v60, (.bool false), undef, undef, undef, (.bool false), (.bool false), undef, undef, undef, undef, undef, (.bool false), (.bool false), undef, undef, undef, undef, (.bool false)] w_103)) (
 kDrew w_44 fun w_104 => J [v16, v39, v40, (.bool true), v17, v43, v30, v45, v46, v47, v47, (.bool true), v22, v51, v52, v52, (.bool true), v29, v56, v57, v58, v59, v60, v60, (.bool false), undef, undef, undef, (.bool false), (.bool false), undef, undef, undef, undef, undef, (.bool false), (.bool false), undef, undef, undef, undef, (.bool false)] w_104))) (
 kBoth (
 kBoth (
 kDrew w_34 fun w_105 => J [v16, v39, v40, (.bool true), v17, v43, v30, v45, v46, v47, v47, (.bool true), v22, v51, v52, v52, (.bool false), undef, undef, undef, undef, undef, undef, (.bool false), (.bool false), undef, undef, undef, (.bool false), (.bool false), undef, undef, undef, undef, undef, (.bool false), (.bool false), undef, undef, undef, undef, (.bool false)] w_105) (
 kDrew w_34 fun w_106 => J [v16, v39, v40, (.bool true), v17, v43, v30, v45, v46, v47, v47, (.bool true), v22, v51, v52, v52, (.bool false), undef, undef, undef, undef, undef, undef, (.bool false), (.bool false), undef, undef, undef, (.bool false), (.bool false), undef, undef, undef, undef, undef, (.bool false), (.bool false), undef, undef, undef, undef, (.bool false)] w_106)) (
 kDrew w_34 fun w_107 => J [v16, v39, v40, (.bool true), v17, v43, v30, v45, v46, v47, v47, (.bool true), v22, v51, v52, v52, (.bool false), undef, undef, undef, undef, undef, undef, (.bool false), (.bool false), undef, undef, undef, (.bool false), (.bool false), undef, undef, undef, undef, undef, (.bool false), (.bool false), undef, undef, undef, undef, (.bool false)] w_107))) (
 kBoth (
 kBoth (
 kDrew w_31 fun w_108 => J [v16, v39, v40, (.bool true), v17, v43, v30, v45, v46, v47, v47, (.bool false), undef, undef, undef, (.bool false), (.bool false), undef, undef, undef, undef, undef, undef, (.bool false), (.bool false), undef, undef, undef, (.bool false), (.bool false), undef, undef, undef, undef, undef, (.bool false), (.bool false), undef, undef, undef, undef, (.bool false)] w_108) (
 kDrew w_31 fun w_109 => J [v16, v39, v40, (.bool true), v17, v43, v30, v45, v46, v47, v47, (.bool false), undef, undef, undef, (.bool false), (.bool false), undef, undef, undef, undef, undef, undef, (.bool false), (.bool false), undef, undef, undef, (.bool false), (.bool false), undef, undef, undef, undef, undef, (.bool false), (.bool false), undef, undef, undef, undef, (.bool false)] w_109)) (
 kDrew w_31 fun w_110 => J [v16, v39, v40, (.bool true), v17, v43, v30, v45, v46, v47, v47, (.bool false), undef, undef, undef, (.bool false), (.bool false), undef, undef, undef, undef, undef, undef, (.bool false), (.bool false), undef, undef, undef, (.bool false), (.bool false), undef, undef, undef, undef, undef, (.bool false), (.bool false), undef, undef, undef, undef, (.bool false)] w_110))) (
 kBoth (
 kBoth (
 kDrew w_25 fun w_111 => J [v16, v39, v40, (.bool false), undef, undef, undef, undef, undef, undef, (.bool false), (.bool false), undef, undef, undef, (.bool false), (.bool false), undef, undef, undef, undef, undef, undef, (.bool false), (.bool false), undef, undef, undef, (.bool false), (.bool false), undef, undef, undef, undef, undef, (.bool false), (.bool false), undef, undef, undef, undef, (.bool false)] w_111) (
 kDrew w_25 fun w_112 => J [v16, v39, v40, (.bool false), undef, undef, undef, undef, undef, undef, (.bool false), (.bool false), undef, undef, undef, (.bool false), (.bool false), undef, undef, undef, undef, undef, undef, (.bool false), (.bool false), undef, undef, undef, (.bool false), (.bool false), undef, undef, undef, undef, undef, (.bool false), (.bool false), undef, undef, undef, undef, (.bool false)] w_112)) (
 kDrew w_25 fun w_113 => J [v16, v39, v40, (.bool false), undef, undef, undef, undef, undef, undef, (.bool false), (.bool false), undef, undef, undef, (.bool false), (.bool false), undef, undef, undef, undef, undef, undef, (.bool false), (.bool false), undef, undef, undef, (.bool false), (.bool false), undef, undef, undef, undef, undef, (.bool false), (.bool false), undef, undef, undef, undef, (.bool false)] w_113))) (fun cs w_114 =>
 (fun g41 =>
 R (.returned g41) w_114) (cs.getD 41 undef))))))) ⟨Try.prog, fun ch w => ∀ _ : List Value, R (.panicked ch) w, false⟩))
theorem c11  (R : Ending → World → Prop) (w : World) (h : vc11  R w) : Calls Try.prog 11 #[] w R :=
  calls_of_vc (A := { loops := [], pars := [], chs := [(2, (.q 0 (.q 2 (.e 1 (.e 3 (.e 4 (.q 5 (.q 6 (.q 7 (.q 8 .done)))))))))), (6, (.q 0 (.q 1 (.q 2 (.q 3 (.q 4 (.q 6 (.e 5 (.e 7 (.q 8 (.q 9 (.q 10 (.q 11 (.q 12 (.e 13 (.q 14 (.q 15 (.q 16 (.q 17 (.e 18 (.e 19 (.e 20 (.e 21 (.e 22 (.q 23 (.q 24 (.q 25 (.e 26 (.q 27 (.q 28 (.q 29 (.q 31 (.or 30 (.or 32 (.e 33 (.e 34 (.q 35 (.q 36 (.q 37 (.e 38 (.e 39 (.q 40 (.q 41 .done))))))))) (.e 33 (.e 32 (.e 34 (.q 35 (.q 36 (.q 37 (.e 38 (.e 39 (.q 40 (.q 41 .done))))))))))) (.e 33 (.e 30 (.e 32 (.e 34 (.q 35 (.q 36 (.q 37 (.e 38 (.e 39 (.q 40 (.q 41 .done))))))))))))))))))))))))))))))))))))))))))))] }) (Eq.mpr (show FnVc Try.prog { loops := [], pars := [], chs := [(2, (.q 0 (.q 2 (.e 1 (.e 3 (.e 4 (.q 5 (.q 6 (.q 7 (.q 8 .done)))))))))), (6, (.q 0 (.q 1 (.q 2 (.q 3 (.q 4 (.q 6 (.e 5 (.e 7 (.q 8 (.q 9 (.q 10 (.q 11 (.q 12 (.e 13 (.q 14 (.q 15 (.q 16 (.q 17 (.e 18 (.e 19 (.e 20 (.e 21 (.e 22 (.q 23 (.q 24 (.q 25 (.e 26 (.q 27 (.q 28 (.q 29 (.q 31 (.or 30 (.or 32 (.e 33 (.e 34 (.q 35 (.q 36 (.q 37 (.e 38 (.e 39 (.q 40 (.q 41 .done))))))))) (.e 33 (.e 32 (.e 34 (.q 35 (.q 36 (.q 37 (.e 38 (.e 39 (.q 40 (.q 41 .done))))))))))) (.e 33 (.e 30 (.e 32 (.e 34 (.q 35 (.q 36 (.q 37 (.e 38 (.e 39 (.q 40 (.q 41 .done))))))))))))))))))))))))))))))))))))))))))))] } 80 11 [] R w = vc11  R w by kernel_rfl) h)

/-- loupe/row.Pick -/
def vc12 (row : Option Addr) (rown : Nat) (rowc : Nat) (atA : Option Addr) (atAn : Nat) (atAc : Nat) (R : Ending → World → Prop) (w : World) : Prop :=
 kCall (cR Try.prog R) w 34 #[(.slice row rown rowc), (.slice atA atAn atAc)] fun v11 w_1 =>
 kExt v11 0 fun v12 =>
 kExt v11 1 fun v13 =>
 kUn (cR Try.prog R) w_1 .not v13 fun v15 w_2 =>
 kIf v15 (
 R (.returned (.tuple #[(.slice none 0 0), (.int .i64 4)])) w_2) (
 R (.returned (.tuple #[v12, (.int .i64 0)])) w_2)
theorem c12 (row : Option Addr) (rown : Nat) (rowc : Nat) (atA : Option Addr) (atAn : Nat) (atAc : Nat) (R : Ending → World → Prop) (w : World) (h : vc12 row rown rowc atA atAn atAc R w) : Calls Try.prog 12 #[(.slice row rown rowc), (.slice atA atAn atAc)] w R :=
  calls_of_vc (A := { loops := [], pars := [] }) (Eq.mpr (show FnVc Try.prog { loops := [], pars := [] } 17 12 [(.slice row rown rowc), (.slice atA atAn atAc)] R w = vc12 row rown rowc atA atAn atAc R w by kernel_rfl) h)

/-- loupe/louperef11.Pick -/
def vc13 (row : Option Addr) (rown : Nat) (rowc : Nat) (atA : Option Addr) (atAn : Nat) (atAc : Nat) (R : Ending → World → Prop) (w : World) : Prop :=
 kLoopF [(.slice none 0 0), (.int .i64 0)] w fun cs ds w_1 N =>
 (fun x6 x7 =>
 kBlt (cR Try.prog R) w_1 .len #[23] 3 #[false] #[(.slice atA atAn atAc)] fun v10 w_2 =>
 kBin (cR Try.prog R) w_2 .lss 3 x7 v10 fun v11 w_3 =>
 kIf v11 (
 kJn (fun J =>
 kIa (cR Try.prog R) w_3 23 (.slice atA atAn atAc) x7 fun v16 w_12 =>
 kLoad (cR Try.prog R) w_12 3 v16 fun v17 w_13 =>
 kBin (cR Try.prog R) w_13 .lss 3 v17 (.int .i64 0) fun v18 w_14 =>
 kIf v18 (
 kIf (.bool true) (
 R (.returned (.tuple #[(.slice none 0 0), (.bool false)])) w_14) (
 kD [] [] (J [] w_14))) (
 kIa (cR Try.prog R) w_14 23 (.slice atA atAn atAc) x7 fun v22 w_15 =>
 kLoad (cR Try.prog R) w_15 3 v22 fun v23 w_16 =>
 kBlt (cR Try.prog R) w_16 .len #[22] 3 #[false] #[(.slice row rown rowc)] fun v25 w_17 =>
 kBin (cR Try.prog R) w_17 .geq 3 v23 v25 fun v26 w_18 =>
 kIf v26 (
 R (.returned (.tuple #[(.slice none 0 0), (.bool false)])) w_18) (
 kD [] [] (J [] w_18)))) (fun cs_1 w_4 => ∀ ds_1 : List Value,
 kIa (cR Try.prog R) w_4 23 (.slice atA atAn atAc) x7 fun v32 w_5 =>
 kLoad (cR Try.prog R) w_5 3 v32 fun v33 w_6 =>
 kIa (cR Try.prog R) w_6 22 (.slice row rown rowc) v33 fun v34 w_7 =>
 kLoad (cR Try.prog R) w_7 49 v34 fun v35 w_8 =>
 kBuildS (cR Try.prog R) w_8 22 1 #[(0, v35)] fun v36 w_9 =>
 kBlt (cR Try.prog R) w_9 .append #[22, 22] 22 #[false, false] #[x6, v36] fun v37 w_10 =>
 kBin (cR Try.prog R) w_10 .add 3 x7 (.int .i64 1) fun v13 w_11 =>
 kD [] [] (N [v37, v13] w_11))) (
 R (.returned (.tuple #[x6, (.bool true)])) w_3)) (cs.getD 0 undef) (cs.getD 1 undef)
theorem c13 (row : Option Addr) (rown : Nat) (rowc : Nat) (atA : Option Addr) (atAn : Nat) (atAc : Nat) (R : Ending → World → Prop) (w : World) (h : vc13 row rown rowc atA atAn atAc R w) : Calls Try.prog 13 #[(.slice row rown rowc), (.slice atA atAn atAc)] w R :=
  calls_of_vc (A := { loops := [(1000007, []), (0, [6, 7])], pars := [] }) (Eq.mpr (show FnVc Try.prog { loops := [(1000007, []), (0, [6, 7])], pars := [] } 39 13 [(.slice row rown rowc), (.slice atA atAn atAc)] R w = vc13 row rown rowc atA atAn atAc R w by kernel_rfl) h)

/-- loupe/louperef11.Same -/
def vc14 (a : Option Addr) (an : Nat) (ac : Nat) (b : Option Addr) (bn : Nat) (bc : Nat) (R : Ending → World → Prop) (w : World) : Prop :=
 kCall (cR Try.prog R) w 35 #[(.slice a an ac), (.slice b bn bc)] fun v7 w_1 =>
 R (.returned v7) w_1
theorem c14 (a : Option Addr) (an : Nat) (ac : Nat) (b : Option Addr) (bn : Nat) (bc : Nat) (R : Ending → World → Prop) (w : World) (h : vc14 a an ac b bn bc R w) : Calls Try.prog 14 #[(.slice a an ac), (.slice b bn bc)] w R :=
  calls_of_vc (A := { loops := [], pars := [] }) (Eq.mpr (show FnVc Try.prog { loops := [], pars := [] } 8 14 [(.slice a an ac), (.slice b bn bc)] R w = vc14 a an ac b bn bc R w by kernel_rfl) h)

/-- loupe/loupelaw11.num -/
def vc15 (eA : Int) (R : Ending → World → Prop) (w : World) : Prop :=
 R (.returned (.int .i64 eA)) w
theorem c15 (eA : Int) (R : Ending → World → Prop) (w : World) (h : vc15 eA R w) : Calls Try.prog 15 #[(.int .i64 eA)] w R :=
  calls_of_vc (A := { loops := [], pars := [] }) (Eq.mpr (show FnVc Try.prog { loops := [], pars := [] } 4 15 [(.int .i64 eA)] R w = vc15 eA R w by kernel_rfl) h)

/-- loupe/row.Fits -/
def vc16 (row : Option Addr) (rown : Nat) (rowc : Nat) (t : Option Addr) (tn : Nat) (tc : Nat) (R : Ending → World → Prop) (w : World) : Prop :=
 kCall (cR Try.prog R) w 36 #[(.slice row rown rowc), (.slice t tn tc), (.func (.func 37) #[] #[])] fun v7 w_1 =>
 R (.returned v7) w_1
theorem c16 (row : Option Addr) (rown : Nat) (rowc : Nat) (t : Option Addr) (tn : Nat) (tc : Nat) (R : Ending → World → Prop) (w : World) (h : vc16 row rown rowc t tn tc R w) : Calls Try.prog 16 #[(.slice row rown rowc), (.slice t tn tc)] w R :=
  calls_of_vc (A := { loops := [], pars := [] }) (Eq.mpr (show FnVc Try.prog { loops := [], pars := [] } 8 16 [(.slice row rown rowc), (.slice t tn tc)] R w = vc16 row rown rowc t tn tc R w by kernel_rfl) h)

/-- loupe/louperef11.Fits -/
def vc17 (row : Option Addr) (rown : Nat) (rowc : Nat) (t : Option Addr) (tn : Nat) (tc : Nat) (R : Ending → World → Prop) (w : World) : Prop :=
 kBlt (cR Try.prog R) w .len #[22] 3 #[false] #[(.slice row rown rowc)] fun v7 w_1 =>
 kBlt (cR Try.prog R) w_1 .len #[23] 3 #[false] #[(.slice t tn tc)] fun v9 w_2 =>
 kEq (cR Try.prog R) w_2 .neq 3 (.tmp 7) (.tmp 9) v7 v9 fun v10 w_3 =>
 kIf v10 (
 R (.returned (.bool false)) w_3) (
 kLoopF [(.int .i64 0)] w_3 fun cs ds w_4 N =>
 (fun x5 =>
 kBlt (cR Try.prog R) w_4 .len #[22] 3 #[false] #[(.slice row rown rowc)] fun v13 w_5 =>
 kBin (cR Try.prog R) w_5 .lss 3 x5 v13 fun v14 w_6 =>
 kIf v14 (
 kDrawn true (
 kPar w_6 10 [[], [], [0, 1], [2], [], [], [4, 5], [6], [3, 7], [8]] (fun Inv Cl =>
 (∀ (S : Nat → Bool) (vs : Nat → Value) (w_7 : World), Inv S vs w_7 → Cl S → S 0 = false → (∀ j, j ∈ ([] : List Nat) → S j = true) →
 Inv (inc S 0) (setV vs 0 (.slice row rown rowc)) w_7) ∧
 (∀ (S_1 : Nat → Bool) (vs_1 : Nat → Value) (w_8 : World), Inv S_1 vs_1 w_8 → Cl S_1 → S_1 1 = false → (∀ j, j ∈ ([] : List Nat) → S_1 j = true) →
 Inv (inc S_1 1) (setV vs_1 1 x5) w_8) ∧
 (∀ (S_2 : Nat → Bool) (vs_2 : Nat → Value) (w_9 : World), Inv S_2 vs_2 w_9 → Cl S_2 → S_2 2 = false → (∀ j, j ∈ ([0, 1] : List Nat) → S_2 j = true) →
 kIa (cN Try.prog) w_9 22 (vs_2 0) (vs_2 1) fun v19 w_10 =>
 Inv (inc S_2 2) (setV vs_2 2 v19) w_10) ∧
 (∀ (S_3 : Nat → Bool) (vs_3 : Nat → Value) (w_11 : World), Inv S_3 vs_3 w_11 → Cl S_3 → S_3 3 = false → (∀ j, j ∈ ([2] : List Nat) → S_3 j = true) →
 kLoad (cN Try.prog) w_11 49 (vs_3 2) fun v20 w_12 =>
 Inv (inc S_3 3) (setV vs_3 3 v20) w_12) ∧
 (∀ (S_4 : Nat → Bool) (vs_4 : Nat → Value) (w_13 : World), Inv S_4 vs_4 w_13 → Cl S_4 → S_4 4 = false → (∀ j, j ∈ ([] : List Nat) → S_4 j = true) →
 Inv (inc S_4 4) (setV vs_4 4 (.slice t tn tc)) w_13) ∧
 (∀ (S_5 : Nat → Bool) (vs_5 : Nat → Value) (w_14 : World), Inv S_5 vs_5 w_14 → Cl S_5 → S_5 5 = false → (∀ j, j ∈ ([] : List Nat) → S_5 j = true) →
 Inv (inc S_5 5) (setV vs_5 5 x5) w_14) ∧
 (∀ (S_6 : Nat → Bool) (vs_6 : Nat → Value) (w_15 : World), Inv S_6 vs_6 w_15 → Cl S_6 → S_6 6 = false → (∀ j, j ∈ ([4, 5] : List Nat) → S_6 j = true) →
 kIa (cN Try.prog) w_15 23 (vs_6 4) (vs_6 5) fun v23 w_16 =>
 Inv (inc S_6 6) (setV vs_6 6 v23) w_16) ∧
 (∀ (S_7 : Nat → Bool) (vs_7 : Nat → Value) (w_17 : World), Inv S_7 vs_7 w_17 → Cl S_7 → S_7 7 = false → (∀ j, j ∈ ([6] : List Nat) → S_7 j = true) →
 kLoad (cN Try.prog) w_17 3 (vs_7 6) fun v24 w_18 =>
 Inv (inc S_7 7) (setV vs_7 7 v24) w_18) ∧
 (∀ (S_8 : Nat → Bool) (vs_8 : Nat → Value) (w_19 : World), Inv S_8 vs_8 w_19 → Cl S_8 → S_8 8 = false → (∀ j, j ∈ ([3, 7] : List Nat) → S_8 j = true) →
 kCall (cN Try.prog) w_19 38 #[(vs_8 3), (vs_8 7)] fun v25 w_20 =>
 Inv (inc S_8 8) (setV vs_8 8 v25) w_20) ∧
 (∀ (S_9 : Nat → Bool) (vs_9 : Nat → Value) (w_21 : World), Inv S_9 vs_9 w_21 → Cl S_9 → S_9 9 = false → (∀ j, j ∈ ([8] : List Nat) → S_9 j = true) →
 kUn (cN Try.prog) w_21 .not (vs_9 8) fun v26 w_22 =>
 Inv (inc S_9 9) (setV vs_9 9 v26) w_22) ∧
 True) (fun vs_10 w_23 =>
 kIf (vs_10 9) (
 R (.returned (.bool false)) w_23) (
 kBin (cR Try.prog R) w_23 .add 3 x5 (.int .i64 1) fun v16 w_24 =>
 kD [] [] (N [v16] w_24))))) (
 R (.returned (.bool true)) w_6)) (cs.getD 0 undef))
theorem c17 (row : Option Addr) (rown : Nat) (rowc : Nat) (t : Option Addr) (tn : Nat) (tc : Nat) (R : Ending → World → Prop) (w : World) (h : vc17 row rown rowc t tn tc R w) : Calls Try.prog 17 #[(.slice row rown rowc), (.slice t tn tc)] w R :=
  calls_of_vc (A := { loops := [(0, [5])], pars := [6] }) (Eq.mpr (show FnVc Try.prog { loops := [(0, [5])], pars := [6] } 27 17 [(.slice row rown rowc), (.slice t tn tc)] R w = vc17 row rown rowc t tn tc R w by kernel_rfl) h)

/-- loupe/row.Encode -/
def vc18 (row : Option Addr) (rown : Nat) (rowc : Nat) (R : Ending → World → Prop) (w : World) : Prop :=
 kAlloc (cR Try.prog R) w 38 fun v2 w_1 =>
 kAlloc (cR Try.prog R) w_1 28 fun v3 w_2 =>
 (fun (c : Cx) =>
 kCall c w_2 41 #[(.slice row rown rowc)] fun v6 w_3 =>
 kStore c w_3 38 v2 v6 fun w_4 =>
 kStore c w_4 28 v3 (.int .i64 0) fun w_5 =>
 Lv Try.prog [.cell v2 38, .cell v3 28] R [{ target := .fn (.func 39) #[], args := #[v3, (.func (.func 40) #[] #[v2])] }] .returning w_5) ⟨Try.prog, fun ch w => Lv Try.prog [.cell v2 38, .cell v3 28] R [{ target := .fn (.func 39) #[], args := #[v3, (.func (.func 40) #[] #[v2])] }] (.panicking ch) w, false⟩
theorem c18 (row : Option Addr) (rown : Nat) (rowc : Nat) (R : Ending → World → Prop) (w : World) (h : vc18 row rown rowc R w) : Calls Try.prog 18 #[(.slice row rown rowc)] w R :=
  calls_of_vc (A := { loops := [], pars := [] }) (Eq.mpr (show FnVc Try.prog { loops := [], pars := [] } 7 18 [(.slice row rown rowc)] R w = vc18 row rown rowc R w by kernel_rfl) h)

/-- loupe/row.Decode -/
def vc19 (b : Option Addr) (bn : Nat) (bc : Nat) (R : Ending → World → Prop) (w : World) : Prop :=
 kAlloc (cR Try.prog R) w 22 fun v2 w_1 =>
 kAlloc (cR Try.prog R) w_1 28 fun v3 w_2 =>
 (fun (c : Cx) =>
 kBuild c w_2 81 #[(0, (.slice b bn bc))] fun v9 w_3 =>
 kBuild c w_3 83 #[(0, v9)] fun v10 w_4 =>
 kBox c w_4 83 v10 fun v11 w_5 =>
 kCall c w_5 43 #[v11] fun v13 w_6 =>
 kBin c w_6 .leq 84 v13 (.int .u64 32) fun v15 w_7 =>
 kCall c w_7 44 #[v15, (.int .i64 210)] fun v16 w_8 =>
 kLoopF [(.int .u64 0)] w_8 fun cs ds w_9 N =>
 (fun x18 =>
 kBin c w_9 .lss 84 x18 v13 fun v19 w_10 =>
 kIf v19 (
 kDrawn true (
 kDrawn true (
 kLoad (cQ Try.prog) w_10 22 v2 fun v20 w_11 =>
 kDrew w_11 fun w_12 =>
 (fun (c_1 : Cx) =>
 kCall c_1 w_12 45 #[v11] fun v22 w_13 =>
 kLoad (cQ Try.prog) w_13 22 v2 fun v20_1 w_14 =>
 kSame v20_1 v20 (
 kDrew w_13 fun w_15 =>
 kBuildS c_1 w_15 22 1 #[(0, v22)] fun v23 w_16 =>
 kLoad (cQ Try.prog) w_16 22 v2 fun v20_2 w_17 =>
 kSame v20_2 v20 (
 kDrew w_16 fun w_18 =>
 kBlt c_1 w_18 .append #[22, 22] 22 #[false, false] #[v20, v23] fun v24 w_19 =>
 kDrew w_19 fun w_20 =>
 kStore c w_20 22 v2 v24 fun w_21 =>
 kBin c w_21 .add 84 x18 (.int .u64 1) fun v25 w_22 =>
 kD [{ target := .fn (.func 39) #[], args := #[v3, (.func (.func 42) #[] #[v2])] }] [{ target := .fn (.func 39) #[], args := #[v3, (.func (.func 42) #[] #[v2])] }] (N [v25] w_22)))) ⟨Try.prog, fun ch w => ∀ _ : List Value, Lv Try.prog [.cell v2 22, .cell v3 28] R [{ target := .fn (.func 39) #[], args := #[v3, (.func (.func 42) #[] #[v2])] }] (.panicking ch) w, false⟩))) (
 kLoad c w_10 22 v2 fun v27 w_23 =>
 kCall c w_23 18 #[v27] fun v28 w_24 =>
 kExt v28 0 fun v29 =>
 kExt v28 1 fun v30 =>
 kStore c w_24 28 v3 v30 fun w_25 =>
 kLoad c w_25 28 v3 fun v31 w_26 =>
 kEq c w_26 .eql 28 (.tmp 31) (.const (.int .i64 0)) v31 (.int .i64 0) fun v32 w_27 =>
 kIf v32 (
 kCall c w_27 46 #[v29, (.slice b bn bc)] fun v36 w_28 =>
 kCall c w_28 44 #[v36, (.int .i64 210)] fun v38 w_29 =>
 kLoad c w_29 22 v2 fun v39 w_30 =>
 kStore c w_30 22 v2 v39 fun w_31 =>
 kStore c w_31 28 v3 (.int .i64 0) fun w_32 =>
 Lv Try.prog [.cell v2 22, .cell v3 28] R [{ target := .fn (.func 39) #[], args := #[v3, (.func (.func 42) #[] #[v2])] }] .returning w_32) (
 kCall c w_27 44 #[(.bool false), (.int .i64 210)] fun v38_1 w_33 =>
 kLoad c w_33 22 v2 fun v39_1 w_34 =>
 kStore c w_34 22 v2 v39_1 fun w_35 =>
 kStore c w_35 28 v3 (.int .i64 0) fun w_36 =>
 Lv Try.prog [.cell v2 22, .cell v3 28] R [{ target := .fn (.func 39) #[], args := #[v3, (.func (.func 42) #[] #[v2])] }] .returning w_36))) (cs.getD 0 undef)) ⟨Try.prog, fun ch w => Lv Try.prog [.cell v2 22, .cell v3 28] R [{ target := .fn (.func 39) #[], args := #[v3, (.func (.func 42) #[] #[v2])] }] (.panicking ch) w, false⟩
theorem c19 (b : Option Addr) (bn : Nat) (bc : Nat) (R : Ending → World → Prop) (w : World) (h : vc19 b bn bc R w) : Calls Try.prog 19 #[(.slice b bn bc)] w R :=
  calls_of_vc (A := { loops := [(0, [18])], pars := [], chs := [(7, (.q 0 (.q 1 (.e 2 (.e 3 (.e 4 .done))))))] }) (Eq.mpr (show FnVc Try.prog { loops := [(0, [18])], pars := [], chs := [(7, (.q 0 (.q 1 (.e 2 (.e 3 (.e 4 .done))))))] } 40 19 [(.slice b bn bc)] R w = vc19 b bn bc R w by kernel_rfl) h)

/-- loupe/louperef11.Decode -/
def vc20 (b : Option Addr) (bn : Nat) (bc : Nat) (R : Ending → World → Prop) (w : World) : Prop :=
 kCall (cR Try.prog R) w 47 #[(.slice b bn bc)] fun v14 w_1 =>
 kExt v14 0 fun v15 =>
 kExt v14 1 fun v16 =>
 kExt v14 2 fun v17 =>
 kJn (fun J =>
 kEq (cR Try.prog R) w_1 .neq 3 (.tmp 18) (.const (.int .i64 0)) v17 (.int .i64 0) fun v19 w_23 =>
 kIf v19 (
 kIf (.bool true) (
 R (.returned (.tuple #[(.slice none 0 0), (.int .i64 210)])) w_23) (
 kD [] [] (J [] w_23))) (
 kBin (cR Try.prog R) w_23 .gtr 84 v15 (.int .u64 32) fun v22 w_24 =>
 kIf v22 (
 R (.returned (.tuple #[(.slice none 0 0), (.int .i64 210)])) w_24) (
 kD [] [] (J [] w_24)))) (fun cs w_2 => ∀ ds : List Value,
 kLoopF [(.slice none 0 0), v16, (.int .i64 0)] w_2 fun cs_1 ds_1 w_3 N =>
 (fun x7 x5 x8 =>
 kConv (cR Try.prog R) w_3 84 3 v15 fun v26 w_4 =>
 kBin (cR Try.prog R) w_4 .lss 3 x8 v26 fun v27 w_5 =>
 kIf v27 (
 kSl (cR Try.prog R) w_5 38 (.slice b bn bc) (some x5) none none fun v33 w_6 =>
 kCall (cR Try.prog R) w_6 48 #[v33] fun v34 w_7 =>
 kExt v34 0 fun v35 =>
 kExt v34 1 fun v36 =>
 kAlloc (cR Try.prog R) w_7 49 fun v9 w_8 =>
 kStore (cR Try.prog R) w_8 49 v9 v35 fun w_9 =>
 kEq (cR Try.prog R) w_9 .eql 3 (.tmp 37) (.const (.int .i64 0)) v36 (.int .i64 0) fun v38 w_10 =>
 kIf v38 (
 R (.returned (.tuple #[(.slice none 0 0), (.int .i64 210)])) w_10) (
 kLoad (cR Try.prog R) w_10 49 v9 fun v40 w_11 =>
 kBuildS (cR Try.prog R) w_11 22 1 #[(0, v40)] fun v41 w_12 =>
 kBlt (cR Try.prog R) w_12 .append #[22, 22] 22 #[false, false] #[x7, v41] fun v42 w_13 =>
 kBin (cR Try.prog R) w_13 .add 3 x5 v36 fun v45 w_14 =>
 kBin (cR Try.prog R) w_14 .add 3 x8 (.int .i64 1) fun v29 w_15 =>
 kD [] [] (N [v42, v45, v29] w_15))) (
 kCall (cR Try.prog R) w_5 49 #[x7] fun v48 w_16 =>
 kExt v48 0 fun v49 =>
 kExt v48 1 fun v50 =>
 kEq (cR Try.prog R) w_16 .neq 3 (.tmp 51) (.const (.int .i64 0)) v50 (.int .i64 0) fun v52 w_17 =>
 kIf v52 (
 kIf (.bool true) (
 R (.returned (.tuple #[(.slice none 0 0), (.int .i64 210)])) w_17) (
 R (.returned (.tuple #[x7, (.int .i64 0)])) w_17)) (
 kBlt (cR Try.prog R) w_17 .len #[38] 3 #[false] #[(.slice b bn bc)] fun v56 w_18 =>
 kEq (cR Try.prog R) w_18 .neq 3 (.tmp 54) (.tmp 56) x5 v56 fun v57 w_19 =>
 kIf v57 (
 kIf (.bool true) (
 R (.returned (.tuple #[(.slice none 0 0), (.int .i64 210)])) w_19) (
 R (.returned (.tuple #[x7, (.int .i64 0)])) w_19)) (
 kConv (cR Try.prog R) w_19 38 9 v49 fun v61 w_20 =>
 kConv (cR Try.prog R) w_20 38 9 (.slice b bn bc) fun v63 w_21 =>
 kEq (cR Try.prog R) w_21 .neq 9 (.tmp 61) (.tmp 63) v61 v63 fun v64 w_22 =>
 kIf v64 (
 R (.returned (.tuple #[(.slice none 0 0), (.int .i64 210)])) w_22) (
 R (.returned (.tuple #[x7, (.int .i64 0)])) w_22))))) (cs_1.getD 0 undef) (cs_1.getD 1 undef) (cs_1.getD 2 undef))
theorem c20 (b : Option Addr) (bn : Nat) (bc : Nat) (R : Ending → World → Prop) (w : World) (h : vc20 b bn bc R w) : Calls Try.prog 20 #[(.slice b bn bc)] w R :=
  calls_of_vc (A := { loops := [(0, [7, 5, 8]), (1000004, [])], pars := [] }) (Eq.mpr (show FnVc Try.prog { loops := [(0, [7, 5, 8]), (1000004, [])], pars := [] } 67 20 [(.slice b bn bc)] R w = vc20 b bn bc R w by kernel_rfl) h)

/-- loupe/row.Columns -/
def vc21 (b : Option Addr) (bn : Nat) (bc : Nat) (R : Ending → World → Prop) (w : World) : Prop :=
 kCall (cR Try.prog R) w 19 #[(.slice b bn bc)] fun v7 w_1 =>
 kExt v7 0 fun v8 =>
 kExt v7 1 fun v9 =>
 kAlloc (cR Try.prog R) w_1 22 fun v3 w_2 =>
 kStore (cR Try.prog R) w_2 22 v3 v8 fun w_3 =>
 R (.returned (.func (.func 50) #[] #[v3])) w_3
theorem c21 (b : Option Addr) (bn : Nat) (bc : Nat) (R : Ending → World → Prop) (w : World) (h : vc21 b bn bc R w) : Calls Try.prog 21 #[(.slice b bn bc)] w R :=
  calls_of_vc (A := { loops := [], pars := [] }) (Eq.mpr (show FnVc Try.prog { loops := [], pars := [] } 11 21 [(.slice b bn bc)] R w = vc21 b bn bc R w by kernel_rfl) h)

/-- loupe/loupelaw11.of -/
def vc32 (n : Int) (R : Ending → World → Prop) (w : World) : Prop :=
 kAlloc (cR Try.prog R) w 49 fun v2 w_1 =>
 kBuild (cR Try.prog R) w_1 49 #[(0, (.int .i64 2)), (1, (.int .i64 n))] fun v4 w_2 =>
 kStore (cR Try.prog R) w_2 49 v2 v4 fun w_3 =>
 RetK Try.prog [.cell v2 49] R w_3
theorem c32 (n : Int) (R : Ending → World → Prop) (w : World) (h : vc32 n R w) : Calls Try.prog 32 #[(.int .i64 n)] w R :=
  calls_of_vc (A := { loops := [], pars := [] }) (Eq.mpr (show FnVc Try.prog { loops := [], pars := [] } 5 32 [(.int .i64 n)] R w = vc32 n R w by kernel_rfl) h)

/-- loupe/row.Width -/
def vc33 (row : Option Addr) (rown : Nat) (rowc : Nat) (R : Ending → World → Prop) (w : World) : Prop :=
 kCall (cR Try.prog R) w 18 #[(.slice row rown rowc)] fun v7 w_1 =>
 kExt v7 0 fun v8 =>
 kExt v7 1 fun v9 =>
 kBlt (cR Try.prog R) w_1 .len #[38] 3 #[false] #[v8] fun v11 w_2 =>
 R (.returned v11) w_2
theorem c33 (row : Option Addr) (rown : Nat) (rowc : Nat) (R : Ending → World → Prop) (w : World) (h : vc33 row rown rowc R w) : Calls Try.prog 33 #[(.slice row rown rowc)] w R :=
  calls_of_vc (A := { loops := [], pars := [] }) (Eq.mpr (show FnVc Try.prog { loops := [], pars := [] } 12 33 [(.slice row rown rowc)] R w = vc33 row rown rowc R w by kernel_rfl) h)

/-- loupe/row.picked[loupe/api.Value] -/
def vc34 (l : Option Addr) (ln : Nat) (lc : Nat) (atA : Option Addr) (atAn : Nat) (atAc : Nat) (R : Ending → World → Prop) (w : World) : Prop :=
 kBlt (cR Try.prog R) w .len #[23] 3 #[false] #[(.slice atA atAn atAc)] fun v9 w_1 =>
 kLoopF [(.slice none 0 0), (.int .i64 0)] w_1 fun cs ds w_2 N =>
 (fun x4 x10 =>
 kBin (cR Try.prog R) w_2 .lss 3 x10 v9 fun v11 w_3 =>
 kIf v11 (
 kIa (cR Try.prog R) w_3 23 (.slice atA atAn atAc) x10 fun v12 w_4 =>
 kLoad (cR Try.prog R) w_4 3 v12 fun v13 w_5 =>
 kJn (fun J =>
 kBin (cR Try.prog R) w_5 .lss 3 v13 (.int .i64 0) fun v15 w_12 =>
 kIf v15 (
 kIf (.bool true) (
 R (.returned (.tuple #[(.slice none 0 0), (.bool false)])) w_12) (
 kD [] [] (J [x4] w_12))) (
 kBlt (cR Try.prog R) w_12 .len #[22] 3 #[false] #[(.slice l ln lc)] fun v19 w_13 =>
 kBin (cR Try.prog R) w_13 .geq 3 v13 v19 fun v20 w_14 =>
 kIf v20 (
 R (.returned (.tuple #[(.slice none 0 0), (.bool false)])) w_14) (
 kD [] [] (J [x4] w_14)))) (fun cs_1 w_6 => ∀ ds_1 : List Value,
 (fun j4 =>
 kIa (cR Try.prog R) w_6 22 (.slice l ln lc) v13 fun v25 w_7 =>
 kLoad (cR Try.prog R) w_7 49 v25 fun v26 w_8 =>
 kBuildS (cR Try.prog R) w_8 22 1 #[(0, v26)] fun v27 w_9 =>
 kBlt (cR Try.prog R) w_9 .append #[22, 22] 22 #[false, false] #[j4, v27] fun v28 w_10 =>
 kBin (cR Try.prog R) w_10 .add 3 x10 (.int .i64 1) fun v29 w_11 =>
 kD [] [] (N [v28, v29] w_11)) (cs_1.getD 0 undef))) (
 R (.returned (.tuple #[x4, (.bool true)])) w_3)) (cs.getD 0 undef) (cs.getD 1 undef)
theorem c34 (l : Option Addr) (ln : Nat) (lc : Nat) (atA : Option Addr) (atAn : Nat) (atAc : Nat) (R : Ending → World → Prop) (w : World) (h : vc34 l ln lc atA atAn atAc R w) : Calls Try.prog 34 #[(.slice l ln lc), (.slice atA atAn atAc)] w R :=
  calls_of_vc (A := { loops := [(1000006, [4]), (0, [4, 10])], pars := [] }) (Eq.mpr (show FnVc Try.prog { loops := [(1000006, [4]), (0, [4, 10])], pars := [] } 31 34 [(.slice l ln lc), (.slice atA atAn atAc)] R w = vc34 l ln lc atA atAn atAc R w by kernel_rfl) h)

/-- loupe/louperef10.Same -/
def vc35 (a : Option Addr) (an : Nat) (ac : Nat) (b : Option Addr) (bn : Nat) (bc : Nat) (R : Ending → World → Prop) (w : World) : Prop :=
 kCall (cR Try.prog R) w 76 #[(.slice a an ac), (.slice b bn bc)] fun v7 w_1 =>
 kEq (cR Try.prog R) w_1 .eql 3 (.tmp 7) (.const (.int .i64 0)) v7 (.int .i64 0) fun v8 w_2 =>
 R (.returned v8) w_2
theorem c35 (a : Option Addr) (an : Nat) (ac : Nat) (b : Option Addr) (bn : Nat) (bc : Nat) (R : Ending → World → Prop) (w : World) (h : vc35 a an ac b bn bc R w) : Calls Try.prog 35 #[(.slice a an ac), (.slice b bn bc)] w R :=
  calls_of_vc (A := { loops := [], pars := [] }) (Eq.mpr (show FnVc Try.prog { loops := [], pars := [] } 9 35 [(.slice a an ac), (.slice b bn bc)] R w = vc35 a an ac b bn bc R w by kernel_rfl) h)

/-- slices.EqualFunc[[]loupe/api.Value,[]loupe/api.Type,loupe/api.Value,loupe/api.Type] -/
def vc36 (s1 : Option Addr) (s1n : Nat) (s1c : Nat) (s2 : Option Addr) (s2n : Nat) (s2c : Nat) (eq : Value) (R : Ending → World → Prop) (w : World) : Prop :=
 kBlt (cR Try.prog R) w .len #[22] 3 #[false] #[(.slice s1 s1n s1c)] fun v11 w_1 =>
 kBlt (cR Try.prog R) w_1 .len #[24] 3 #[false] #[(.slice s2 s2n s2c)] fun v13 w_2 =>
 kEq (cR Try.prog R) w_2 .neq 3 (.tmp 11) (.tmp 13) v11 v13 fun v14 w_3 =>
 kIf v14 (
 R (.returned (.bool false)) w_3) (
 kBlt (cR Try.prog R) w_3 .len #[22] 3 #[false] #[(.slice s1 s1n s1c)] fun v16 w_4 =>
 kLoopF [(.int .i64 0)] w_4 fun cs ds w_5 N =>
 (fun x17 =>
 kBin (cR Try.prog R) w_5 .lss 3 x17 v16 fun v18 w_6 =>
 kIf v18 (
 kIa (cR Try.prog R) w_6 22 (.slice s1 s1n s1c) x17 fun v20 w_7 =>
 kLoad (cR Try.prog R) w_7 49 v20 fun v21 w_8 =>
 kAlloc (cR Try.prog R) w_8 49 fun v8 w_9 =>
 kStore (cR Try.prog R) w_9 49 v8 v21 fun w_10 =>
 kIa (cR Try.prog R) w_10 24 (.slice s2 s2n s2c) x17 fun v24 w_11 =>
 kLoad (cR Try.prog R) w_11 27 v24 fun v25 w_12 =>
 kLoad (cR Try.prog R) w_12 49 v8 fun v27 w_13 =>
 kCallV (cR Try.prog R) w_13 eq #[v27, v25] fun v29 w_14 =>
 kUn (cR Try.prog R) w_14 .not v29 fun v30 w_15 =>
 kIf v30 (
 R (.returned (.bool false)) w_15) (
 kBin (cR Try.prog R) w_15 .add 3 x17 (.int .i64 1) fun v31 w_16 =>
 kD [] [] (N [v31] w_16))) (
 R (.returned (.bool true)) w_6)) (cs.getD 0 undef))
theorem c36 (s1 : Option Addr) (s1n : Nat) (s1c : Nat) (s2 : Option Addr) (s2n : Nat) (s2c : Nat) (eq : Value) (R : Ending → World → Prop) (w : World) (h : vc36 s1 s1n s1c s2 s2n s2c eq R w) : Calls Try.prog 36 #[(.slice s1 s1n s1c), (.slice s2 s2n s2c), eq] w R :=
  calls_of_vc (A := { loops := [(0, [17])], pars := [] }) (Eq.mpr (show FnVc Try.prog { loops := [(0, [17])], pars := [] } 32 36 [(.slice s1 s1n s1c), (.slice s2 s2n s2c), eq] R w = vc36 s1 s1n s1c s2 s2n s2c eq R w by kernel_rfl) h)

/-- loupe/value.Is -/
def vc37 (v0 : Int) (v1 : Int) (v2 : ByteArray) (t : Int) (R : Ending → World → Prop) (w : World) : Prop :=
 kBox (cR Try.prog R) w 49 (.agg #[(.int .i64 v0), (.int .i64 v1), (.string v2)]) fun v2_1 w_1 =>
 kJn (fun J =>
 kBin (cR Try.prog R) w_1 .leq 27 (.int .i64 t) (.int .i64 0) fun v6 w_9 =>
 kIf v6 (
 kIf (.bool true) (
 R (.returned (.bool false)) w_9) (
 kD [] [] (J [] w_9))) (
 kBin (cR Try.prog R) w_9 .gtr 27 (.int .i64 t) (.int .i64 4) fun v9 w_10 =>
 kIf v9 (
 kIf (.bool true) (
 R (.returned (.bool false)) w_10) (
 kD [] [] (J [] w_10))) (
 kLoad (cR Try.prog R) w_10 49 v2_1 fun v12 w_11 =>
 kCall (cR Try.prog R) w_11 57 #[v12] fun v13 w_12 =>
 kEq (cR Try.prog R) w_12 .neq 28 (.tmp 13) (.const (.int .i64 0)) v13 (.int .i64 0) fun v14 w_13 =>
 kIf v14 (
 R (.returned (.bool false)) w_13) (
 kD [] [] (J [] w_13))))) (fun cs w_2 => ∀ ds : List Value,
 kFa (cR Try.prog R) w_2 49 v2_1 0 fun v16 w_3 =>
 kLoad (cR Try.prog R) w_3 47 v16 fun v17 w_4 =>
 kEq (cR Try.prog R) w_4 .eql 47 (.tmp 17) (.const (.int .i64 0)) v17 (.int .i64 0) fun v18 w_5 =>
 kIf v18 (
 R (.returned (.bool true)) w_5) (
 kFa (cR Try.prog R) w_5 49 v2_1 0 fun v20 w_6 =>
 kLoad (cR Try.prog R) w_6 47 v20 fun v21 w_7 =>
 kEq (cR Try.prog R) w_7 .eql 3 (.tmp 21) (.tmp 22) v21 (.int .i64 t) fun v23 w_8 =>
 R (.returned v23) w_8))
theorem c37 (v0 : Int) (v1 : Int) (v2 : ByteArray) (t : Int) (R : Ending → World → Prop) (w : World) (h : vc37 v0 v1 v2 t R w) : Calls Try.prog 37 #[(.agg #[(.int .i64 v0), (.int .i64 v1), (.string v2)]), (.int .i64 t)] w R :=
  calls_of_vc (A := { loops := [(1000003, [])], pars := [] }) (Eq.mpr (show FnVc Try.prog { loops := [(1000003, [])], pars := [] } 25 37 [(.agg #[(.int .i64 v0), (.int .i64 v1), (.string v2)]), (.int .i64 t)] R w = vc37 v0 v1 v2 t R w by kernel_rfl) h)

/-- loupe/louperef01.Is -/
def vc38 (v0 : Int) (v1 : Int) (v2 : ByteArray) (t : Int) (R : Ending → World → Prop) (w : World) : Prop :=
 kBox (cR Try.prog R) w 49 (.agg #[(.int .i64 v0), (.int .i64 v1), (.string v2)]) fun v2_1 w_1 =>
 kLoad (cR Try.prog R) w_1 49 v2_1 fun v5 w_2 =>
 kCall (cR Try.prog R) w_2 64 #[v5] fun v6 w_3 =>
 kEq (cR Try.prog R) w_3 .eql 3 (.tmp 6) (.const (.int .i64 0)) v6 (.int .i64 0) fun v7 w_4 =>
 kIf v7 (
 kBin (cR Try.prog R) w_4 .geq 3 (.int .i64 t) (.int .i64 1) fun v10 w_5 =>
 kIf v10 (
 kBin (cR Try.prog R) w_5 .leq 3 (.int .i64 t) (.int .i64 4) fun v14 w_6 =>
 kIf v14 (
 kFa (cR Try.prog R) w_6 49 v2_1 0 fun v17 w_7 =>
 kLoad (cR Try.prog R) w_7 47 v17 fun v18 w_8 =>
 kEq (cR Try.prog R) w_8 .eql 3 (.tmp 18) (.tmp 19) v18 (.int .i64 t) fun v20 w_9 =>
 kIf v20 (
 R (.returned (.bool true)) w_9) (
 kFa (cR Try.prog R) w_9 49 v2_1 0 fun v22 w_10 =>
 kLoad (cR Try.prog R) w_10 47 v22 fun v23 w_11 =>
 kEq (cR Try.prog R) w_11 .eql 3 (.tmp 23) (.const (.int .i64 0)) v23 (.int .i64 0) fun v24 w_12 =>
 R (.returned v24) w_12)) (
 R (.returned (.bool false)) w_6)) (
 R (.returned (.bool false)) w_5)) (
 R (.returned (.bool false)) w_4)
theorem c38 (v0 : Int) (v1 : Int) (v2 : ByteArray) (t : Int) (R : Ending → World → Prop) (w : World) (h : vc38 v0 v1 v2 t R w) : Calls Try.prog 38 #[(.agg #[(.int .i64 v0), (.int .i64 v1), (.string v2)]), (.int .i64 t)] w R :=
  calls_of_vc (A := { loops := [], pars := [] }) (Eq.mpr (show FnVc Try.prog { loops := [], pars := [] } 27 38 [(.agg #[(.int .i64 v0), (.int .i64 v1), (.string v2)]), (.int .i64 t)] R w = vc38 v0 v1 v2 t R w by kernel_rfl) h)

/-- loupe/row.Encode$1 -/
def vc40 (f0 : Value) (R : Ending → World → Prop) (w : World) : Prop :=
 kStore (cR Try.prog R) w 38 f0 (.slice none 0 0) fun w_1 =>
 R (.returned (.tuple #[])) w_1
theorem c40 (f0 : Value) (R : Ending → World → Prop) (w : World) (h : vc40 f0 R w) : Calls Try.prog 40 #[f0] w R :=
  calls_of_vc (A := { loops := [], pars := [] }) (Eq.mpr (show FnVc Try.prog { loops := [], pars := [] } 1 40 [f0] R w = vc40 f0 R w by kernel_rfl) h)

/-- loupe/row.encoded -/
def vc41 (row : Option Addr) (rown : Nat) (rowc : Nat) (R : Ending → World → Prop) (w : World) : Prop :=
 kBlt (cR Try.prog R) w .len #[22] 3 #[false] #[(.slice row rown rowc)] fun v7 w_1 =>
 kConv (cR Try.prog R) w_1 3 84 v7 fun v8 w_2 =>
 kCall (cR Try.prog R) w_2 77 #[v8] fun v9 w_3 =>
 kAlloc (cR Try.prog R) w_3 38 fun v3 w_4 =>
 kStore (cR Try.prog R) w_4 38 v3 v9 fun w_5 =>
 kCall (cR Try.prog R) w_5 78 #[(.slice row rown rowc)] fun v11 w_6 =>
 kRange Try.prog none w_6 v11 1 (fun l D args w_7 Rr =>
 (fun p12 =>
 kAlloc (cN Try.prog) w_7 49 fun v4 w_8 =>
 kStore (cN Try.prog) w_8 49 v4 p12 fun w_9 =>
 rndMid l D w_7 w_9 fun lo w_10 =>
 (fun (c : Cx) =>
 kLoad c w_10 49 v4 fun v13 w_11 =>
 kCall c w_11 57 #[v13] fun v14 w_12 =>
 kEq c w_12 .eql 28 (.tmp 15) (.const (.int .i64 0)) v14 (.int .i64 0) fun v16 w_13 =>
 kCall c w_13 44 #[v16, v14] fun v18 w_14 =>
 kDrawn true (
 kPar w_14 13 [[], [], [1], [2], [3], [0, 4], [5], [], [7], [6, 8], [], [9, 10, 6], [5, 11], [12, 0, 1, 2, 3, 4, 5, 6, 7, 8, 9, 10, 11]] (fun Inv Cl =>
 (∀ (S : Nat → Bool) (vs : Nat → Value) (w_15 : World), Inv S vs w_15 → Cl S → S 0 = false → (∀ j, j ∈ ([] : List Nat) → S j = true) →
 kLoad (cN Try.prog) w_15 38 v3 fun v19 w_16 =>
 Inv (inc S 0) (setV vs 0 v19) w_16) ∧
 (∀ (S_1 : Nat → Bool) (vs_1 : Nat → Value) (w_17 : World), Inv S_1 vs_1 w_17 → Cl S_1 → S_1 1 = false → (∀ j, j ∈ ([] : List Nat) → S_1 j = true) →
 kFa (cN Try.prog) w_17 49 v4 0 fun v20 w_18 =>
 Inv (inc S_1 1) (setV vs_1 1 v20) w_18) ∧
 (∀ (S_2 : Nat → Bool) (vs_2 : Nat → Value) (w_19 : World), Inv S_2 vs_2 w_19 → Cl S_2 → S_2 2 = false → (∀ j, j ∈ ([1] : List Nat) → S_2 j = true) →
 kLoad (cN Try.prog) w_19 47 (vs_2 1) fun v21 w_20 =>
 Inv (inc S_2 2) (setV vs_2 2 v21) w_20) ∧
 (∀ (S_3 : Nat → Bool) (vs_3 : Nat → Value) (w_21 : World), Inv S_3 vs_3 w_21 → Cl S_3 → S_3 3 = false → (∀ j, j ∈ ([2] : List Nat) → S_3 j = true) →
 kConv (cN Try.prog) w_21 47 5 (vs_3 2) fun v22 w_22 =>
 Inv (inc S_3 3) (setV vs_3 3 v22) w_22) ∧
 (∀ (S_4 : Nat → Bool) (vs_4 : Nat → Value) (w_23 : World), Inv S_4 vs_4 w_23 → Cl S_4 → S_4 4 = false → (∀ j, j ∈ ([3] : List Nat) → S_4 j = true) →
 kBuildS (cN Try.prog) w_23 38 1 #[(0, (vs_4 3))] fun v23 w_24 =>
 Inv (inc S_4 4) (setV vs_4 4 v23) w_24) ∧
 (∀ (S_5 : Nat → Bool) (vs_5 : Nat → Value) (w_25 : World), Inv S_5 vs_5 w_25 → Cl S_5 → S_5 5 = false → (∀ j, j ∈ ([0, 4] : List Nat) → S_5 j = true) →
 kBlt (cN Try.prog) w_25 .append #[38, 38] 38 #[false, false] #[(vs_5 0), (vs_5 4)] fun v24 w_26 =>
 Inv (inc S_5 5) (setV vs_5 5 v24) w_26) ∧
 (∀ (S_6 : Nat → Bool) (vs_6 : Nat → Value) (w_27 : World), Inv S_6 vs_6 w_27 → Cl S_6 → S_6 6 = false → (∀ j, j ∈ ([5] : List Nat) → S_6 j = true) →
 kCall (cN Try.prog) w_27 79 #[] fun v25 w_28 =>
 Inv (inc S_6 6) (setV vs_6 6 v25) w_28) ∧
 (∀ (S_7 : Nat → Bool) (vs_7 : Nat → Value) (w_29 : World), Inv S_7 vs_7 w_29 → Cl S_7 → S_7 7 = false → (∀ j, j ∈ ([] : List Nat) → S_7 j = true) →
 kFa (cN Try.prog) w_29 49 v4 0 fun v26 w_30 =>
 Inv (inc S_7 7) (setV vs_7 7 v26) w_30) ∧
 (∀ (S_8 : Nat → Bool) (vs_8 : Nat → Value) (w_31 : World), Inv S_8 vs_8 w_31 → Cl S_8 → S_8 8 = false → (∀ j, j ∈ ([7] : List Nat) → S_8 j = true) →
 kLoad (cN Try.prog) w_31 47 (vs_8 7) fun v27 w_32 =>
 Inv (inc S_8 8) (setV vs_8 8 v27) w_32) ∧
 (∀ (S_9 : Nat → Bool) (vs_9 : Nat → Value) (w_33 : World), Inv S_9 vs_9 w_33 → Cl S_9 → S_9 9 = false → (∀ j, j ∈ ([6, 8] : List Nat) → S_9 j = true) →
 kLook (cN Try.prog) w_33 126 (vs_9 6) (vs_9 8) false fun v28 w_34 =>
 Inv (inc S_9 9) (setV vs_9 9 v28) w_34) ∧
 (∀ (S_10 : Nat → Bool) (vs_10 : Nat → Value) (w_35 : World), Inv S_10 vs_10 w_35 → Cl S_10 → S_10 10 = false → (∀ j, j ∈ ([] : List Nat) → S_10 j = true) →
 kLoad (cN Try.prog) w_35 49 v4 fun v29 w_36 =>
 Inv (inc S_10 10) (setV vs_10 10 v29) w_36) ∧
 (∀ (S_11 : Nat → Bool) (vs_11 : Nat → Value) (w_37 : World), Inv S_11 vs_11 w_37 → Cl S_11 → S_11 11 = false → (∀ j, j ∈ ([9, 10, 6] : List Nat) → S_11 j = true) →
 kCallV (cN Try.prog) w_37 (vs_11 9) #[(vs_11 10)] fun v30 w_38 =>
 Inv (inc S_11 11) (setV vs_11 11 v30) w_38) ∧
 (∀ (S_12 : Nat → Bool) (vs_12 : Nat → Value) (w_39 : World), Inv S_12 vs_12 w_39 → Cl S_12 → S_12 12 = false → (∀ j, j ∈ ([5, 11] : List Nat) → S_12 j = true) →
 kBlt (cN Try.prog) w_39 .append #[38, 38] 38 #[false, false] #[(vs_12 5), (vs_12 11)] fun v31 w_40 =>
 Inv (inc S_12 12) (setV vs_12 12 v31) w_40) ∧
 True) (fun vs_13 w_41 =>
 kStore c w_41 38 v3 (vs_13 12) fun w_42 =>
 rndEnd l D lo w_7 Rr .normal [] w_42))) ⟨Try.prog, fun ch w => rndEnd l D lo w_7 Rr (.panic ch) [] w, false⟩) (args.getD 0 undef))
  (fun D_1 w_43 =>
 (fun (c_1 : Cx) =>
 kBlt c_1 w_43 .len #[22] 3 #[false] #[(.slice row rown rowc)] fun v33 w_44 =>
 kBin c_1 w_44 .leq 3 v33 (.int .i64 32) fun v34 w_45 =>
 kIf v34 (
 kLoad c_1 w_45 38 v3 fun v36 w_46 =>
 kBlt c_1 w_46 .len #[38] 3 #[false] #[v36] fun v37 w_47 =>
 kBin c_1 w_47 .leq 3 v37 (.int .i64 4000) fun v38 w_48 =>
 kCall c_1 w_48 44 #[v38, (.int .i64 3)] fun v40 w_49 =>
 kLoad c_1 w_49 38 v3 fun v41 w_50 =>
 Lv Try.prog [.val v41] R [markOf D_1] .returning w_50) (
 kCall c_1 w_45 44 #[(.bool false), (.int .i64 3)] fun v40_1 w_51 =>
 kLoad c_1 w_51 38 v3 fun v41_1 w_52 =>
 Lv Try.prog [.val v41_1] R [markOf D_1] .returning w_52)) ⟨Try.prog, fun ch w => Lv Try.prog [.val (.slice none 0 0)] R [markOf D_1] (.panicking ch) w, false⟩)
  (fun _ _ => False)
  (fun _ _ _ => False)
  (fun D_1 ch w_55 => (fun ch w => Lv Try.prog [.val (.slice none 0 0)] R [markOf D_1] (.panicking ch) w) ch w_55)
theorem c41 (row : Option Addr) (rown : Nat) (rowc : Nat) (R : Ending → World → Prop) (w : World) (h : vc41 row rown rowc R w) : Calls Try.prog 41 #[(.slice row rown rowc)] w R :=
  calls_of_vc (A := { loops := [], pars := [6] }) (Eq.mpr (show FnVc Try.prog { loops := [], pars := [6] } 42 41 [(.slice row rown rowc)] R w = vc41 row rown rowc R w by kernel_rfl) h)

/-- loupe/row.Decode$1 -/
def vc42 (f0 : Value) (R : Ending → World → Prop) (w : World) : Prop :=
 kStore (cR Try.prog R) w 22 f0 (.slice none 0 0) fun w_1 =>
 R (.returned (.tuple #[])) w_1
theorem c42 (f0 : Value) (R : Ending → World → Prop) (w : World) (h : vc42 f0 R w) : Calls Try.prog 42 #[f0] w R :=
  calls_of_vc (A := { loops := [], pars := [] }) (Eq.mpr (show FnVc Try.prog { loops := [], pars := [] } 1 42 [f0] R w = vc42 f0 R w by kernel_rfl) h)

/-- (*loupe/row.reader).number -/
def vc43 (r : Value) (R : Ending → World → Prop) (w : World) : Prop :=
 kNil (cR Try.prog R) w r fun v8 w_1 =>
 kFa (cR Try.prog R) w_1 83 v8 0 fun v9 w_2 =>
 kFa (cR Try.prog R) w_2 81 v9 0 fun v10 w_3 =>
 kLoad (cR Try.prog R) w_3 38 v10 fun v11 w_4 =>
 kCall (cR Try.prog R) w_4 80 #[v11] fun v12 w_5 =>
 kExt v12 0 fun v13 =>
 kExt v12 1 fun v14 =>
 kExt v12 2 fun v15 =>
 kEq (cR Try.prog R) w_5 .eql 28 (.tmp 16) (.const (.int .i64 0)) v15 (.int .i64 0) fun v17 w_6 =>
 kCall (cR Try.prog R) w_6 44 #[v17, (.int .i64 210)] fun v18 w_7 =>
 kNil (cR Try.prog R) w_7 r fun v20 w_8 =>
 kFa (cR Try.prog R) w_8 83 v20 0 fun v21 w_9 =>
 kCall (cR Try.prog R) w_9 81 #[v21, v14] fun v23 w_10 =>
 R (.returned v13) w_10
theorem c43 (r : Value) (R : Ending → World → Prop) (w : World) (h : vc43 r R w) : Calls Try.prog 43 #[r] w R :=
  calls_of_vc (A := { loops := [], pars := [] }) (Eq.mpr (show FnVc Try.prog { loops := [], pars := [] } 25 43 [r] R w = vc43 r R w by kernel_rfl) h)

/-- loupe/row.must -/
def vc44 (fine : Bool) (eA : Int) (R : Ending → World → Prop) (w : World) : Prop :=
 kUn (cR Try.prog R) w .not (.bool fine) fun v5 w_1 =>
 kIf v5 (
 kMkI (cR Try.prog R) w_1 28 (.int .i64 eA) fun v7 w_2 =>
 kPanic (cR Try.prog R) w_2 v7) (
 R (.returned (.tuple #[])) w_1)
theorem c44 (fine : Bool) (eA : Int) (R : Ending → World → Prop) (w : World) (h : vc44 fine eA R w) : Calls Try.prog 44 #[(.bool fine), (.int .i64 eA)] w R :=
  calls_of_vc (A := { loops := [], pars := [] }) (Eq.mpr (show FnVc Try.prog { loops := [], pars := [] } 8 44 [(.bool fine), (.int .i64 eA)] R w = vc44 fine eA R w by kernel_rfl) h)

/-- (*loupe/row.reader).value -/
def vc45 (r : Value) (R : Ending → World → Prop) (w : World) : Prop :=
 kAlloc (cR Try.prog R) w 49 fun v2 w_1 =>
 kNil (cR Try.prog R) w_1 r fun v8 w_2 =>
 kFa (cR Try.prog R) w_2 83 v8 0 fun v9 w_3 =>
 kCall (cR Try.prog R) w_3 81 #[v9, (.int .i64 1)] fun v10 w_4 =>
 kIa (cR Try.prog R) w_4 38 v10 (.int .i64 0) fun v11 w_5 =>
 kLoad (cR Try.prog R) w_5 5 v11 fun v12 w_6 =>
 kConv (cR Try.prog R) w_6 5 47 v12 fun v13 w_7 =>
 kFa (cR Try.prog R) w_7 49 v2 0 fun v14 w_8 =>
 kStore (cR Try.prog R) w_8 47 v14 v13 fun w_9 =>
 kFa (cR Try.prog R) w_9 49 v2 0 fun v15 w_10 =>
 kLoad (cR Try.prog R) w_10 47 v15 fun v16 w_11 =>
 kEq (cR Try.prog R) w_11 .eql 47 (.tmp 16) (.const (.int .i64 0)) v16 (.int .i64 0) fun v19 w_12 =>
 kIf v19 (
 kLoad (cR Try.prog R) w_12 49 v2 fun v66 w_13 =>
 kStore (cR Try.prog R) w_13 49 v2 v66 fun w_14 =>
 RetK Try.prog [.cell v2 49] R w_14) (
 kEq (cR Try.prog R) w_12 .eql 47 (.tmp 16) (.const (.int .i64 1)) v16 (.int .i64 1) fun v21 w_15 =>
 kIf v21 (
 kNil (cR Try.prog R) w_15 r fun v23 w_16 =>
 kFa (cR Try.prog R) w_16 83 v23 0 fun v24 w_17 =>
 kCall (cR Try.prog R) w_17 81 #[v24, (.int .i64 1)] fun v25 w_18 =>
 kIa (cR Try.prog R) w_18 38 v25 (.int .i64 0) fun v26 w_19 =>
 kLoad (cR Try.prog R) w_19 5 v26 fun v27 w_20 =>
 kConv (cR Try.prog R) w_20 5 2 v27 fun v28 w_21 =>
 kFa (cR Try.prog R) w_21 49 v2 1 fun v29 w_22 =>
 kStore (cR Try.prog R) w_22 2 v29 v28 fun w_23 =>
 kLoad (cR Try.prog R) w_23 49 v2 fun v66_1 w_24 =>
 kStore (cR Try.prog R) w_24 49 v2 v66_1 fun w_25 =>
 RetK Try.prog [.cell v2 49] R w_25) (
 kEq (cR Try.prog R) w_15 .eql 47 (.tmp 16) (.const (.int .i64 2)) v16 (.int .i64 2) fun v31 w_26 =>
 kIf v31 (
 kCall (cR Try.prog R) w_26 43 #[r] fun v33 w_27 =>
 kBin (cR Try.prog R) w_27 .shr 84 v33 (.int .u64 1) fun v35 w_28 =>
 kConv (cR Try.prog R) w_28 84 2 v35 fun v36 w_29 =>
 kBin (cR Try.prog R) w_29 .and 84 v33 (.int .u64 1) fun v38 w_30 =>
 kConv (cR Try.prog R) w_30 84 2 v38 fun v39 w_31 =>
 kUn (cR Try.prog R) w_31 .neg v39 fun v40 w_32 =>
 kBin (cR Try.prog R) w_32 .xor 2 v36 v40 fun v41 w_33 =>
 kFa (cR Try.prog R) w_33 49 v2 1 fun v42 w_34 =>
 kStore (cR Try.prog R) w_34 2 v42 v41 fun w_35 =>
 kLoad (cR Try.prog R) w_35 49 v2 fun v66_2 w_36 =>
 kStore (cR Try.prog R) w_36 49 v2 v66_2 fun w_37 =>
 RetK Try.prog [.cell v2 49] R w_37) (
 kJn (fun J =>
 kEq (cR Try.prog R) w_26 .eql 47 (.tmp 16) (.const (.int .i64 3)) v16 (.int .i64 3) fun v44 w_54 =>
 kIf v44 (
 kD [] [] (J [v44] w_54)) (
 kEq (cR Try.prog R) w_54 .eql 47 (.tmp 16) (.const (.int .i64 4)) v16 (.int .i64 4) fun v45 w_55 =>
 kD [] [] (J [v45] w_55))) (fun cs w_38 => ∀ ds : List Value,
 (fun j43 =>
 kIf j43 (
 kNil (cR Try.prog R) w_38 r fun v48 w_39 =>
 kFa (cR Try.prog R) w_39 83 v48 0 fun v49 w_40 =>
 kFa (cR Try.prog R) w_40 81 v49 0 fun v50 w_41 =>
 kLoad (cR Try.prog R) w_41 38 v50 fun v51 w_42 =>
 kCall (cR Try.prog R) w_42 82 #[v51] fun v52 w_43 =>
 kExt v52 0 fun v53 =>
 kExt v52 1 fun v54 =>
 kExt v52 2 fun v55 =>
 kEq (cR Try.prog R) w_43 .eql 28 (.tmp 56) (.const (.int .i64 0)) v55 (.int .i64 0) fun v57 w_44 =>
 kCall (cR Try.prog R) w_44 44 #[v57, (.int .i64 210)] fun v58 w_45 =>
 kNil (cR Try.prog R) w_45 r fun v60 w_46 =>
 kFa (cR Try.prog R) w_46 83 v60 0 fun v61 w_47 =>
 kCall (cR Try.prog R) w_47 81 #[v61, v54] fun v63 w_48 =>
 kFa (cR Try.prog R) w_48 49 v2 2 fun v65 w_49 =>
 kStore (cR Try.prog R) w_49 9 v65 v53 fun w_50 =>
 kLoad (cR Try.prog R) w_50 49 v2 fun v66_3 w_51 =>
 kStore (cR Try.prog R) w_51 49 v2 v66_3 fun w_52 =>
 RetK Try.prog [.cell v2 49] R w_52) (
 kMkI (cR Try.prog R) w_38 28 (.int .i64 210) fun v17 w_53 =>
 kPanic (cR Try.prog R) w_53 v17)) (cs.getD 0 undef)))))
theorem c45 (r : Value) (R : Ending → World → Prop) (w : World) (h : vc45 r R w) : Calls Try.prog 45 #[r] w R :=
  calls_of_vc (A := { loops := [(1000012, [43])], pars := [] }) (Eq.mpr (show FnVc Try.prog { loops := [(1000012, [43])], pars := [] } 67 45 [r] R w = vc45 r R w by kernel_rfl) h)

/-- slices.Equal[[]byte,byte] -/
def vc46 (s1 : Option Addr) (s1n : Nat) (s1c : Nat) (s2 : Option Addr) (s2n : Nat) (s2c : Nat) (R : Ending → World → Prop) (w : World) : Prop :=
 kBlt (cR Try.prog R) w .len #[38] 3 #[false] #[(.slice s1 s1n s1c)] fun v7 w_1 =>
 kBlt (cR Try.prog R) w_1 .len #[38] 3 #[false] #[(.slice s2 s2n s2c)] fun v9 w_2 =>
 kEq (cR Try.prog R) w_2 .neq 3 (.tmp 7) (.tmp 9) v7 v9 fun v10 w_3 =>
 kIf v10 (
 R (.returned (.bool false)) w_3) (
 kBlt (cR Try.prog R) w_3 .len #[38] 3 #[false] #[(.slice s1 s1n s1c)] fun v12 w_4 =>
 kLoopF [(.int .i64 0)] w_4 fun cs ds w_5 N =>
 (fun x13 =>
 kBin (cR Try.prog R) w_5 .lss 3 x13 v12 fun v14 w_6 =>
 kIf v14 (
 kDrawn true (
 kIa (cQ Try.prog) w_6 38 (.slice s1 s1n s1c) x13 fun v18 w_7 =>
 kLoad (cQ Try.prog) w_7 5 v18 fun v19 w_8 =>
 kIa (cQ Try.prog) w_8 38 (.slice s2 s2n s2c) x13 fun v22 w_9 =>
 kLoad (cQ Try.prog) w_9 5 v22 fun v23 w_10 =>
 kEq (cQ Try.prog) w_10 .neq 5 (.tmp 19) (.tmp 23) v19 v23 fun v24 w_11 =>
 kDrew w_6 fun w_12 =>
 kIf v24 (
 R (.returned (.bool false)) w_12) (
 kBin (cR Try.prog R) w_12 .add 3 x13 (.int .i64 1) fun v25 w_13 =>
 kD [] [] (N [v25] w_13)))) (
 R (.returned (.bool true)) w_6)) (cs.getD 0 undef))
theorem c46 (s1 : Option Addr) (s1n : Nat) (s1c : Nat) (s2 : Option Addr) (s2n : Nat) (s2c : Nat) (R : Ending → World → Prop) (w : World) (h : vc46 s1 s1n s1c s2 s2n s2c R w) : Calls Try.prog 46 #[(.slice s1 s1n s1c), (.slice s2 s2n s2c)] w R :=
  calls_of_vc (A := { loops := [(0, [13])], pars := [] }) (Eq.mpr (show FnVc Try.prog { loops := [(0, [13])], pars := [] } 26 46 [(.slice s1 s1n s1c), (.slice s2 s2n s2c)] R w = vc46 s1 s1n s1c s2 s2n s2c R w by kernel_rfl) h)

/-- loupe/louperef03.ReadNumber -/
def vc47 (b : Option Addr) (bn : Nat) (bc : Nat) (R : Ending → World → Prop) (w : World) : Prop :=
 kLoopF [(.int .u64 0), (.int .u64 1), (.int .i64 0)] w fun cs ds w_1 N =>
 (fun x5 x6 x7 =>
 kJn (fun J =>
 kBlt (cR Try.prog R) w_1 .len #[38] 3 #[false] #[(.slice b bn bc)] fun v11 w_25 =>
 kBin (cR Try.prog R) w_25 .lss 3 x7 v11 fun v12 w_26 =>
 kIf v12 (
 kBin (cR Try.prog R) w_26 .lss 3 x7 (.int .i64 10) fun v15 w_27 =>
 kIf v15 (
 kD [] [] (J [] w_27)) (
 R (.returned (.tuple #[(.int .u64 0), (.int .i64 0), (.int .i64 130)])) w_27)) (
 kIf (.bool false) (
 kD [] [] (J [] w_26)) (
 R (.returned (.tuple #[(.int .u64 0), (.int .i64 0), (.int .i64 130)])) w_26))) (fun cs_1 w_2 => ∀ ds_1 : List Value,
 kIa (cR Try.prog R) w_2 38 (.slice b bn bc) x7 fun v21 w_3 =>
 kLoad (cR Try.prog R) w_3 5 v21 fun v22 w_4 =>
 kBin (cR Try.prog R) w_4 .rem 5 v22 (.int .u8 128) fun v23 w_5 =>
 kConv (cR Try.prog R) w_5 5 84 v23 fun v24 w_6 =>
 kJn (fun J_1 =>
 kEq (cR Try.prog R) w_6 .eql 3 (.tmp 25) (.const (.int .i64 9)) x7 (.int .i64 9) fun v26 w_21 =>
 kIf v26 (
 kIa (cR Try.prog R) w_21 38 (.slice b bn bc) x7 fun v30 w_22 =>
 kLoad (cR Try.prog R) w_22 5 v30 fun v31 w_23 =>
 kBin (cR Try.prog R) w_23 .gtr 5 v31 (.int .u8 1) fun v32 w_24 =>
 kIf v32 (
 R (.returned (.tuple #[(.int .u64 0), (.int .i64 0), (.int .i64 130)])) w_24) (
 kD [] [] (J_1 [] w_24))) (
 kIf (.bool false) (
 R (.returned (.tuple #[(.int .u64 0), (.int .i64 0), (.int .i64 130)])) w_21) (
 kD [] [] (J_1 [] w_21)))) (fun cs_2 w_7 => ∀ ds_2 : List Value,
 kBin (cR Try.prog R) w_7 .mul 84 v24 x6 fun v37 w_8 =>
 kBin (cR Try.prog R) w_8 .add 84 x5 v37 fun v38 w_9 =>
 kIa (cR Try.prog R) w_9 38 (.slice b bn bc) x7 fun v41 w_10 =>
 kLoad (cR Try.prog R) w_10 5 v41 fun v42 w_11 =>
 kBin (cR Try.prog R) w_11 .lss 5 v42 (.int .u8 128) fun v43 w_12 =>
 kIf v43 (
 kJn (fun J_2 =>
 kEq (cR Try.prog R) w_12 .eql 84 (.tmp 44) (.const (.int .u64 0)) v24 (.int .u64 0) fun v45 w_15 =>
 kIf v45 (
 kBin (cR Try.prog R) w_15 .gtr 3 x7 (.int .i64 0) fun v48 w_16 =>
 kIf v48 (
 R (.returned (.tuple #[(.int .u64 0), (.int .i64 0), (.int .i64 130)])) w_16) (
 kD [] [] (J_2 [] w_16))) (
 kIf (.bool false) (
 R (.returned (.tuple #[(.int .u64 0), (.int .i64 0), (.int .i64 130)])) w_15) (
 kD [] [] (J_2 [] w_15)))) (fun cs_3 w_13 => ∀ ds_3 : List Value,
 kBin (cR Try.prog R) w_13 .add 3 x7 (.int .i64 1) fun v52 w_14 =>
 R (.returned (.tuple #[v38, v52, (.int .i64 0)])) w_14)) (
 kBin (cR Try.prog R) w_12 .lss 3 x7 (.int .i64 9) fun v54 w_17 =>
 kIf v54 (
 kBin (cR Try.prog R) w_17 .mul 84 x6 (.int .u64 128) fun v56 w_18 =>
 kBin (cR Try.prog R) w_18 .add 3 x7 (.int .i64 1) fun v18 w_19 =>
 kD [] [] (N [v38, v56, v18] w_19)) (
 kBin (cR Try.prog R) w_17 .add 3 x7 (.int .i64 1) fun v18_1 w_20 =>
 kD [] [] (N [v38, x6, v18_1] w_20)))))) (cs.getD 0 undef) (cs.getD 1 undef) (cs.getD 2 undef)
theorem c47 (b : Option Addr) (bn : Nat) (bc : Nat) (R : Ending → World → Prop) (w : World) (h : vc47 b bn bc R w) : Calls Try.prog 47 #[(.slice b bn bc)] w R :=
  calls_of_vc (A := { loops := [(1000012, []), (1000008, []), (1000005, []), (0, [5, 6, 7])], pars := [] }) (Eq.mpr (show FnVc Try.prog { loops := [(1000012, []), (1000008, []), (1000005, []), (0, [5, 6, 7])], pars := [] } 57 47 [(.slice b bn bc)] R w = vc47 b bn bc R w by kernel_rfl) h)

/-- loupe/louperef11.one -/
def vc48 (b : Option Addr) (bn : Nat) (bc : Nat) (R : Ending → World → Prop) (w : World) : Prop :=
 kAlloc (cR Try.prog R) w 49 fun v2 w_1 =>
 kBlt (cR Try.prog R) w_1 .len #[38] 3 #[false] #[(.slice b bn bc)] fun v12 w_2 =>
 kEq (cR Try.prog R) w_2 .eql 3 (.tmp 12) (.const (.int .i64 0)) v12 (.int .i64 0) fun v13 w_3 =>
 kIf v13 (
 kBuild (cR Try.prog R) w_3 49 #[] fun v14 w_4 =>
 kStore (cR Try.prog R) w_4 49 v2 v14 fun w_5 =>
 RetK Try.prog [.cell v2 49, .val (.int .i64 0)] R w_5) (
 kIa (cR Try.prog R) w_3 38 (.slice b bn bc) (.int .i64 0) fun v16 w_6 =>
 kLoad (cR Try.prog R) w_6 5 v16 fun v17 w_7 =>
 kConv (cR Try.prog R) w_7 5 3 v17 fun v18 w_8 =>
 kBuild (cR Try.prog R) w_8 49 #[(0, v18)] fun v19 w_9 =>
 kAlloc (cR Try.prog R) w_9 49 fun v4 w_10 =>
 kStore (cR Try.prog R) w_10 49 v4 v19 fun w_11 =>
 kIa (cR Try.prog R) w_11 38 (.slice b bn bc) (.int .i64 0) fun v21 w_12 =>
 kLoad (cR Try.prog R) w_12 5 v21 fun v22 w_13 =>
 kEq (cR Try.prog R) w_13 .eql 5 (.tmp 22) (.const (.int .u8 0)) v22 (.int .u8 0) fun v24 w_14 =>
 kIf v24 (
 kLoad (cR Try.prog R) w_14 49 v4 fun v25 w_15 =>
 kStore (cR Try.prog R) w_15 49 v2 v25 fun w_16 =>
 RetK Try.prog [.cell v2 49, .val (.int .i64 1)] R w_16) (
 kEq (cR Try.prog R) w_14 .eql 5 (.tmp 22) (.const (.int .u8 1)) v22 (.int .u8 1) fun v27 w_17 =>
 kIf v27 (
 kJn (fun J =>
 kBlt (cR Try.prog R) w_17 .len #[38] 3 #[false] #[(.slice b bn bc)] fun v29 w_28 =>
 kBin (cR Try.prog R) w_28 .gtr 3 v29 (.int .i64 1) fun v30 w_29 =>
 kIf v30 (
 kIa (cR Try.prog R) w_29 38 (.slice b bn bc) (.int .i64 1) fun v33 w_30 =>
 kLoad (cR Try.prog R) w_30 5 v33 fun v34 w_31 =>
 kBin (cR Try.prog R) w_31 .leq 5 v34 (.int .u8 1) fun v35 w_32 =>
 kD [] [] (J [v35] w_32)) (
 kD [] [] (J [(.bool false)] w_29))) (fun cs w_18 => ∀ ds : List Value,
 (fun j36 =>
 kIf j36 (
 kIa (cR Try.prog R) w_18 38 (.slice b bn bc) (.int .i64 1) fun v38 w_19 =>
 kLoad (cR Try.prog R) w_19 5 v38 fun v39 w_20 =>
 kConv (cR Try.prog R) w_20 5 2 v39 fun v40 w_21 =>
 kFa (cR Try.prog R) w_21 49 v4 1 fun v41 w_22 =>
 kStore (cR Try.prog R) w_22 2 v41 v40 fun w_23 =>
 kLoad (cR Try.prog R) w_23 49 v4 fun v42 w_24 =>
 kStore (cR Try.prog R) w_24 49 v2 v42 fun w_25 =>
 RetK Try.prog [.cell v2 49, .val (.int .i64 2)] R w_25) (
 kBuild (cR Try.prog R) w_18 49 #[] fun v86 w_26 =>
 kStore (cR Try.prog R) w_26 49 v2 v86 fun w_27 =>
 RetK Try.prog [.cell v2 49, .val (.int .i64 0)] R w_27)) (cs.getD 0 undef))) (
 kEq (cR Try.prog R) w_17 .eql 5 (.tmp 22) (.const (.int .u8 2)) v22 (.int .u8 2) fun v44 w_33 =>
 kIf v44 (
 kSl (cR Try.prog R) w_33 38 (.slice b bn bc) (some (.int .i64 1)) none none fun v47 w_34 =>
 kCall (cR Try.prog R) w_34 47 #[v47] fun v48 w_35 =>
 kExt v48 0 fun v49 =>
 kExt v48 1 fun v50 =>
 kExt v48 2 fun v51 =>
 kEq (cR Try.prog R) w_35 .eql 3 (.tmp 52) (.const (.int .i64 0)) v51 (.int .i64 0) fun v53 w_36 =>
 kIf v53 (
 kBin (cR Try.prog R) w_36 .quo 84 v49 (.int .u64 2) fun v55 w_37 =>
 kConv (cR Try.prog R) w_37 84 2 v55 fun v56 w_38 =>
 kFa (cR Try.prog R) w_38 49 v4 1 fun v57 w_39 =>
 kStore (cR Try.prog R) w_39 2 v57 v56 fun w_40 =>
 kJn (fun J_1 =>
 kBin (cR Try.prog R) w_40 .rem 84 v49 (.int .u64 2) fun v59 w_45 =>
 kEq (cR Try.prog R) w_45 .eql 84 (.tmp 59) (.const (.int .u64 1)) v59 (.int .u64 1) fun v60 w_46 =>
 kIf v60 (
 kFa (cR Try.prog R) w_46 49 v4 1 fun v61 w_47 =>
 kLoad (cR Try.prog R) w_47 2 v61 fun v62 w_48 =>
 kUn (cR Try.prog R) w_48 .neg v62 fun v63 w_49 =>
 kBin (cR Try.prog R) w_49 .sub 2 v63 (.int .i64 1) fun v64 w_50 =>
 kFa (cR Try.prog R) w_50 49 v4 1 fun v65 w_51 =>
 kStore (cR Try.prog R) w_51 2 v65 v64 fun w_52 =>
 kD [] [] (J_1 [] w_52)) (
 kD [] [] (J_1 [] w_46))) (fun cs_1 w_41 => ∀ ds_1 : List Value,
 kLoad (cR Try.prog R) w_41 49 v4 fun v66 w_42 =>
 kBin (cR Try.prog R) w_42 .add 3 v50 (.int .i64 1) fun v68 w_43 =>
 kStore (cR Try.prog R) w_43 49 v2 v66 fun w_44 =>
 RetK Try.prog [.cell v2 49, .val v68] R w_44)) (
 kBuild (cR Try.prog R) w_36 49 #[] fun v86_1 w_53 =>
 kStore (cR Try.prog R) w_53 49 v2 v86_1 fun w_54 =>
 RetK Try.prog [.cell v2 49, .val (.int .i64 0)] R w_54)) (
 kJn (fun J_2 =>
 kEq (cR Try.prog R) w_33 .eql 5 (.tmp 22) (.const (.int .u8 3)) v22 (.int .u8 3) fun v70 w_68 =>
 kIf v70 (
 kD [] [] (J_2 [v70] w_68)) (
 kEq (cR Try.prog R) w_68 .eql 5 (.tmp 22) (.const (.int .u8 4)) v22 (.int .u8 4) fun v71 w_69 =>
 kD [] [] (J_2 [v71] w_69))) (fun cs_2 w_55 => ∀ ds_2 : List Value,
 (fun j69 =>
 kIf j69 (
 kSl (cR Try.prog R) w_55 38 (.slice b bn bc) (some (.int .i64 1)) none none fun v74 w_56 =>
 kCall (cR Try.prog R) w_56 83 #[v74] fun v75 w_57 =>
 kExt v75 0 fun v76 =>
 kExt v75 1 fun v77 =>
 kExt v75 2 fun v78 =>
 kEq (cR Try.prog R) w_57 .eql 3 (.tmp 79) (.const (.int .i64 0)) v78 (.int .i64 0) fun v80 w_58 =>
 kIf v80 (
 kFa (cR Try.prog R) w_58 49 v4 2 fun v82 w_59 =>
 kStore (cR Try.prog R) w_59 9 v82 v76 fun w_60 =>
 kLoad (cR Try.prog R) w_60 49 v4 fun v83 w_61 =>
 kBin (cR Try.prog R) w_61 .add 3 v77 (.int .i64 1) fun v85 w_62 =>
 kStore (cR Try.prog R) w_62 49 v2 v83 fun w_63 =>
 RetK Try.prog [.cell v2 49, .val v85] R w_63) (
 kBuild (cR Try.prog R) w_58 49 #[] fun v86_2 w_64 =>
 kStore (cR Try.prog R) w_64 49 v2 v86_2 fun w_65 =>
 RetK Try.prog [.cell v2 49, .val (.int .i64 0)] R w_65)) (
 kBuild (cR Try.prog R) w_55 49 #[] fun v86_3 w_66 =>
 kStore (cR Try.prog R) w_66 49 v2 v86_3 fun w_67 =>
 RetK Try.prog [.cell v2 49, .val (.int .i64 0)] R w_67)) (cs_2.getD 0 undef))))))
theorem c48 (b : Option Addr) (bn : Nat) (bc : Nat) (R : Ending → World → Prop) (w : World) (h : vc48 b bn bc R w) : Calls Try.prog 48 #[(.slice b bn bc)] w R :=
  calls_of_vc (A := { loops := [(1000009, [36]), (1000017, []), (1000020, [69])], pars := [] }) (Eq.mpr (show FnVc Try.prog { loops := [(1000009, [36]), (1000017, []), (1000020, [69])], pars := [] } 87 48 [(.slice b bn bc)] R w = vc48 b bn bc R w by kernel_rfl) h)

/-- loupe/louperef11.Encode -/
def vc49 (row : Option Addr) (rown : Nat) (rowc : Nat) (R : Ending → World → Prop) (w : World) : Prop :=
 kBlt (cR Try.prog R) w .len #[22] 3 #[false] #[(.slice row rown rowc)] fun v9 w_1 =>
 kConv (cR Try.prog R) w_1 3 84 v9 fun v10 w_2 =>
 kCall (cR Try.prog R) w_2 84 #[v10] fun v11 w_3 =>
 kLoopF [v11, (.int .i64 0)] w_3 fun cs ds w_4 N =>
 (fun x4 x5 =>
 kBlt (cR Try.prog R) w_4 .len #[22] 3 #[false] #[(.slice row rown rowc)] fun v14 w_5 =>
 kBin (cR Try.prog R) w_5 .lss 3 x5 v14 fun v15 w_6 =>
 kIf v15 (
 kIa (cR Try.prog R) w_6 22 (.slice row rown rowc) x5 fun v20 w_7 =>
 kLoad (cR Try.prog R) w_7 49 v20 fun v21 w_8 =>
 kAlloc (cR Try.prog R) w_8 49 fun v6 w_9 =>
 kStore (cR Try.prog R) w_9 49 v6 v21 fun w_10 =>
 kLoad (cR Try.prog R) w_10 49 v6 fun v22 w_11 =>
 kCall (cR Try.prog R) w_11 64 #[v22] fun v23 w_12 =>
 kEq (cR Try.prog R) w_12 .neq 3 (.tmp 24) (.const (.int .i64 0)) v23 (.int .i64 0) fun v25 w_13 =>
 kIf v25 (
 R (.returned (.tuple #[(.slice none 0 0), v23])) w_13) (
 kFa (cR Try.prog R) w_13 49 v6 0 fun v28 w_14 =>
 kLoad (cR Try.prog R) w_14 47 v28 fun v29 w_15 =>
 kConv (cR Try.prog R) w_15 3 5 v29 fun v30 w_16 =>
 kBuildS (cR Try.prog R) w_16 38 1 #[(0, v30)] fun v31 w_17 =>
 kBlt (cR Try.prog R) w_17 .append #[38, 38] 38 #[false, false] #[x4, v31] fun v32 w_18 =>
 kFa (cR Try.prog R) w_18 49 v6 0 fun v33 w_19 =>
 kLoad (cR Try.prog R) w_19 47 v33 fun v34 w_20 =>
 kEq (cR Try.prog R) w_20 .eql 3 (.tmp 34) (.const (.int .i64 1)) v34 (.int .i64 1) fun v36 w_21 =>
 kIf v36 (
 kFa (cR Try.prog R) w_21 49 v6 1 fun v38 w_22 =>
 kLoad (cR Try.prog R) w_22 2 v38 fun v39 w_23 =>
 kConv (cR Try.prog R) w_23 2 5 v39 fun v40 w_24 =>
 kBuildS (cR Try.prog R) w_24 38 1 #[(0, v40)] fun v41 w_25 =>
 kBlt (cR Try.prog R) w_25 .append #[38, 38] 38 #[false, false] #[v32, v41] fun v42 w_26 =>
 kBin (cR Try.prog R) w_26 .add 3 x5 (.int .i64 1) fun v17 w_27 =>
 kD [] [] (N [v42, v17] w_27)) (
 kEq (cR Try.prog R) w_21 .eql 3 (.tmp 34) (.const (.int .i64 2)) v34 (.int .i64 2) fun v44 w_28 =>
 kIf v44 (
 kFa (cR Try.prog R) w_28 49 v6 1 fun v46 w_29 =>
 kLoad (cR Try.prog R) w_29 2 v46 fun v47 w_30 =>
 kCall (cR Try.prog R) w_30 85 #[v47] fun v48 w_31 =>
 kCall (cR Try.prog R) w_31 84 #[v48] fun v49 w_32 =>
 kBlt (cR Try.prog R) w_32 .append #[38, 38] 38 #[false, false] #[v32, v49] fun v50 w_33 =>
 kBin (cR Try.prog R) w_33 .add 3 x5 (.int .i64 1) fun v17_1 w_34 =>
 kD [] [] (N [v50, v17_1] w_34)) (
 kJn (fun J =>
 kEq (cR Try.prog R) w_28 .eql 3 (.tmp 34) (.const (.int .i64 3)) v34 (.int .i64 3) fun v52 w_42 =>
 kIf v52 (
 kD [] [] (J [v52] w_42)) (
 kEq (cR Try.prog R) w_42 .eql 3 (.tmp 34) (.const (.int .i64 4)) v34 (.int .i64 4) fun v53 w_43 =>
 kD [] [] (J [v53] w_43))) (fun cs_1 w_35 => ∀ ds_1 : List Value,
 (fun j51 =>
 kIf j51 (
 kFa (cR Try.prog R) w_35 49 v6 2 fun v55 w_36 =>
 kLoad (cR Try.prog R) w_36 9 v55 fun v56 w_37 =>
 kCall (cR Try.prog R) w_37 86 #[v56] fun v57 w_38 =>
 kBlt (cR Try.prog R) w_38 .append #[38, 38] 38 #[false, false] #[v32, v57] fun v58 w_39 =>
 kBin (cR Try.prog R) w_39 .add 3 x5 (.int .i64 1) fun v17_2 w_40 =>
 kD [] [] (N [v58, v17_2] w_40)) (
 kBin (cR Try.prog R) w_35 .add 3 x5 (.int .i64 1) fun v17_3 w_41 =>
 kD [] [] (N [v32, v17_3] w_41))) (cs_1.getD 0 undef)))))) (
 kBlt (cR Try.prog R) w_6 .len #[22] 3 #[false] #[(.slice row rown rowc)] fun v60 w_44 =>
 kBin (cR Try.prog R) w_44 .gtr 3 v60 (.int .i64 32) fun v61 w_45 =>
 kIf v61 (
 kIf (.bool true) (
 R (.returned (.tuple #[(.slice none 0 0), (.int .i64 3)])) w_45) (
 R (.returned (.tuple #[x4, (.int .i64 0)])) w_45)) (
 kBlt (cR Try.prog R) w_45 .len #[38] 3 #[false] #[x4] fun v64 w_46 =>
 kBin (cR Try.prog R) w_46 .gtr 3 v64 (.int .i64 4000) fun v65 w_47 =>
 kIf v65 (
 R (.returned (.tuple #[(.slice none 0 0), (.int .i64 3)])) w_47) (
 R (.returned (.tuple #[x4, (.int .i64 0)])) w_47)))) (cs.getD 0 undef) (cs.getD 1 undef)
theorem c49 (row : Option Addr) (rown : Nat) (rowc : Nat) (R : Ending → World → Prop) (w : World) (h : vc49 row rown rowc R w) : Calls Try.prog 49 #[(.slice row rown rowc)] w R :=
  calls_of_vc (A := { loops := [(1000017, [51]), (0, [4, 5])], pars := [] }) (Eq.mpr (show FnVc Try.prog { loops := [(1000017, [51]), (0, [4, 5])], pars := [] } 68 49 [(.slice row rown rowc)] R w = vc49 row rown rowc R w by kernel_rfl) h)

/-- loupe/row.Columns$1 -/
def vc50 (yield : Value) (f0 : Value) (R : Ending → World → Prop) (w : World) : Prop :=
 kLoad (cR Try.prog R) w 22 f0 fun v5 w_1 =>
 kBlt (cR Try.prog R) w_1 .len #[22] 3 #[false] #[v5] fun v6 w_2 =>
 kLoopF [(.int .i64 0)] w_2 fun cs ds w_3 N =>
 (fun x7 =>
 kBin (cR Try.prog R) w_3 .lss 3 x7 v6 fun v8 w_4 =>
 kIf v8 (
 kIa (cR Try.prog R) w_4 22 v5 x7 fun v10 w_5 =>
 kLoad (cR Try.prog R) w_5 49 v10 fun v11 w_6 =>
 kAlloc (cR Try.prog R) w_6 49 fun v4 w_7 =>
 kStore (cR Try.prog R) w_7 49 v4 v11 fun w_8 =>
 kLoad (cR Try.prog R) w_8 49 v4 fun v14 w_9 =>
 kCallV (cR Try.prog R) w_9 yield #[x7, v14] fun v15 w_10 =>
 kUn (cR Try.prog R) w_10 .not v15 fun v16 w_11 =>
 kIf v16 (
 R (.returned (.tuple #[])) w_11) (
 kBin (cR Try.prog R) w_11 .add 3 x7 (.int .i64 1) fun v17 w_12 =>
 kD [] [] (N [v17] w_12))) (
 R (.returned (.tuple #[])) w_4)) (cs.getD 0 undef)
theorem c50 (yield : Value) (f0 : Value) (R : Ending → World → Prop) (w : World) (h : vc50 yield f0 R w) : Calls Try.prog 50 #[yield, f0] w R :=
  calls_of_vc (A := { loops := [(0, [7])], pars := [] }) (Eq.mpr (show FnVc Try.prog { loops := [(0, [7])], pars := [] } 18 50 [yield, f0] R w = vc50 yield f0 R w by kernel_rfl) h)

/-- loupe/sum.must -/
def vc54 (fine : Bool) (eA : Int) (R : Ending → World → Prop) (w : World) : Prop :=
 kUn (cR Try.prog R) w .not (.bool fine) fun v5 w_1 =>
 kIf v5 (
 kMkI (cR Try.prog R) w_1 28 (.int .i64 eA) fun v7 w_2 =>
 kPanic (cR Try.prog R) w_2 v7) (
 R (.returned (.tuple #[])) w_1)
theorem c54 (fine : Bool) (eA : Int) (R : Ending → World → Prop) (w : World) (h : vc54 fine eA R w) : Calls Try.prog 54 #[(.bool fine), (.int .i64 eA)] w R :=
  calls_of_vc (A := { loops := [], pars := [] }) (Eq.mpr (show FnVc Try.prog { loops := [], pars := [] } 8 54 [(.bool fine), (.int .i64 eA)] R w = vc54 fine eA R w by kernel_rfl) h)

/-- loupe/value.Check -/
def vc57 (v0 : Int) (v1 : Int) (v2 : ByteArray) (R : Ending → World → Prop) (w : World) : Prop :=
 kBox (cR Try.prog R) w 49 (.agg #[(.int .i64 v0), (.int .i64 v1), (.string v2)]) fun v1_1 w_1 =>
 kAlloc (cR Try.prog R) w_1 28 fun v2_1 w_2 =>
 (fun (c : Cx) =>
 kLoad c w_2 49 v1_1 fun v3 w_3 =>
 kCall c w_3 89 #[v3] fun v4 w_4 =>
 kStore c w_4 28 v2_1 (.int .i64 0) fun w_5 =>
 Lv Try.prog [.cell v2_1 28] R [{ target := .fn (.func 87) #[], args := #[v2_1, (.func (.func 88) #[] #[])] }] .returning w_5) ⟨Try.prog, fun ch w => Lv Try.prog [.cell v2_1 28] R [{ target := .fn (.func 87) #[], args := #[v2_1, (.func (.func 88) #[] #[])] }] (.panicking ch) w, false⟩
theorem c57 (v0 : Int) (v1 : Int) (v2 : ByteArray) (R : Ending → World → Prop) (w : World) (h : vc57 v0 v1 v2 R w) : Calls Try.prog 57 #[(.agg #[(.int .i64 v0), (.int .i64 v1), (.string v2)])] w R :=
  calls_of_vc (A := { loops := [], pars := [] }) (Eq.mpr (show FnVc Try.prog { loops := [], pars := [] } 5 57 [(.agg #[(.int .i64 v0), (.int .i64 v1), (.string v2)])] R w = vc57 v0 v1 v2 R w by kernel_rfl) h)

/-- loupe/louperef01.Check -/
def vc64 (v0 : Int) (v1 : Int) (v2 : ByteArray) (R : Ending → World → Prop) (w : World) : Prop :=
 kBox (cR Try.prog R) w 49 (.agg #[(.int .i64 v0), (.int .i64 v1), (.string v2)]) fun v1_1 w_1 =>
 kFa (cR Try.prog R) w_1 49 v1_1 0 fun v4 w_2 =>
 kLoad (cR Try.prog R) w_2 47 v4 fun v5 w_3 =>
 kFa (cR Try.prog R) w_3 49 v1_1 2 fun v6 w_4 =>
 kLoad (cR Try.prog R) w_4 9 v6 fun v7 w_5 =>
 kBlt (cR Try.prog R) w_5 .len #[9] 3 #[false] #[v7] fun v8 w_6 =>
 kBin (cR Try.prog R) w_6 .gtr 3 v8 (.int .i64 1000) fun v9 w_7 =>
 kIf v9 (
 R (.returned (.int .i64 3)) w_7) (
 kBin (cR Try.prog R) w_7 .lss 3 v5 (.int .i64 0) fun v11 w_8 =>
 kIf v11 (
 kIf (.bool true) (
 R (.returned (.int .i64 2)) w_8) (
 R (.returned (.int .i64 0)) w_8)) (
 kBin (cR Try.prog R) w_8 .gtr 3 v5 (.int .i64 4) fun v14 w_9 =>
 kIf v14 (
 kIf (.bool true) (
 R (.returned (.int .i64 2)) w_9) (
 R (.returned (.int .i64 0)) w_9)) (
 kBin (cR Try.prog R) w_9 .lss 3 v5 (.int .i64 3) fun v18 w_10 =>
 kIf v18 (
 kFa (cR Try.prog R) w_10 49 v1_1 2 fun v20 w_11 =>
 kLoad (cR Try.prog R) w_11 9 v20 fun v21 w_12 =>
 kEq (cR Try.prog R) w_12 .neq 9 (.tmp 21) (.const (.string ⟨#[]⟩)) v21 (.string ⟨#[]⟩) fun v22 w_13 =>
 kIf v22 (
 kIf (.bool true) (
 R (.returned (.int .i64 2)) w_13) (
 R (.returned (.int .i64 0)) w_13)) (
 kEq (cR Try.prog R) w_13 .neq 3 (.tmp 26) (.const (.int .i64 1)) v5 (.int .i64 1) fun v27 w_14 =>
 kIf v27 (
 kEq (cR Try.prog R) w_14 .neq 3 (.tmp 29) (.const (.int .i64 2)) v5 (.int .i64 2) fun v30 w_15 =>
 kIf v30 (
 kFa (cR Try.prog R) w_15 49 v1_1 1 fun v33 w_16 =>
 kLoad (cR Try.prog R) w_16 2 v33 fun v34 w_17 =>
 kEq (cR Try.prog R) w_17 .neq 2 (.tmp 34) (.const (.int .i64 0)) v34 (.int .i64 0) fun v35 w_18 =>
 kIf v35 (
 kIf (.bool true) (
 R (.returned (.int .i64 2)) w_18) (
 R (.returned (.int .i64 0)) w_18)) (
 kEq (cR Try.prog R) w_18 .eql 3 (.tmp 39) (.const (.int .i64 1)) v5 (.int .i64 1) fun v40 w_19 =>
 kIf v40 (
 kFa (cR Try.prog R) w_19 49 v1_1 1 fun v42 w_20 =>
 kLoad (cR Try.prog R) w_20 2 v42 fun v43 w_21 =>
 kEq (cR Try.prog R) w_21 .neq 2 (.tmp 43) (.const (.int .i64 0)) v43 (.int .i64 0) fun v44 w_22 =>
 kIf v44 (
 kFa (cR Try.prog R) w_22 49 v1_1 1 fun v47 w_23 =>
 kLoad (cR Try.prog R) w_23 2 v47 fun v48 w_24 =>
 kEq (cR Try.prog R) w_24 .neq 2 (.tmp 48) (.const (.int .i64 1)) v48 (.int .i64 1) fun v49 w_25 =>
 kIf v49 (
 R (.returned (.int .i64 2)) w_25) (
 R (.returned (.int .i64 0)) w_25)) (
 kIf (.bool false) (
 R (.returned (.int .i64 2)) w_22) (
 R (.returned (.int .i64 0)) w_22))) (
 kIf (.bool false) (
 R (.returned (.int .i64 2)) w_19) (
 R (.returned (.int .i64 0)) w_19)))) (
 kEq (cR Try.prog R) w_15 .eql 3 (.tmp 39) (.const (.int .i64 1)) v5 (.int .i64 1) fun v40_1 w_26 =>
 kIf v40_1 (
 kFa (cR Try.prog R) w_26 49 v1_1 1 fun v42_1 w_27 =>
 kLoad (cR Try.prog R) w_27 2 v42_1 fun v43_1 w_28 =>
 kEq (cR Try.prog R) w_28 .neq 2 (.tmp 43) (.const (.int .i64 0)) v43_1 (.int .i64 0) fun v44_1 w_29 =>
 kIf v44_1 (
 kFa (cR Try.prog R) w_29 49 v1_1 1 fun v47_1 w_30 =>
 kLoad (cR Try.prog R) w_30 2 v47_1 fun v48_1 w_31 =>
 kEq (cR Try.prog R) w_31 .neq 2 (.tmp 48) (.const (.int .i64 1)) v48_1 (.int .i64 1) fun v49_1 w_32 =>
 kIf v49_1 (
 R (.returned (.int .i64 2)) w_32) (
 R (.returned (.int .i64 0)) w_32)) (
 kIf (.bool false) (
 R (.returned (.int .i64 2)) w_29) (
 R (.returned (.int .i64 0)) w_29))) (
 kIf (.bool false) (
 R (.returned (.int .i64 2)) w_26) (
 R (.returned (.int .i64 0)) w_26)))) (
 kEq (cR Try.prog R) w_14 .eql 3 (.tmp 39) (.const (.int .i64 1)) v5 (.int .i64 1) fun v40_2 w_33 =>
 kIf v40_2 (
 kFa (cR Try.prog R) w_33 49 v1_1 1 fun v42_2 w_34 =>
 kLoad (cR Try.prog R) w_34 2 v42_2 fun v43_2 w_35 =>
 kEq (cR Try.prog R) w_35 .neq 2 (.tmp 43) (.const (.int .i64 0)) v43_2 (.int .i64 0) fun v44_2 w_36 =>
 kIf v44_2 (
 kFa (cR Try.prog R) w_36 49 v1_1 1 fun v47_2 w_37 =>
 kLoad (cR Try.prog R) w_37 2 v47_2 fun v48_2 w_38 =>
 kEq (cR Try.prog R) w_38 .neq 2 (.tmp 48) (.const (.int .i64 1)) v48_2 (.int .i64 1) fun v49_2 w_39 =>
 kIf v49_2 (
 R (.returned (.int .i64 2)) w_39) (
 R (.returned (.int .i64 0)) w_39)) (
 kIf (.bool false) (
 R (.returned (.int .i64 2)) w_36) (
 R (.returned (.int .i64 0)) w_36))) (
 kIf (.bool false) (
 R (.returned (.int .i64 2)) w_33) (
 R (.returned (.int .i64 0)) w_33))))) (
 kEq (cR Try.prog R) w_10 .neq 3 (.tmp 26) (.const (.int .i64 1)) v5 (.int .i64 1) fun v27_1 w_40 =>
 kIf v27_1 (
 kEq (cR Try.prog R) w_40 .neq 3 (.tmp 29) (.const (.int .i64 2)) v5 (.int .i64 2) fun v30_1 w_41 =>
 kIf v30_1 (
 kFa (cR Try.prog R) w_41 49 v1_1 1 fun v33_1 w_42 =>
 kLoad (cR Try.prog R) w_42 2 v33_1 fun v34_1 w_43 =>
 kEq (cR Try.prog R) w_43 .neq 2 (.tmp 34) (.const (.int .i64 0)) v34_1 (.int .i64 0) fun v35_1 w_44 =>
 kIf v35_1 (
 kIf (.bool true) (
 R (.returned (.int .i64 2)) w_44) (
 R (.returned (.int .i64 0)) w_44)) (
 kEq (cR Try.prog R) w_44 .eql 3 (.tmp 39) (.const (.int .i64 1)) v5 (.int .i64 1) fun v40_3 w_45 =>
 kIf v40_3 (
 kFa (cR Try.prog R) w_45 49 v1_1 1 fun v42_3 w_46 =>
 kLoad (cR Try.prog R) w_46 2 v42_3 fun v43_3 w_47 =>
 kEq (cR Try.prog R) w_47 .neq 2 (.tmp 43) (.const (.int .i64 0)) v43_3 (.int .i64 0) fun v44_3 w_48 =>
 kIf v44_3 (
 kFa (cR Try.prog R) w_48 49 v1_1 1 fun v47_3 w_49 =>
 kLoad (cR Try.prog R) w_49 2 v47_3 fun v48_3 w_50 =>
 kEq (cR Try.prog R) w_50 .neq 2 (.tmp 48) (.const (.int .i64 1)) v48_3 (.int .i64 1) fun v49_3 w_51 =>
 kIf v49_3 (
 R (.returned (.int .i64 2)) w_51) (
 R (.returned (.int .i64 0)) w_51)) (
 kIf (.bool false) (
 R (.returned (.int .i64 2)) w_48) (
 R (.returned (.int .i64 0)) w_48))) (
 kIf (.bool false) (
 R (.returned (.int .i64 2)) w_45) (
 R (.returned (.int .i64 0)) w_45)))) (
 kEq (cR Try.prog R) w_41 .eql 3 (.tmp 39) (.const (.int .i64 1)) v5 (.int .i64 1) fun v40_4 w_52 =>
 kIf v40_4 (
 kFa (cR Try.prog R) w_52 49 v1_1 1 fun v42_4 w_53 =>
 kLoad (cR Try.prog R) w_53 2 v42_4 fun v43_4 w_54 =>
 kEq (cR Try.prog R) w_54 .neq 2 (.tmp 43) (.const (.int .i64 0)) v43_4 (.int .i64 0) fun v44_4 w_55 =>
 kIf v44_4 (
 kFa (cR Try.prog R) w_55 49 v1_1 1 fun v47_4 w_56 =>
 kLoad (cR Try.prog R) w_56 2 v47_4 fun v48_4 w_57 =>
 kEq (cR Try.prog R) w_57 .neq 2 (.tmp 48) (.const (.int .i64 1)) v48_4 (.int .i64 1) fun v49_4 w_58 =>
 kIf v49_4 (
 R (.returned (.int .i64 2)) w_58) (
 R (.returned (.int .i64 0)) w_58)) (
 kIf (.bool false) (
 R (.returned (.int .i64 2)) w_55) (
 R (.returned (.int .i64 0)) w_55))) (
 kIf (.bool false) (
 R (.returned (.int .i64 2)) w_52) (
 R (.returned (.int .i64 0)) w_52)))) (
 kEq (cR Try.prog R) w_40 .eql 3 (.tmp 39) (.const (.int .i64 1)) v5 (.int .i64 1) fun v40_5 w_59 =>
 kIf v40_5 (
 kFa (cR Try.prog R) w_59 49 v1_1 1 fun v42_5 w_60 =>
 kLoad (cR Try.prog R) w_60 2 v42_5 fun v43_5 w_61 =>
 kEq (cR Try.prog R) w_61 .neq 2 (.tmp 43) (.const (.int .i64 0)) v43_5 (.int .i64 0) fun v44_5 w_62 =>
 kIf v44_5 (
 kFa (cR Try.prog R) w_62 49 v1_1 1 fun v47_5 w_63 =>
 kLoad (cR Try.prog R) w_63 2 v47_5 fun v48_5 w_64 =>
 kEq (cR Try.prog R) w_64 .neq 2 (.tmp 48) (.const (.int .i64 1)) v48_5 (.int .i64 1) fun v49_5 w_65 =>
 kIf v49_5 (
 R (.returned (.int .i64 2)) w_65) (
 R (.returned (.int .i64 0)) w_65)) (
 kIf (.bool false) (
 R (.returned (.int .i64 2)) w_62) (
 R (.returned (.int .i64 0)) w_62))) (
 kIf (.bool false) (
 R (.returned (.int .i64 2)) w_59) (
 R (.returned (.int .i64 0)) w_59)))))))
theorem c64 (v0 : Int) (v1 : Int) (v2 : ByteArray) (R : Ending → World → Prop) (w : World) (h : vc64 v0 v1 v2 R w) : Calls Try.prog 64 #[(.agg #[(.int .i64 v0), (.int .i64 v1), (.string v2)])] w R :=
  calls_of_vc (A := { loops := [], pars := [] }) (Eq.mpr (show FnVc Try.prog { loops := [], pars := [] } 52 64 [(.agg #[(.int .i64 v0), (.int .i64 v1), (.string v2)])] R w = vc64 v0 v1 v2 R w by kernel_rfl) h)

/-- loupe/louperef01.Order -/
def vc71 (a0 : Int) (a1 : Int) (a2 : ByteArray) (b0 : Int) (b1 : Int) (b2 : ByteArray) (R : Ending → World → Prop) (w : World) : Prop :=
 kBox (cR Try.prog R) w 49 (.agg #[(.int .i64 a0), (.int .i64 a1), (.string a2)]) fun v2 w_1 =>
 kBox (cR Try.prog R) w_1 49 (.agg #[(.int .i64 b0), (.int .i64 b1), (.string b2)]) fun v3 w_2 =>
 kFa (cR Try.prog R) w_2 49 v2 0 fun v7 w_3 =>
 kLoad (cR Try.prog R) w_3 47 v7 fun v8 w_4 =>
 kFa (cR Try.prog R) w_4 49 v3 0 fun v9 w_5 =>
 kLoad (cR Try.prog R) w_5 47 v9 fun v10 w_6 =>
 kCall (cR Try.prog R) w_6 108 #[v8, v10] fun v11 w_7 =>
 kEq (cR Try.prog R) w_7 .neq 3 (.tmp 12) (.const (.int .i64 0)) v11 (.int .i64 0) fun v13 w_8 =>
 kIf v13 (
 R (.returned v11) w_8) (
 kFa (cR Try.prog R) w_8 49 v2 1 fun v15 w_9 =>
 kLoad (cR Try.prog R) w_9 2 v15 fun v16 w_10 =>
 kFa (cR Try.prog R) w_10 49 v3 1 fun v17 w_11 =>
 kLoad (cR Try.prog R) w_11 2 v17 fun v18 w_12 =>
 kCall (cR Try.prog R) w_12 108 #[v16, v18] fun v19 w_13 =>
 kEq (cR Try.prog R) w_13 .neq 3 (.tmp 20) (.const (.int .i64 0)) v19 (.int .i64 0) fun v21 w_14 =>
 kIf v21 (
 R (.returned v19) w_14) (
 kFa (cR Try.prog R) w_14 49 v2 2 fun v23 w_15 =>
 kLoad (cR Try.prog R) w_15 9 v23 fun v24 w_16 =>
 kFa (cR Try.prog R) w_16 49 v3 2 fun v25 w_17 =>
 kLoad (cR Try.prog R) w_17 9 v25 fun v26 w_18 =>
 kBin (cR Try.prog R) w_18 .lss 9 v24 v26 fun v27 w_19 =>
 kIf v27 (
 R (.returned (.int .i64 (-1))) w_19) (
 kFa (cR Try.prog R) w_19 49 v2 2 fun v28 w_20 =>
 kLoad (cR Try.prog R) w_20 9 v28 fun v29 w_21 =>
 kFa (cR Try.prog R) w_21 49 v3 2 fun v30 w_22 =>
 kLoad (cR Try.prog R) w_22 9 v30 fun v31 w_23 =>
 kBin (cR Try.prog R) w_23 .gtr 9 v29 v31 fun v32 w_24 =>
 kIf v32 (
 R (.returned (.int .i64 1)) w_24) (
 R (.returned (.int .i64 0)) w_24))))
theorem c71 (a0 : Int) (a1 : Int) (a2 : ByteArray) (b0 : Int) (b1 : Int) (b2 : ByteArray) (R : Ending → World → Prop) (w : World) (h : vc71 a0 a1 a2 b0 b1 b2 R w) : Calls Try.prog 71 #[(.agg #[(.int .i64 a0), (.int .i64 a1), (.string a2)]), (.agg #[(.int .i64 b0), (.int .i64 b1), (.string b2)])] w R :=
  calls_of_vc (A := { loops := [], pars := [] }) (Eq.mpr (show FnVc Try.prog { loops := [], pars := [] } 33 71 [(.agg #[(.int .i64 a0), (.int .i64 a1), (.string a2)]), (.agg #[(.int .i64 b0), (.int .i64 b1), (.string b2)])] R w = vc71 a0 a1 a2 b0 b1 b2 R w by kernel_rfl) h)

/-- loupe/louperef10.Order -/
def vc76 (a : Option Addr) (an : Nat) (ac : Nat) (b : Option Addr) (bn : Nat) (bc : Nat) (R : Ending → World → Prop) (w : World) : Prop :=
 kLoopF [(.int .i64 0)] w fun cs ds w_1 N =>
 (fun x5 =>
 kJn (fun J =>
 kBlt (cR Try.prog R) w_1 .len #[22] 3 #[false] #[(.slice a an ac)] fun v9 w_20 =>
 kBin (cR Try.prog R) w_20 .lss 3 x5 v9 fun v10 w_21 =>
 kIf v10 (
 kBlt (cR Try.prog R) w_21 .len #[22] 3 #[false] #[(.slice b bn bc)] fun v14 w_22 =>
 kBin (cR Try.prog R) w_22 .lss 3 x5 v14 fun v15 w_23 =>
 kIf v15 (
 kD [] [] (J [] w_23)) (
 kBlt (cR Try.prog R) w_23 .len #[22] 3 #[false] #[(.slice a an ac)] fun v32 w_24 =>
 kBlt (cR Try.prog R) w_24 .len #[22] 3 #[false] #[(.slice b bn bc)] fun v34 w_25 =>
 kBin (cR Try.prog R) w_25 .lss 3 v32 v34 fun v35 w_26 =>
 kIf v35 (
 R (.returned (.int .i64 (-1))) w_26) (
 kBlt (cR Try.prog R) w_26 .len #[22] 3 #[false] #[(.slice a an ac)] fun v37 w_27 =>
 kBlt (cR Try.prog R) w_27 .len #[22] 3 #[false] #[(.slice b bn bc)] fun v39 w_28 =>
 kBin (cR Try.prog R) w_28 .gtr 3 v37 v39 fun v40 w_29 =>
 kIf v40 (
 R (.returned (.int .i64 1)) w_29) (
 R (.returned (.int .i64 0)) w_29)))) (
 kIf (.bool false) (
 kD [] [] (J [] w_21)) (
 kBlt (cR Try.prog R) w_21 .len #[22] 3 #[false] #[(.slice a an ac)] fun v32_1 w_30 =>
 kBlt (cR Try.prog R) w_30 .len #[22] 3 #[false] #[(.slice b bn bc)] fun v34_1 w_31 =>
 kBin (cR Try.prog R) w_31 .lss 3 v32_1 v34_1 fun v35_1 w_32 =>
 kIf v35_1 (
 R (.returned (.int .i64 (-1))) w_32) (
 kBlt (cR Try.prog R) w_32 .len #[22] 3 #[false] #[(.slice a an ac)] fun v37_1 w_33 =>
 kBlt (cR Try.prog R) w_33 .len #[22] 3 #[false] #[(.slice b bn bc)] fun v39_1 w_34 =>
 kBin (cR Try.prog R) w_34 .gtr 3 v37_1 v39_1 fun v40_1 w_35 =>
 kIf v40_1 (
 R (.returned (.int .i64 1)) w_35) (
 R (.returned (.int .i64 0)) w_35))))) (fun cs_1 w_2 => ∀ ds_1 : List Value,
 kDrawn true (
 kPar w_2 9 [[], [], [0, 1], [2], [], [], [4, 5], [6], [3, 7], [8, 0, 1, 2, 3, 4, 5, 6, 7]] (fun Inv Cl =>
 (∀ (S : Nat → Bool) (vs : Nat → Value) (w_3 : World), Inv S vs w_3 → Cl S → S 0 = false → (∀ j, j ∈ ([] : List Nat) → S j = true) →
 Inv (inc S 0) (setV vs 0 (.slice a an ac)) w_3) ∧
 (∀ (S_1 : Nat → Bool) (vs_1 : Nat → Value) (w_4 : World), Inv S_1 vs_1 w_4 → Cl S_1 → S_1 1 = false → (∀ j, j ∈ ([] : List Nat) → S_1 j = true) →
 Inv (inc S_1 1) (setV vs_1 1 x5) w_4) ∧
 (∀ (S_2 : Nat → Bool) (vs_2 : Nat → Value) (w_5 : World), Inv S_2 vs_2 w_5 → Cl S_2 → S_2 2 = false → (∀ j, j ∈ ([0, 1] : List Nat) → S_2 j = true) →
 kIa (cN Try.prog) w_5 22 (vs_2 0) (vs_2 1) fun v21 w_6 =>
 Inv (inc S_2 2) (setV vs_2 2 v21) w_6) ∧
 (∀ (S_3 : Nat → Bool) (vs_3 : Nat → Value) (w_7 : World), Inv S_3 vs_3 w_7 → Cl S_3 → S_3 3 = false → (∀ j, j ∈ ([2] : List Nat) → S_3 j = true) →
 kLoad (cN Try.prog) w_7 49 (vs_3 2) fun v22 w_8 =>
 Inv (inc S_3 3) (setV vs_3 3 v22) w_8) ∧
 (∀ (S_4 : Nat → Bool) (vs_4 : Nat → Value) (w_9 : World), Inv S_4 vs_4 w_9 → Cl S_4 → S_4 4 = false → (∀ j, j ∈ ([] : List Nat) → S_4 j = true) →
 Inv (inc S_4 4) (setV vs_4 4 (.slice b bn bc)) w_9) ∧
 (∀ (S_5 : Nat → Bool) (vs_5 : Nat → Value) (w_10 : World), Inv S_5 vs_5 w_10 → Cl S_5 → S_5 5 = false → (∀ j, j ∈ ([] : List Nat) → S_5 j = true) →
 Inv (inc S_5 5) (setV vs_5 5 x5) w_10) ∧
 (∀ (S_6 : Nat → Bool) (vs_6 : Nat → Value) (w_11 : World), Inv S_6 vs_6 w_11 → Cl S_6 → S_6 6 = false → (∀ j, j ∈ ([4, 5] : List Nat) → S_6 j = true) →
 kIa (cN Try.prog) w_11 22 (vs_6 4) (vs_6 5) fun v25 w_12 =>
 Inv (inc S_6 6) (setV vs_6 6 v25) w_12) ∧
 (∀ (S_7 : Nat → Bool) (vs_7 : Nat → Value) (w_13 : World), Inv S_7 vs_7 w_13 → Cl S_7 → S_7 7 = false → (∀ j, j ∈ ([6] : List Nat) → S_7 j = true) →
 kLoad (cN Try.prog) w_13 49 (vs_7 6) fun v26 w_14 =>
 Inv (inc S_7 7) (setV vs_7 7 v26) w_14) ∧
 (∀ (S_8 : Nat → Bool) (vs_8 : Nat → Value) (w_15 : World), Inv S_8 vs_8 w_15 → Cl S_8 → S_8 8 = false → (∀ j, j ∈ ([3, 7] : List Nat) → S_8 j = true) →
 kCall (cN Try.prog) w_15 71 #[(vs_8 3), (vs_8 7)] fun v27 w_16 =>
 Inv (inc S_8 8) (setV vs_8 8 v27) w_16) ∧
 True) (fun vs_9 w_17 =>
 kEq (cR Try.prog R) w_17 .neq 3 (.tmp 28) (.const (.int .i64 0)) (vs_9 8) (.int .i64 0) fun v29 w_18 =>
 kIf v29 (
 R (.returned (vs_9 8)) w_18) (
 kBin (cR Try.prog R) w_18 .add 3 x5 (.int .i64 1) fun v18 w_19 =>
 kD [] [] (N [v18] w_19)))))) (cs.getD 0 undef)
theorem c76 (a : Option Addr) (an : Nat) (ac : Nat) (b : Option Addr) (bn : Nat) (bc : Nat) (R : Ending → World → Prop) (w : World) (h : vc76 a an ac b bn bc R w) : Calls Try.prog 76 #[(.slice a an ac), (.slice b bn bc)] w R :=
  calls_of_vc (A := { loops := [(1000004, []), (0, [5])], pars := [4] }) (Eq.mpr (show FnVc Try.prog { loops := [(1000004, []), (0, [5])], pars := [4] } 41 76 [(.slice a an ac), (.slice b bn bc)] R w = vc76 a an ac b bn bc R w by kernel_rfl) h)

/-- loupe/octet.Number -/
def vc77 (n : Int) (R : Ending → World → Prop) (w : World) : Prop :=
 kLoopF [(.slice none 0 0), (.int .u64 n)] w fun cs ds w_1 N =>
 (fun x2 x0 =>
 kBin (cR Try.prog R) w_1 .geq 84 x0 (.int .u64 128) fun v4 w_2 =>
 kIf v4 (
 kConv (cR Try.prog R) w_2 84 5 x0 fun v9 w_3 =>
 kBin (cR Try.prog R) w_3 .or 5 v9 (.int .u8 128) fun v10 w_4 =>
 kBuildS (cR Try.prog R) w_4 38 1 #[(0, v10)] fun v11 w_5 =>
 kBlt (cR Try.prog R) w_5 .append #[38, 38] 38 #[false, false] #[x2, v11] fun v12 w_6 =>
 kBin (cR Try.prog R) w_6 .shr 84 x0 (.int .u64 7) fun v6 w_7 =>
 kD [] [] (N [v12, v6] w_7)) (
 kConv (cR Try.prog R) w_2 84 5 x0 fun v15 w_8 =>
 kBuildS (cR Try.prog R) w_8 38 1 #[(0, v15)] fun v16 w_9 =>
 kBlt (cR Try.prog R) w_9 .append #[38, 38] 38 #[false, false] #[x2, v16] fun v17 w_10 =>
 R (.returned v17) w_10)) (cs.getD 0 undef) (cs.getD 1 undef)
theorem c77 (n : Int) (R : Ending → World → Prop) (w : World) (h : vc77 n R w) : Calls Try.prog 77 #[(.int .u64 n)] w R :=
  calls_of_vc (A := { loops := [(0, [2, 0])], pars := [] }) (Eq.mpr (show FnVc Try.prog { loops := [(0, [2, 0])], pars := [] } 18 77 [(.int .u64 n)] R w = vc77 n R w by kernel_rfl) h)

/-- slices.Values[[]loupe/api.Value,loupe/api.Value] -/
def vc78 (s : Option Addr) (sn : Nat) (sc : Nat) (R : Ending → World → Prop) (w : World) : Prop :=
 kBox (cR Try.prog R) w 22 (.slice s sn sc) fun v1 w_1 =>
 R (.returned (.func (.func 112) #[] #[v1])) w_1
theorem c78 (s : Option Addr) (sn : Nat) (sc : Nat) (R : Ending → World → Prop) (w : World) (h : vc78 s sn sc R w) : Calls Try.prog 78 #[(.slice s sn sc)] w R :=
  calls_of_vc (A := { loops := [], pars := [] }) (Eq.mpr (show FnVc Try.prog { loops := [], pars := [] } 4 78 [(.slice s sn sc)] R w = vc78 s sn sc R w by kernel_rfl) h)

/-- loupe/row.laid -/
def vc79  (R : Ending → World → Prop) (w : World) : Prop :=
 kMkMap (cR Try.prog R) w 126 none fun v2 w_1 =>
 kUpd (cR Try.prog R) w_1 126 v2 (.int .i64 0) (.func (.func 115) #[] #[]) fun w_2 =>
 kUpd (cR Try.prog R) w_2 126 v2 (.int .i64 1) (.func (.func 116) #[] #[]) fun w_3 =>
 kUpd (cR Try.prog R) w_3 126 v2 (.int .i64 2) (.func (.func 117) #[] #[]) fun w_4 =>
 kUpd (cR Try.prog R) w_4 126 v2 (.int .i64 3) (.func (.func 113) #[] #[]) fun w_5 =>
 kUpd (cR Try.prog R) w_5 126 v2 (.int .i64 4) (.func (.func 113) #[] #[]) fun w_6 =>
 R (.returned v2) w_6
theorem c79  (R : Ending → World → Prop) (w : World) (h : vc79  R w) : Calls Try.prog 79 #[] w R :=
  calls_of_vc (A := { loops := [], pars := [] }) (Eq.mpr (show FnVc Try.prog { loops := [], pars := [] } 6 79 [] R w = vc79  R w by kernel_rfl) h)

/-- loupe/octet.ReadNumber -/
def vc80 (b : Option Addr) (bn : Nat) (bc : Nat) (R : Ending → World → Prop) (w : World) : Prop :=
 kBlt (cR Try.prog R) w .len #[38] 3 #[false] #[(.slice b bn bc)] fun v9 w_1 =>
 kBlt (cR Try.prog R) w_1 .min #[3, 3] 3 #[false, true] #[v9, (.int .i64 10)] fun v10 w_2 =>
 kSl (cR Try.prog R) w_2 38 (.slice b bn bc) none (some v10) none fun v11 w_3 =>
 kBlt (cR Try.prog R) w_3 .len #[38] 3 #[false] #[v11] fun v12 w_4 =>
 kLoopF [(.int .u64 0), (.int .i64 0)] w_4 fun cs ds w_5 N =>
 (fun x2 x13 =>
 kBin (cR Try.prog R) w_5 .lss 3 x13 v12 fun v14 w_6 =>
 kIf v14 (
 kIa (cR Try.prog R) w_6 38 v11 x13 fun v16 w_7 =>
 kLoad (cR Try.prog R) w_7 5 v16 fun v17 w_8 =>
 kJn (fun J =>
 kEq (cR Try.prog R) w_8 .eql 3 (.tmp 18) (.const (.int .i64 9)) x13 (.int .i64 9) fun v19 w_21 =>
 kIf v19 (
 kBin (cR Try.prog R) w_21 .gtr 5 v17 (.int .u8 1) fun v22 w_22 =>
 kIf v22 (
 R (.returned (.tuple #[(.int .u64 0), (.int .i64 0), (.int .i64 130)])) w_22) (
 kD [] [] (J [] w_22))) (
 kIf (.bool false) (
 R (.returned (.tuple #[(.int .u64 0), (.int .i64 0), (.int .i64 130)])) w_21) (
 kD [] [] (J [] w_21)))) (fun cs_1 w_9 => ∀ ds_1 : List Value,
 kBin (cR Try.prog R) w_9 .andNot 5 v17 (.int .u8 128) fun v26 w_10 =>
 kConv (cR Try.prog R) w_10 5 84 v26 fun v27 w_11 =>
 kBin (cR Try.prog R) w_11 .mul 3 (.int .i64 7) x13 fun v29 w_12 =>
 kBin (cR Try.prog R) w_12 .shl 84 v27 v29 fun v30 w_13 =>
 kBin (cR Try.prog R) w_13 .or 84 x2 v30 fun v31 w_14 =>
 kBin (cR Try.prog R) w_14 .geq 5 v17 (.int .u8 128) fun v33 w_15 =>
 kIf v33 (
 kBin (cR Try.prog R) w_15 .add 3 x13 (.int .i64 1) fun v43 w_16 =>
 kD [] [] (N [v31, v43] w_16)) (
 kJn (fun J_1 =>
 kEq (cR Try.prog R) w_15 .eql 5 (.tmp 34) (.const (.int .u8 0)) v17 (.int .u8 0) fun v35 w_19 =>
 kIf v35 (
 kBin (cR Try.prog R) w_19 .gtr 3 x13 (.int .i64 0) fun v38 w_20 =>
 kIf v38 (
 R (.returned (.tuple #[(.int .u64 0), (.int .i64 0), (.int .i64 130)])) w_20) (
 kD [] [] (J_1 [] w_20))) (
 kIf (.bool false) (
 R (.returned (.tuple #[(.int .u64 0), (.int .i64 0), (.int .i64 130)])) w_19) (
 kD [] [] (J_1 [] w_19)))) (fun cs_2 w_17 => ∀ ds_2 : List Value,
 kBin (cR Try.prog R) w_17 .add 3 x13 (.int .i64 1) fun v42 w_18 =>
 R (.returned (.tuple #[v31, v42, (.int .i64 0)])) w_18)))) (
 R (.returned (.tuple #[(.int .u64 0), (.int .i64 0), (.int .i64 130)])) w_6)) (cs.getD 0 undef) (cs.getD 1 undef)
theorem c80 (b : Option Addr) (bn : Nat) (bc : Nat) (R : Ending → World → Prop) (w : World) (h : vc80 b bn bc R w) : Calls Try.prog 80 #[(.slice b bn bc)] w R :=
  calls_of_vcG (A := { loops := [(1000008, []), (1000005, []), (0, [2, 13])], pars := [] }) (Eq.mpr (show FnVcG Try.prog { loops := [(1000008, []), (1000005, []), (0, [2, 13])], pars := [] } 44 80 [(.slice b bn bc)] R w = vc80 b bn bc R w by kernel_rfl) h)

/-- (*loupe/row.left).take -/
def vc81 (l : Value) (n : Int) (R : Ending → World → Prop) (w : World) : Prop :=
 kNil (cR Try.prog R) w l fun v8 w_1 =>
 kFa (cR Try.prog R) w_1 81 v8 0 fun v9 w_2 =>
 kLoad (cR Try.prog R) w_2 38 v9 fun v10 w_3 =>
 kBlt (cR Try.prog R) w_3 .len #[38] 3 #[false] #[v10] fun v11 w_4 =>
 kBin (cR Try.prog R) w_4 .leq 3 (.int .i64 n) v11 fun v12 w_5 =>
 kCall (cR Try.prog R) w_5 44 #[v12, (.int .i64 210)] fun v13 w_6 =>
 kNil (cR Try.prog R) w_6 l fun v15 w_7 =>
 kFa (cR Try.prog R) w_7 81 v15 0 fun v16 w_8 =>
 kLoad (cR Try.prog R) w_8 38 v16 fun v17 w_9 =>
 kSl (cR Try.prog R) w_9 38 v17 none (some (.int .i64 n)) (some (.int .i64 n)) fun v20 w_10 =>
 kNil (cR Try.prog R) w_10 l fun v23 w_11 =>
 kFa (cR Try.prog R) w_11 81 v23 0 fun v24 w_12 =>
 kLoad (cR Try.prog R) w_12 38 v24 fun v25 w_13 =>
 kSl (cR Try.prog R) w_13 38 v25 (some (.int .i64 n)) none none fun v27 w_14 =>
 kNil (cR Try.prog R) w_14 l fun v28 w_15 =>
 kFa (cR Try.prog R) w_15 81 v28 0 fun v29 w_16 =>
 kStore (cR Try.prog R) w_16 38 v29 v27 fun w_17 =>
 R (.returned v20) w_17
theorem c81 (l : Value) (n : Int) (R : Ending → World → Prop) (w : World) (h : vc81 l n R w) : Calls Try.prog 81 #[l, (.int .i64 n)] w R :=
  calls_of_vc (A := { loops := [], pars := [] }) (Eq.mpr (show FnVc Try.prog { loops := [], pars := [] } 31 81 [l, (.int .i64 n)] R w = vc81 l n R w by kernel_rfl) h)

/-- loupe/octet.ReadString -/
def vc82 (b : Option Addr) (bn : Nat) (bc : Nat) (R : Ending → World → Prop) (w : World) : Prop :=
 kCall (cR Try.prog R) w 80 #[(.slice b bn bc)] fun v11 w_1 =>
 kExt v11 0 fun v12 =>
 kExt v11 1 fun v13 =>
 kExt v11 2 fun v14 =>
 kSl (cR Try.prog R) w_1 38 (.slice b bn bc) (some v13) none none fun v17 w_2 =>
 kBuild (cR Try.prog R) w_2 153 #[(0, v17)] fun v18 w_3 =>
 kBuild (cR Try.prog R) w_3 155 #[(0, v18)] fun v19 w_4 =>
 kBox (cR Try.prog R) w_4 155 v19 fun v20 w_5 =>
 kJn (fun J =>
 kEq (cR Try.prog R) w_5 .neq 28 (.tmp 21) (.const (.int .i64 0)) v14 (.int .i64 0) fun v22 w_14 =>
 kIf v22 (
 kIf (.bool true) (
 R (.returned (.tuple #[(.string ⟨#[]⟩), (.int .i64 0), (.int .i64 130)])) w_14) (
 kD [] [] (J [] w_14))) (
 kNil (cR Try.prog R) w_14 v20 fun v25 w_15 =>
 kFa (cR Try.prog R) w_15 155 v25 0 fun v26 w_16 =>
 kCall (cR Try.prog R) w_16 118 #[v26, v12] fun v28 w_17 =>
 kUn (cR Try.prog R) w_17 .not v28 fun v29 w_18 =>
 kIf v29 (
 R (.returned (.tuple #[(.string ⟨#[]⟩), (.int .i64 0), (.int .i64 130)])) w_18) (
 kD [] [] (J [] w_18)))) (fun cs w_6 => ∀ ds : List Value,
 kNil (cR Try.prog R) w_6 v20 fun v32 w_7 =>
 kFa (cR Try.prog R) w_7 155 v32 0 fun v33 w_8 =>
 kConv (cR Try.prog R) w_8 84 3 v12 fun v35 w_9 =>
 kCall (cR Try.prog R) w_9 119 #[v33, v35] fun v36 w_10 =>
 kConv (cR Try.prog R) w_10 38 9 v36 fun v37 w_11 =>
 kConv (cR Try.prog R) w_11 84 3 v12 fun v40 w_12 =>
 kBin (cR Try.prog R) w_12 .add 3 v13 v40 fun v41 w_13 =>
 R (.returned (.tuple #[v37, v41, (.int .i64 0)])) w_13)
theorem c82 (b : Option Addr) (bn : Nat) (bc : Nat) (R : Ending → World → Prop) (w : World) (h : vc82 b bn bc R w) : Calls Try.prog 82 #[(.slice b bn bc)] w R :=
  calls_of_vc (A := { loops := [(1000005, [])], pars := [] }) (Eq.mpr (show FnVc Try.prog { loops := [(1000005, [])], pars := [] } 42 82 [(.slice b bn bc)] R w = vc82 b bn bc R w by kernel_rfl) h)

/-- loupe/louperef03.ReadString -/
def vc83 (b : Option Addr) (bn : Nat) (bc : Nat) (R : Ending → World → Prop) (w : World) : Prop :=
 kCall (cR Try.prog R) w 47 #[(.slice b bn bc)] fun v10 w_1 =>
 kExt v10 0 fun v11 =>
 kExt v10 1 fun v12 =>
 kExt v10 2 fun v13 =>
 kJn (fun J =>
 kEq (cR Try.prog R) w_1 .neq 3 (.tmp 14) (.const (.int .i64 0)) v13 (.int .i64 0) fun v15 w_9 =>
 kIf v15 (
 kIf (.bool true) (
 R (.returned (.tuple #[(.string ⟨#[]⟩), (.int .i64 0), (.int .i64 130)])) w_9) (
 kD [] [] (J [] w_9))) (
 kBlt (cR Try.prog R) w_9 .len #[38] 3 #[false] #[(.slice b bn bc)] fun v19 w_10 =>
 kBin (cR Try.prog R) w_10 .sub 3 v19 v12 fun v21 w_11 =>
 kConv (cR Try.prog R) w_11 3 84 v21 fun v22 w_12 =>
 kBin (cR Try.prog R) w_12 .gtr 84 v11 v22 fun v23 w_13 =>
 kIf v23 (
 R (.returned (.tuple #[(.string ⟨#[]⟩), (.int .i64 0), (.int .i64 130)])) w_13) (
 kD [] [] (J [] w_13)))) (fun cs w_2 => ∀ ds : List Value,
 kConv (cR Try.prog R) w_2 84 3 v11 fun v29 w_3 =>
 kBin (cR Try.prog R) w_3 .add 3 v12 v29 fun v30 w_4 =>
 kSl (cR Try.prog R) w_4 38 (.slice b bn bc) (some v12) (some v30) none fun v31 w_5 =>
 kConv (cR Try.prog R) w_5 38 9 v31 fun v32 w_6 =>
 kConv (cR Try.prog R) w_6 84 3 v11 fun v35 w_7 =>
 kBin (cR Try.prog R) w_7 .add 3 v12 v35 fun v36 w_8 =>
 R (.returned (.tuple #[v32, v36, (.int .i64 0)])) w_8)
theorem c83 (b : Option Addr) (bn : Nat) (bc : Nat) (R : Ending → World → Prop) (w : World) (h : vc83 b bn bc R w) : Calls Try.prog 83 #[(.slice b bn bc)] w R :=
  calls_of_vc (A := { loops := [(1000004, [])], pars := [] }) (Eq.mpr (show FnVc Try.prog { loops := [(1000004, [])], pars := [] } 37 83 [(.slice b bn bc)] R w = vc83 b bn bc R w by kernel_rfl) h)

/-- loupe/louperef03.Number -/
def vc84 (n : Int) (R : Ending → World → Prop) (w : World) : Prop :=
 kLoopF [(.slice none 0 0), (.int .u64 n)] w fun cs ds w_1 N =>
 (fun x3 x0 =>
 kBin (cR Try.prog R) w_1 .geq 84 x0 (.int .u64 128) fun v5 w_2 =>
 kIf v5 (
 kBin (cR Try.prog R) w_2 .rem 84 x0 (.int .u64 128) fun v8 w_3 =>
 kBin (cR Try.prog R) w_3 .add 84 v8 (.int .u64 128) fun v9 w_4 =>
 kConv (cR Try.prog R) w_4 84 5 v9 fun v10 w_5 =>
 kBuildS (cR Try.prog R) w_5 38 1 #[(0, v10)] fun v11 w_6 =>
 kBlt (cR Try.prog R) w_6 .append #[38, 38] 38 #[false, false] #[x3, v11] fun v12 w_7 =>
 kBin (cR Try.prog R) w_7 .quo 84 x0 (.int .u64 128) fun v14 w_8 =>
 kD [] [] (N [v12, v14] w_8)) (
 kConv (cR Try.prog R) w_2 84 5 x0 fun v17 w_9 =>
 kBuildS (cR Try.prog R) w_9 38 1 #[(0, v17)] fun v18 w_10 =>
 kBlt (cR Try.prog R) w_10 .append #[38, 38] 38 #[false, false] #[x3, v18] fun v19 w_11 =>
 R (.returned v19) w_11)) (cs.getD 0 undef) (cs.getD 1 undef)
theorem c84 (n : Int) (R : Ending → World → Prop) (w : World) (h : vc84 n R w) : Calls Try.prog 84 #[(.int .u64 n)] w R :=
  calls_of_vc (A := { loops := [(0, [3, 0])], pars := [] }) (Eq.mpr (show FnVc Try.prog { loops := [(0, [3, 0])], pars := [] } 20 84 [(.int .u64 n)] R w = vc84 n R w by kernel_rfl) h)

/-- loupe/louperef11.fold -/
def vc85 (n : Int) (R : Ending → World → Prop) (w : World) : Prop :=
 kBin (cR Try.prog R) w .geq 2 (.int .i64 n) (.int .i64 0) fun v4 w_1 =>
 kIf v4 (
 kConv (cR Try.prog R) w_1 2 84 (.int .i64 n) fun v6 w_2 =>
 kBin (cR Try.prog R) w_2 .mul 84 (.int .u64 2) v6 fun v7 w_3 =>
 R (.returned v7) w_3) (
 kBin (cR Try.prog R) w_1 .add 2 (.int .i64 n) (.int .i64 1) fun v9 w_4 =>
 kUn (cR Try.prog R) w_4 .neg v9 fun v10 w_5 =>
 kConv (cR Try.prog R) w_5 2 84 v10 fun v11 w_6 =>
 kBin (cR Try.prog R) w_6 .mul 84 (.int .u64 2) v11 fun v12 w_7 =>
 kBin (cR Try.prog R) w_7 .add 84 v12 (.int .u64 1) fun v13 w_8 =>
 R (.returned v13) w_8)
theorem c85 (n : Int) (R : Ending → World → Prop) (w : World) (h : vc85 n R w) : Calls Try.prog 85 #[(.int .i64 n)] w R :=
  calls_of_vc (A := { loops := [], pars := [] }) (Eq.mpr (show FnVc Try.prog { loops := [], pars := [] } 14 85 [(.int .i64 n)] R w = vc85 n R w by kernel_rfl) h)

/-- loupe/louperef03.String -/
def vc86 (s : ByteArray) (R : Ending → World → Prop) (w : World) : Prop :=
 kBlt (cR Try.prog R) w .len #[9] 3 #[false] #[(.string s)] fun v4 w_1 =>
 kConv (cR Try.prog R) w_1 3 84 v4 fun v5 w_2 =>
 kCall (cR Try.prog R) w_2 84 #[v5] fun v6 w_3 =>
 kBlt (cR Try.prog R) w_3 .append #[38, 9] 38 #[false, false] #[v6, (.string s)] fun v8 w_4 =>
 R (.returned v8) w_4
theorem c86 (s : ByteArray) (R : Ending → World → Prop) (w : World) (h : vc86 s R w) : Calls Try.prog 86 #[(.string s)] w R :=
  calls_of_vc (A := { loops := [], pars := [] }) (Eq.mpr (show FnVc Try.prog { loops := [], pars := [] } 9 86 [(.string s)] R w = vc86 s R w by kernel_rfl) h)

/-- loupe/value.Check$1 -/
def vc88  (R : Ending → World → Prop) (w : World) : Prop :=
 R (.returned (.tuple #[])) w
theorem c88  (R : Ending → World → Prop) (w : World) (h : vc88  R w) : Calls Try.prog 88 #[] w R :=
  calls_of_vc (A := { loops := [], pars := [] }) (Eq.mpr (show FnVc Try.prog { loops := [], pars := [] } 0 88 [] R w = vc88  R w by kernel_rfl) h)

/-- loupe/value.right -/
def vc89 (v0 : Int) (v1 : Int) (v2 : ByteArray) (R : Ending → World → Prop) (w : World) : Prop :=
 kBox (cR Try.prog R) w 49 (.agg #[(.int .i64 v0), (.int .i64 v1), (.string v2)]) fun v1_1 w_1 =>
 kFa (cR Try.prog R) w_1 49 v1_1 2 fun v3 w_2 =>
 kLoad (cR Try.prog R) w_2 9 v3 fun v4 w_3 =>
 kBlt (cR Try.prog R) w_3 .len #[9] 3 #[false] #[v4] fun v5 w_4 =>
 kBin (cR Try.prog R) w_4 .leq 3 v5 (.int .i64 1000) fun v6 w_5 =>
 kCall (cR Try.prog R) w_5 120 #[v6, (.int .i64 3)] fun v7 w_6 =>
 kFa (cR Try.prog R) w_6 49 v1_1 0 fun v8 w_7 =>
 kLoad (cR Try.prog R) w_7 47 v8 fun v9 w_8 =>
 kBuild (cR Try.prog R) w_8 49 #[(0, v9)] fun v10 w_9 =>
 kAlloc (cR Try.prog R) w_9 49 fun v2_1 w_10 =>
 kStore (cR Try.prog R) w_10 49 v2_1 v10 fun w_11 =>
 kJn (fun J =>
 kFa (cR Try.prog R) w_11 49 v1_1 0 fun v11 w_25 =>
 kLoad (cR Try.prog R) w_25 47 v11 fun v12 w_26 =>
 kEq (cR Try.prog R) w_26 .eql 47 (.tmp 12) (.const (.int .i64 1)) v12 (.int .i64 1) fun v14 w_27 =>
 kIf v14 (
 kFa (cR Try.prog R) w_27 49 v1_1 1 fun v15 w_28 =>
 kLoad (cR Try.prog R) w_28 2 v15 fun v16 w_29 =>
 kBin (cR Try.prog R) w_29 .and 2 v16 (.int .i64 1) fun v17 w_30 =>
 kFa (cR Try.prog R) w_30 49 v2_1 1 fun v18 w_31 =>
 kStore (cR Try.prog R) w_31 2 v18 v17 fun w_32 =>
 kD [] [] (J [] w_32)) (
 kEq (cR Try.prog R) w_27 .eql 47 (.tmp 12) (.const (.int .i64 2)) v12 (.int .i64 2) fun v20 w_33 =>
 kIf v20 (
 kFa (cR Try.prog R) w_33 49 v1_1 1 fun v21 w_34 =>
 kLoad (cR Try.prog R) w_34 2 v21 fun v22 w_35 =>
 kFa (cR Try.prog R) w_35 49 v2_1 1 fun v23 w_36 =>
 kStore (cR Try.prog R) w_36 2 v23 v22 fun w_37 =>
 kD [] [] (J [] w_37)) (
 kJn (fun J_1 =>
 kEq (cR Try.prog R) w_33 .eql 47 (.tmp 12) (.const (.int .i64 3)) v12 (.int .i64 3) fun v25 w_43 =>
 kIf v25 (
 kD [] [] (J_1 [v25] w_43)) (
 kEq (cR Try.prog R) w_43 .eql 47 (.tmp 12) (.const (.int .i64 4)) v12 (.int .i64 4) fun v26 w_44 =>
 kD [] [] (J_1 [v26] w_44))) (fun cs_1 w_38 => ∀ ds_1 : List Value,
 (fun j24 =>
 kIf j24 (
 kFa (cR Try.prog R) w_38 49 v1_1 2 fun v27 w_39 =>
 kLoad (cR Try.prog R) w_39 9 v27 fun v28 w_40 =>
 kFa (cR Try.prog R) w_40 49 v2_1 2 fun v29 w_41 =>
 kStore (cR Try.prog R) w_41 9 v29 v28 fun w_42 =>
 kD [] [] (J [] w_42)) (
 kD [] [] (J [] w_38))) (cs_1.getD 0 undef))))) (fun cs w_12 => ∀ ds : List Value,
 kLoad (cR Try.prog R) w_12 49 v2_1 fun v30 w_13 =>
 kLoad (cR Try.prog R) w_13 49 v1_1 fun v31 w_14 =>
 kEq (cR Try.prog R) w_14 .eql 49 (.tmp 30) (.tmp 31) v30 v31 fun v32 w_15 =>
 kIf v32 (
 kFa (cR Try.prog R) w_15 49 v1_1 0 fun v34 w_16 =>
 kLoad (cR Try.prog R) w_16 47 v34 fun v35 w_17 =>
 kBin (cR Try.prog R) w_17 .geq 47 v35 (.int .i64 0) fun v36 w_18 =>
 kIf v36 (
 kFa (cR Try.prog R) w_18 49 v1_1 0 fun v39 w_19 =>
 kLoad (cR Try.prog R) w_19 47 v39 fun v40 w_20 =>
 kBin (cR Try.prog R) w_20 .leq 47 v40 (.int .i64 4) fun v41 w_21 =>
 kCall (cR Try.prog R) w_21 120 #[v41, (.int .i64 2)] fun v43 w_22 =>
 R (.returned (.tuple #[])) w_22) (
 kCall (cR Try.prog R) w_18 120 #[(.bool false), (.int .i64 2)] fun v43_1 w_23 =>
 R (.returned (.tuple #[])) w_23)) (
 kCall (cR Try.prog R) w_15 120 #[(.bool false), (.int .i64 2)] fun v43_2 w_24 =>
 R (.returned (.tuple #[])) w_24))
theorem c89 (v0 : Int) (v1 : Int) (v2 : ByteArray) (R : Ending → World → Prop) (w : World) (h : vc89 v0 v1 v2 R w) : Calls Try.prog 89 #[(.agg #[(.int .i64 v0), (.int .i64 v1), (.string v2)])] w R :=
  calls_of_vc (A := { loops := [(1000011, []), (1000010, [24])], pars := [] }) (Eq.mpr (show FnVc Try.prog { loops := [(1000011, []), (1000010, [24])], pars := [] } 44 89 [(.agg #[(.int .i64 v0), (.int .i64 v1), (.string v2)])] R w = vc89 v0 v1 v2 R w by kernel_rfl) h)

/-- loupe/louperef01.number -/
def vc108 (a : Int) (b : Int) (R : Ending → World → Prop) (w : World) : Prop :=
 kBin (cR Try.prog R) w .lss 2 (.int .i64 a) (.int .i64 b) fun v7 w_1 =>
 kIf v7 (
 R (.returned (.int .i64 (-1))) w_1) (
 kBin (cR Try.prog R) w_1 .gtr 2 (.int .i64 a) (.int .i64 b) fun v10 w_2 =>
 kIf v10 (
 R (.returned (.int .i64 1)) w_2) (
 R (.returned (.int .i64 0)) w_2))
theorem c108 (a : Int) (b : Int) (R : Ending → World → Prop) (w : World) (h : vc108 a b R w) : Calls Try.prog 108 #[(.int .i64 a), (.int .i64 b)] w R :=
  calls_of_vc (A := { loops := [], pars := [] }) (Eq.mpr (show FnVc Try.prog { loops := [], pars := [] } 11 108 [(.int .i64 a), (.int .i64 b)] R w = vc108 a b R w by kernel_rfl) h)

/-- slices.Values[[]loupe/api.Value,loupe/api.Value]$1 -/
def vc112 (yield : Value) (f0 : Value) (R : Ending → World → Prop) (w : World) : Prop :=
 kLoad (cR Try.prog R) w 22 f0 fun v5 w_1 =>
 kBlt (cR Try.prog R) w_1 .len #[22] 3 #[false] #[v5] fun v6 w_2 =>
 kLoopF [(.int .i64 0)] w_2 fun cs ds w_3 N =>
 (fun x7 =>
 kBin (cR Try.prog R) w_3 .lss 3 x7 v6 fun v8 w_4 =>
 kIf v8 (
 kIa (cR Try.prog R) w_4 22 v5 x7 fun v9 w_5 =>
 kLoad (cR Try.prog R) w_5 49 v9 fun v10 w_6 =>
 kAlloc (cR Try.prog R) w_6 49 fun v4 w_7 =>
 kStore (cR Try.prog R) w_7 49 v4 v10 fun w_8 =>
 kLoad (cR Try.prog R) w_8 49 v4 fun v12 w_9 =>
 kCallV (cR Try.prog R) w_9 yield #[v12] fun v13 w_10 =>
 kUn (cR Try.prog R) w_10 .not v13 fun v14 w_11 =>
 kIf v14 (
 R (.returned (.tuple #[])) w_11) (
 kBin (cR Try.prog R) w_11 .add 3 x7 (.int .i64 1) fun v15 w_12 =>
 kD [] [] (N [v15] w_12))) (
 R (.returned (.tuple #[])) w_4)) (cs.getD 0 undef)
theorem c112 (yield : Value) (f0 : Value) (R : Ending → World → Prop) (w : World) (h : vc112 yield f0 R w) : Calls Try.prog 112 #[yield, f0] w R :=
  calls_of_vc (A := { loops := [(0, [7])], pars := [] }) (Eq.mpr (show FnVc Try.prog { loops := [(0, [7])], pars := [] } 16 112 [yield, f0] R w = vc112 yield f0 R w by kernel_rfl) h)

/-- loupe/row.laid$1 -/
def vc113 (v0 : Int) (v1 : Int) (v2 : ByteArray) (R : Ending → World → Prop) (w : World) : Prop :=
 kBox (cR Try.prog R) w 49 (.agg #[(.int .i64 v0), (.int .i64 v1), (.string v2)]) fun v1_1 w_1 =>
 kFa (cR Try.prog R) w_1 49 v1_1 2 fun v3 w_2 =>
 kLoad (cR Try.prog R) w_2 9 v3 fun v4 w_3 =>
 kCall (cR Try.prog R) w_3 114 #[v4] fun v5 w_4 =>
 R (.returned v5) w_4
theorem c113 (v0 : Int) (v1 : Int) (v2 : ByteArray) (R : Ending → World → Prop) (w : World) (h : vc113 v0 v1 v2 R w) : Calls Try.prog 113 #[(.agg #[(.int .i64 v0), (.int .i64 v1), (.string v2)])] w R :=
  calls_of_vc (A := { loops := [], pars := [] }) (Eq.mpr (show FnVc Try.prog { loops := [], pars := [] } 6 113 [(.agg #[(.int .i64 v0), (.int .i64 v1), (.string v2)])] R w = vc113 v0 v1 v2 R w by kernel_rfl) h)

/-- loupe/octet.String -/
def vc114 (s : ByteArray) (R : Ending → World → Prop) (w : World) : Prop :=
 kBlt (cR Try.prog R) w .len #[9] 3 #[false] #[(.string s)] fun v4 w_1 =>
 kConv (cR Try.prog R) w_1 3 84 v4 fun v5 w_2 =>
 kCall (cR Try.prog R) w_2 77 #[v5] fun v6 w_3 =>
 kBlt (cR Try.prog R) w_3 .append #[38, 9] 38 #[false, false] #[v6, (.string s)] fun v8 w_4 =>
 R (.returned v8) w_4
theorem c114 (s : ByteArray) (R : Ending → World → Prop) (w : World) (h : vc114 s R w) : Calls Try.prog 114 #[(.string s)] w R :=
  calls_of_vc (A := { loops := [], pars := [] }) (Eq.mpr (show FnVc Try.prog { loops := [], pars := [] } 9 114 [(.string s)] R w = vc114 s R w by kernel_rfl) h)

/-- loupe/row.laid$2 -/
def vc115 (a0 : Int) (a1 : Int) (a2 : ByteArray) (R : Ending → World → Prop) (w : World) : Prop :=
 kBox (cR Try.prog R) w 49 (.agg #[(.int .i64 a0), (.int .i64 a1), (.string a2)]) fun v1 w_1 =>
 R (.returned (.slice none 0 0)) w_1
theorem c115 (a0 : Int) (a1 : Int) (a2 : ByteArray) (R : Ending → World → Prop) (w : World) (h : vc115 a0 a1 a2 R w) : Calls Try.prog 115 #[(.agg #[(.int .i64 a0), (.int .i64 a1), (.string a2)])] w R :=
  calls_of_vc (A := { loops := [], pars := [] }) (Eq.mpr (show FnVc Try.prog { loops := [], pars := [] } 3 115 [(.agg #[(.int .i64 a0), (.int .i64 a1), (.string a2)])] R w = vc115 a0 a1 a2 R w by kernel_rfl) h)

/-- loupe/row.laid$3 -/
def vc116 (v0 : Int) (v1 : Int) (v2 : ByteArray) (R : Ending → World → Prop) (w : World) : Prop :=
 kBox (cR Try.prog R) w 49 (.agg #[(.int .i64 v0), (.int .i64 v1), (.string v2)]) fun v1_1 w_1 =>
 kFa (cR Try.prog R) w_1 49 v1_1 1 fun v3 w_2 =>
 kLoad (cR Try.prog R) w_2 2 v3 fun v4 w_3 =>
 kConv (cR Try.prog R) w_3 2 5 v4 fun v5 w_4 =>
 kBuildS (cR Try.prog R) w_4 38 1 #[(0, v5)] fun v6 w_5 =>
 R (.returned v6) w_5
theorem c116 (v0 : Int) (v1 : Int) (v2 : ByteArray) (R : Ending → World → Prop) (w : World) (h : vc116 v0 v1 v2 R w) : Calls Try.prog 116 #[(.agg #[(.int .i64 v0), (.int .i64 v1), (.string v2)])] w R :=
  calls_of_vc (A := { loops := [], pars := [] }) (Eq.mpr (show FnVc Try.prog { loops := [], pars := [] } 7 116 [(.agg #[(.int .i64 v0), (.int .i64 v1), (.string v2)])] R w = vc116 v0 v1 v2 R w by kernel_rfl) h)

/-- loupe/row.laid$4 -/
def vc117 (v0 : Int) (v1 : Int) (v2 : ByteArray) (R : Ending → World → Prop) (w : World) : Prop :=
 kBox (cR Try.prog R) w 49 (.agg #[(.int .i64 v0), (.int .i64 v1), (.string v2)]) fun v1_1 w_1 =>
 kFa (cR Try.prog R) w_1 49 v1_1 1 fun v3 w_2 =>
 kLoad (cR Try.prog R) w_2 2 v3 fun v4 w_3 =>
 kBin (cR Try.prog R) w_3 .shl 2 v4 (.int .u64 1) fun v5 w_4 =>
 kConv (cR Try.prog R) w_4 2 84 v5 fun v6 w_5 =>
 kFa (cR Try.prog R) w_5 49 v1_1 1 fun v7 w_6 =>
 kLoad (cR Try.prog R) w_6 2 v7 fun v8 w_7 =>
 kBin (cR Try.prog R) w_7 .shr 2 v8 (.int .u64 63) fun v9 w_8 =>
 kConv (cR Try.prog R) w_8 2 84 v9 fun v10 w_9 =>
 kBin (cR Try.prog R) w_9 .xor 84 v6 v10 fun v11 w_10 =>
 kCall (cR Try.prog R) w_10 77 #[v11] fun v12 w_11 =>
 R (.returned v12) w_11
theorem c117 (v0 : Int) (v1 : Int) (v2 : ByteArray) (R : Ending → World → Prop) (w : World) (h : vc117 v0 v1 v2 R w) : Calls Try.prog 117 #[(.agg #[(.int .i64 v0), (.int .i64 v1), (.string v2)])] w R :=
  calls_of_vc (A := { loops := [], pars := [] }) (Eq.mpr (show FnVc Try.prog { loops := [], pars := [] } 13 117 [(.agg #[(.int .i64 v0), (.int .i64 v1), (.string v2)])] R w = vc117 v0 v1 v2 R w by kernel_rfl) h)

/-- (*loupe/octet.left).has -/
def vc118 (l : Value) (n : Int) (R : Ending → World → Prop) (w : World) : Prop :=
 kNil (cR Try.prog R) w l fun v7 w_1 =>
 kFa (cR Try.prog R) w_1 153 v7 0 fun v8 w_2 =>
 kLoad (cR Try.prog R) w_2 38 v8 fun v9 w_3 =>
 kBlt (cR Try.prog R) w_3 .len #[38] 3 #[false] #[v9] fun v10 w_4 =>
 kConv (cR Try.prog R) w_4 3 84 v10 fun v11 w_5 =>
 kBin (cR Try.prog R) w_5 .leq 84 (.int .u64 n) v11 fun v12 w_6 =>
 R (.returned v12) w_6
theorem c118 (l : Value) (n : Int) (R : Ending → World → Prop) (w : World) (h : vc118 l n R w) : Calls Try.prog 118 #[l, (.int .u64 n)] w R :=
  calls_of_vc (A := { loops := [], pars := [] }) (Eq.mpr (show FnVc Try.prog { loops := [], pars := [] } 13 118 [l, (.int .u64 n)] R w = vc118 l n R w by kernel_rfl) h)

/-- (*loupe/octet.left).take -/
def vc119 (l : Value) (n : Int) (R : Ending → World → Prop) (w : World) : Prop :=
 kNil (cR Try.prog R) w l fun v7 w_1 =>
 kFa (cR Try.prog R) w_1 153 v7 0 fun v8 w_2 =>
 kLoad (cR Try.prog R) w_2 38 v8 fun v9 w_3 =>
 kSl (cR Try.prog R) w_3 38 v9 none (some (.int .i64 n)) (some (.int .i64 n)) fun v12 w_4 =>
 kNil (cR Try.prog R) w_4 l fun v15 w_5 =>
 kFa (cR Try.prog R) w_5 153 v15 0 fun v16 w_6 =>
 kLoad (cR Try.prog R) w_6 38 v16 fun v17 w_7 =>
 kSl (cR Try.prog R) w_7 38 v17 (some (.int .i64 n)) none none fun v19 w_8 =>
 kNil (cR Try.prog R) w_8 l fun v20 w_9 =>
 kFa (cR Try.prog R) w_9 153 v20 0 fun v21 w_10 =>
 kStore (cR Try.prog R) w_10 38 v21 v19 fun w_11 =>
 R (.returned v12) w_11
theorem c119 (l : Value) (n : Int) (R : Ending → World → Prop) (w : World) (h : vc119 l n R w) : Calls Try.prog 119 #[l, (.int .i64 n)] w R :=
  calls_of_vc (A := { loops := [], pars := [] }) (Eq.mpr (show FnVc Try.prog { loops := [], pars := [] } 23 119 [l, (.int .i64 n)] R w = vc119 l n R w by kernel_rfl) h)

/-- loupe/value.must -/
def vc120 (fine : Bool) (eA : Int) (R : Ending → World → Prop) (w : World) : Prop :=
 kUn (cR Try.prog R) w .not (.bool fine) fun v5 w_1 =>
 kIf v5 (
 kMkI (cR Try.prog R) w_1 28 (.int .i64 eA) fun v7 w_2 =>
 kPanic (cR Try.prog R) w_2 v7) (
 R (.returned (.tuple #[])) w_1)
theorem c120 (fine : Bool) (eA : Int) (R : Ending → World → Prop) (w : World) (h : vc120 fine eA R w) : Calls Try.prog 120 #[(.bool fine), (.int .i64 eA)] w R :=
  calls_of_vc (A := { loops := [], pars := [] }) (Eq.mpr (show FnVc Try.prog { loops := [], pars := [] } 8 120 [(.bool fine), (.int .i64 eA)] R w = vc120 fine eA R w by kernel_rfl) h)

end Go.L
