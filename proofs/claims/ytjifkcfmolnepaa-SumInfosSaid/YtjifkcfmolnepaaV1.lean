/- What is to be shown of single functions, printed by a program and compared with the translation by the kernel: no condition. -/
import Derived.Test.YtjifkcfmolnepaaA1
import Derived.Test.YtjifkcfmolnepaaProg
set_option linter.unusedVariables false
set_option linter.unusedSimpArgs false
namespace Go.L
open Go Go.RowKit Go.Proofs
set_option maxRecDepth 100000
set_option linter.unusedVariables false

/-- loupe/loupelaw11.RowPicks -/
def vc3 (l : Option Addr) (ln : Nat) (lc : Nat) (atA : Option Addr) (atAn : Nat) (atAc : Nat) (t : Option Addr) (tn : Nat) (tc : Nat) (R : Ending → World → Prop) (w : World) : Prop :=
 kJn (fun J =>
 kCall (cR Try.prog R) w 10 #[(.slice l ln lc)] fun v14 w_26 =>
 kUn (cR Try.prog R) w_26 .not v14 fun v15 w_27 =>
 kIf v15 (
 kIf (.bool true) (
 kCall (cR Try.prog R) w_27 11 #[] fun v26 w_28 =>
 R (.returned v26) w_28) (
 kD [] [] (J [] w_27))) (
 kBlt (cR Try.prog R) w_27 .len #[23] 3 #[false] #[(.slice atA atAn atAc)] fun v18 w_29 =>
 kBin (cR Try.prog R) w_29 .gtr 3 v18 (.int .i64 40) fun v19 w_30 =>
 kIf v19 (
 kIf (.bool true) (
 kCall (cR Try.prog R) w_30 11 #[] fun v26_1 w_31 =>
 R (.returned v26_1) w_31) (
 kD [] [] (J [] w_30))) (
 kBlt (cR Try.prog R) w_30 .len #[24] 3 #[false] #[(.slice t tn tc)] fun v23 w_32 =>
 kBin (cR Try.prog R) w_32 .gtr 3 v23 (.int .i64 40) fun v24 w_33 =>
 kIf v24 (
 kCall (cR Try.prog R) w_33 11 #[] fun v26_2 w_34 =>
 R (.returned v26_2) w_34) (
 kD [] [] (J [] w_33))))) (fun cs w_1 => ∀ ds : List Value,
 kLoopF [(.slice none 0 0), (.int .i64 0)] w_1 fun cs_1 ds_1 w_2 N =>
 (fun x7 x8 =>
 kBlt (cR Try.prog R) w_2 .len #[24] 3 #[false] #[(.slice t tn tc)] fun v29 w_3 =>
 kBin (cR Try.prog R) w_3 .lss 3 x8 v29 fun v30 w_4 =>
 kIf v30 (
 kIa (cR Try.prog R) w_4 24 (.slice t tn tc) x8 fun v36 w_5 =>
 kLoad (cR Try.prog R) w_5 27 v36 fun v37 w_6 =>
 kBuildS (cR Try.prog R) w_6 23 1 #[(0, v37)] fun v38 w_7 =>
 kBlt (cR Try.prog R) w_7 .append #[23, 23] 23 #[false, false] #[x7, v38] fun v39 w_8 =>
 kBin (cR Try.prog R) w_8 .add 3 x8 (.int .i64 1) fun v32 w_9 =>
 kD [] [] (N [v39, v32] w_9)) (
 kCall (cR Try.prog R) w_4 12 #[(.slice l ln lc), (.slice atA atAn atAc)] fun v43 w_10 =>
 kExt v43 0 fun v44 =>
 kExt v43 1 fun v45 =>
 kCall (cR Try.prog R) w_10 13 #[(.slice l ln lc), (.slice atA atAn atAc)] fun v49 w_11 =>
 kExt v49 0 fun v50 =>
 kExt v49 1 fun v51 =>
 kCall (cR Try.prog R) w_11 14 #[v44, v50] fun v54 w_12 =>
 kIf v54 (
 kCall (cR Try.prog R) w_12 15 #[v45] fun v57 w_13 =>
 kEq (cR Try.prog R) w_13 .eql 3 (.tmp 57) (.const (.int .i64 0)) v57 (.int .i64 0) fun v58 w_14 =>
 kEq (cR Try.prog R) w_14 .eql 4 (.tmp 58) (.tmp 59) v58 v51 fun v60 w_15 =>
 kIf v60 (
 kIf v51 (
 kCall (cR Try.prog R) w_15 16 #[(.slice l ln lc), (.slice t tn tc)] fun v73 w_16 =>
 kCall (cR Try.prog R) w_16 17 #[(.slice l ln lc), x7] fun v76 w_17 =>
 kEq (cR Try.prog R) w_17 .eql 4 (.tmp 73) (.tmp 76) v73 v76 fun v77 w_18 =>
 kIf v77 (
 kCall (cR Try.prog R) w_18 11 #[] fun v80 w_19 =>
 R (.returned v80) w_19) (
 R (.returned (.bool false)) w_18)) (
 kCall (cR Try.prog R) w_15 15 #[v45] fun v66 w_20 =>
 kEq (cR Try.prog R) w_20 .eql 3 (.tmp 66) (.const (.int .i64 4)) v66 (.int .i64 4) fun v67 w_21 =>
 kIf v67 (
 kCall (cR Try.prog R) w_21 16 #[(.slice l ln lc), (.slice t tn tc)] fun v73_1 w_22 =>
 kCall (cR Try.prog R) w_22 17 #[(.slice l ln lc), x7] fun v76_1 w_23 =>
 kEq (cR Try.prog R) w_23 .eql 4 (.tmp 73) (.tmp 76) v73_1 v76_1 fun v77_1 w_24 =>
 kIf v77_1 (
 kCall (cR Try.prog R) w_24 11 #[] fun v80_1 w_25 =>
 R (.returned v80_1) w_25) (
 R (.returned (.bool false)) w_24)) (
 R (.returned (.bool false)) w_21))) (
 R (.returned (.bool false)) w_15)) (
 R (.returned (.bool false)) w_12))) (cs_1.getD 0 undef) (cs_1.getD 1 undef))
theorem c3 (l : Option Addr) (ln : Nat) (lc : Nat) (atA : Option Addr) (atAn : Nat) (atAc : Nat) (t : Option Addr) (tn : Nat) (tc : Nat) (R : Ending → World → Prop) (w : World) (h : vc3 l ln lc atA atAn atAc t tn tc R w) : Calls Try.prog 3 #[(.slice l ln lc), (.slice atA atAn atAc), (.slice t tn tc)] w R :=
  calls_of_vc (A := { loops := [(0, [7, 8]), (1000003, [])], pars := [] }) (Eq.mpr (show FnVc Try.prog { loops := [(0, [7, 8]), (1000003, [])], pars := [] } 82 3 [(.slice l ln lc), (.slice atA atAn atAc), (.slice t tn tc)] R w = vc3 l ln lc atA atAn atAc t tn tc R w by kernel_rfl) h)

/-- loupe/loupelaw11.RowHolds -/
def vc4 (a : Option Addr) (an : Nat) (ac : Nat) (b : Option Addr) (bn : Nat) (bc : Nat) (R : Ending → World → Prop) (w : World) : Prop :=
 kJn (fun J =>
 kCall (cR Try.prog R) w 10 #[(.slice a an ac)] fun v14 w_36 =>
 kUn (cR Try.prog R) w_36 .not v14 fun v15 w_37 =>
 kIf v15 (
 kIf (.bool true) (
 kCall (cR Try.prog R) w_37 11 #[] fun v21 w_38 =>
 R (.returned v21) w_38) (
 kD [] [] (J [] w_37))) (
 kCall (cR Try.prog R) w_37 10 #[(.slice b bn bc)] fun v18 w_39 =>
 kUn (cR Try.prog R) w_39 .not v18 fun v19 w_40 =>
 kIf v19 (
 kCall (cR Try.prog R) w_40 11 #[] fun v21_1 w_41 =>
 R (.returned v21_1) w_41) (
 kD [] [] (J [] w_40)))) (fun cs w_1 => ∀ ds : List Value,
 kCall (cR Try.prog R) w_1 18 #[(.slice a an ac)] fun v24 w_2 =>
 kExt v24 0 fun v25 =>
 kExt v24 1 fun v26 =>
 kCall (cR Try.prog R) w_2 18 #[(.slice b bn bc)] fun v29 w_3 =>
 kExt v29 0 fun v30 =>
 kExt v29 1 fun v31 =>
 kCall (cR Try.prog R) w_3 15 #[v26] fun v33 w_4 =>
 kCall (cR Try.prog R) w_4 15 #[v31] fun v35 w_5 =>
 kBin (cR Try.prog R) w_5 .add 3 v33 v35 fun v36 w_6 =>
 kEq (cR Try.prog R) w_6 .neq 3 (.tmp 36) (.const (.int .i64 0)) v36 (.int .i64 0) fun v37 w_7 =>
 kIf v37 (
 kCall (cR Try.prog R) w_7 11 #[] fun v38 w_8 =>
 R (.returned v38) w_8) (
 kLoopF [(.slice none 0 0), (.int .i64 0)] w_7 fun cs_1 ds_1 w_9 N =>
 (fun x9 x10 =>
 kBlt (cR Try.prog R) w_9 .len #[22] 3 #[false] #[(.slice a an ac)] fun v41 w_10 =>
 kBin (cR Try.prog R) w_10 .lss 3 x10 v41 fun v42 w_11 =>
 kIf v42 (
 kBuildS (cR Try.prog R) w_11 23 1 #[(0, x10)] fun v47 w_12 =>
 kBlt (cR Try.prog R) w_12 .append #[23, 23] 23 #[false, false] #[x9, v47] fun v48 w_13 =>
 kBin (cR Try.prog R) w_13 .add 3 x10 (.int .i64 1) fun v44 w_14 =>
 kD [] [] (N [v48, v44] w_14)) (
 kCall (cR Try.prog R) w_11 12 #[(.slice a an ac), x9] fun v52 w_15 =>
 kExt v52 0 fun v53 =>
 kExt v52 1 fun v54 =>
 kDrawn true (
 kDrawn true (
 kConv (cQ Try.prog) w_15 38 9 v25 fun v56 w_16 =>
 kConv (cQ Try.prog) w_16 38 9 v30 fun v58 w_17 =>
 kEq (cQ Try.prog) w_17 .eql 9 (.tmp 56) (.tmp 58) v56 v58 fun v59 w_18 =>
 kDrew w_18 fun w_19 =>
 (fun (c : Cx) =>
 kCall c w_19 14 #[(.slice a an ac), (.slice b bn bc)] fun v62 w_20 =>
 kConv (cQ Try.prog) w_20 38 9 v25 fun v56_1 w_21 =>
 kSame v56_1 v56 (
 kConv (cQ Try.prog) w_20 38 9 v30 fun v58_1 w_22 =>
 kSame v58_1 v58 (
 kEq (cQ Try.prog) w_20 .eql 9 (.tmp 56) (.tmp 58) v56 v58 fun v59_1 w_23 =>
 kSame v59_1 v59 (
 kEq (cQ Try.prog) w_20 .eql 4 (.tmp 59) (.tmp 62) v59 v62 fun v63 w_24 =>
 kIf v63 (
 kDrew w_24 fun w_25 =>
 kCall c w_25 14 #[v53, (.slice a an ac)] fun v67 w_26 =>
 kIf v67 (
 kDrew w_26 fun w_27 =>
 kCall c w_27 15 #[v54] fun v71 w_28 =>
 kEq (cQ Try.prog) w_28 .eql 3 (.tmp 71) (.const (.int .i64 0)) v71 (.int .i64 0) fun v72 w_29 =>
 kIf v72 (
 kDrew w_29 fun w_30 =>
 kCall c w_30 11 #[] fun v75 w_31 =>
 kDrew w_31 fun w_32 =>
 R (.returned v75) w_32) (
 kDrew w_29 fun w_33 =>
 R (.returned (.bool false)) w_33)) (
 kDrew w_26 fun w_34 =>
 R (.returned (.bool false)) w_34)) (
 kDrew w_24 fun w_35 =>
 R (.returned (.bool false)) w_35))))) ⟨Try.prog, fun ch w => ∀ _ : List Value, R (.panicked ch) w, false⟩)))) (cs_1.getD 0 undef) (cs_1.getD 1 undef)))
theorem c4 (a : Option Addr) (an : Nat) (ac : Nat) (b : Option Addr) (bn : Nat) (bc : Nat) (R : Ending → World → Prop) (w : World) (h : vc4 a an ac b bn bc R w) : Calls Try.prog 4 #[(.slice a an ac), (.slice b bn bc)] w R :=
  calls_of_vc (A := { loops := [(0, [9, 10]), (1000003, [])], pars := [], chs := [(13, (.q 0 (.q 1 (.q 2 (.q 3 (.q 4 (.q 5 (.q 6 (.e 7 (.q 8 (.q 9 (.q 10 (.q 11 (.e 12 (.q 13 (.q 14 (.q 15 (.e 16 (.q 17 (.q 18 (.q 19 (.e 20 (.q 21 .done)))))))))))))))))))))))] }) (Eq.mpr (show FnVc Try.prog { loops := [(0, [9, 10]), (1000003, [])], pars := [], chs := [(13, (.q 0 (.q 1 (.q 2 (.q 3 (.q 4 (.q 5 (.q 6 (.e 7 (.q 8 (.q 9 (.q 10 (.q 11 (.e 12 (.q 13 (.q 14 (.q 15 (.e 16 (.q 17 (.q 18 (.q 19 (.e 20 (.q 21 .done)))))))))))))))))))))))] } 77 4 [(.slice a an ac), (.slice b bn bc)] R w = vc4 a an ac b bn bc R w by kernel_rfl) h)

/-- loupe/loupelaw11.RowReads -/
def vc5 (b : Option Addr) (bn : Nat) (bc : Nat) (many : Int) (R : Ending → World → Prop) (w : World) : Prop :=
 kBox (cR Try.prog R) w 3 (.int .i64 many) fun v3 w_1 =>
 kAlloc (cR Try.prog R) w_1 4 fun v4 w_2 =>
 kBlt (cR Try.prog R) w_2 .len #[38] 3 #[false] #[(.slice b bn bc)] fun v15 w_3 =>
 kBin (cR Try.prog R) w_3 .gtr 3 v15 (.int .i64 4100) fun v16 w_4 =>
 kIf v16 (
 kCall (cR Try.prog R) w_4 11 #[] fun v17 w_5 =>
 kStore (cR Try.prog R) w_5 4 v4 v17 fun w_6 =>
 RetK Try.prog [.cell v4 4] R w_6) (
 kCall (cR Try.prog R) w_4 19 #[(.slice b bn bc)] fun v20 w_7 =>
 kExt v20 0 fun v21 =>
 kExt v20 1 fun v22 =>
 kCall (cR Try.prog R) w_7 20 #[(.slice b bn bc)] fun v25 w_8 =>
 kExt v25 0 fun v26 =>
 kExt v25 1 fun v27 =>
 kAlloc (cR Try.prog R) w_8 22 fun v7 w_9 =>
 kStore (cR Try.prog R) w_9 22 v7 v26 fun w_10 =>
 kCall (cR Try.prog R) w_10 21 #[(.slice b bn bc)] fun v29 w_11 =>
 kJn (fun J =>
 kLoad (cR Try.prog R) w_11 22 v7 fun v31 w_93 =>
 kCall (cR Try.prog R) w_93 14 #[v21, v31] fun v32 w_94 =>
 kUn (cR Try.prog R) w_94 .not v32 fun v33 w_95 =>
 kIf v33 (
 kIf (.bool true) (
 kStore (cR Try.prog R) w_95 4 v4 (.bool false) fun w_96 =>
 RetK Try.prog [.cell v4 4] R w_96) (
 kD [] [] (J [] w_95))) (
 kCall (cR Try.prog R) w_95 15 #[v22] fun v36 w_97 =>
 kEq (cR Try.prog R) w_97 .neq 3 (.tmp 36) (.tmp 37) v36 v27 fun v38 w_98 =>
 kIf v38 (
 kIf (.bool true) (
 kStore (cR Try.prog R) w_98 4 v4 (.bool false) fun w_99 =>
 RetK Try.prog [.cell v4 4] R w_99) (
 kD [] [] (J [] w_98))) (
 kEq (cR Try.prog R) w_98 .eql 45 (.tmp 41) (.const .nilFunc) v29 .nilFunc fun v42 w_100 =>
 kIf v42 (
 kStore (cR Try.prog R) w_100 4 v4 (.bool false) fun w_101 =>
 RetK Try.prog [.cell v4 4] R w_101) (
 kD [] [] (J [] w_100))))) (fun cs w_12 => ∀ ds : List Value,
 kAlloc (cR Try.prog R) w_12 3 fun v10 w_13 =>
 kStore (cR Try.prog R) w_13 3 v10 (.int .i64 0) fun w_14 =>
 kLoop [v10] [] w_14 fun cs_1 ds_1 d w_15 N =>
 (fun x10 =>
 (fun (c : Cx) =>
 kLoad c w_15 3 x10 fun v44 w_16 =>
 kBin c w_16 .lss 3 v44 (.int .i64 2) fun v45 w_17 =>
 kIf v45 (
 kJnD (fun J_1 =>
 kAlloc c w_17 3 fun v11 w_25 =>
 kStore c w_25 3 v11 (.int .i64 0) fun w_26 =>
 kJnD (fun J_2 =>
 kRange Try.prog none w_26 v29 2 (fun l D args w_54 Rr =>
 (fun p49 p50 =>
 kAlloc (cN Try.prog) w_54 49 fun v13 w_55 =>
 kStore (cN Try.prog) w_55 49 v13 p50 fun w_56 =>
 rndMid l D w_54 w_56 fun lo w_57 =>
 kJn (fun J_3 =>
 kDrawn true (
 kLoad (cQ Try.prog) w_57 3 v11 fun v52 w_67 =>
 kEq (cQ Try.prog) w_67 .neq 3 (.tmp 51) (.tmp 52) p49 v52 fun v53 w_68 =>
 kIf v53 (
 kDrew w_57 fun w_69 =>
 kIf (.bool true) (
 (fun (c_4 : Cx) =>
 kStore c_4 w_69 4 v4 (.bool false) fun w_70 =>
 rndEnd l D lo w_54 Rr .ret [] w_70) ⟨Try.prog, fun ch w => rndEnd l D lo w_54 Rr (.panic ch) [] w, false⟩) (
 kD [] [] (J_3 [] w_69))) (
 kLoad (cQ Try.prog) w_68 3 v11 fun v55 w_71 =>
 kLoad (cQ Try.prog) w_71 22 v7 fun v56 w_72 =>
 kBlt (cQ Try.prog) w_72 .len #[22] 3 #[false] #[v56] fun v57 w_73 =>
 kBin (cQ Try.prog) w_73 .geq 3 v55 v57 fun v58 w_74 =>
 kIf v58 (
 kDrew w_57 fun w_75 =>
 kIf (.bool true) (
 (fun (c_5 : Cx) =>
 kStore c_5 w_75 4 v4 (.bool false) fun w_76 =>
 rndEnd l D lo w_54 Rr .ret [] w_76) ⟨Try.prog, fun ch w => rndEnd l D lo w_54 Rr (.panic ch) [] w, false⟩) (
 kD [] [] (J_3 [] w_75))) (
 kLoad (cQ Try.prog) w_74 49 v13 fun v61 w_77 =>
 kLoad (cQ Try.prog) w_77 22 v7 fun v62 w_78 =>
 kLoad (cQ Try.prog) w_78 3 v11 fun v63 w_79 =>
 kIa (cQ Try.prog) w_79 22 v62 v63 fun v64 w_80 =>
 kLoad (cQ Try.prog) w_80 49 v64 fun v65 w_81 =>
 kEq (cQ Try.prog) w_81 .neq 49 (.tmp 61) (.tmp 65) v61 v65 fun v66 w_82 =>
 kDrew w_57 fun w_83 =>
 kIf v66 (
 (fun (c_6 : Cx) =>
 kStore c_6 w_83 4 v4 (.bool false) fun w_84 =>
 rndEnd l D lo w_54 Rr .ret [] w_84) ⟨Try.prog, fun ch w => rndEnd l D lo w_54 Rr (.panic ch) [] w, false⟩) (
 kD [] [] (J_3 [] w_83)))))) (fun cs_4 w_58 => ∀ ds_4 : List Value,
 (fun (c_3 : Cx) =>
 kLoad c_3 w_58 3 v11 fun v68 w_59 =>
 kBin c_3 w_59 .add 3 v68 (.int .i64 1) fun v69 w_60 =>
 kStore c_3 w_60 3 v11 v69 fun w_61 =>
 kLoad c_3 w_61 3 x10 fun v70 w_62 =>
 kEq c_3 w_62 .eql 3 (.tmp 70) (.const (.int .i64 0)) v70 (.int .i64 0) fun v71 w_63 =>
 kIf v71 (
 kLoad c_3 w_63 3 v11 fun v73 w_64 =>
 kLoad c_3 w_64 3 v3 fun v74 w_65 =>
 kBin c_3 w_65 .geq 3 v73 v74 fun v75 w_66 =>
 kIf v75 (
 rndEnd l D lo w_54 Rr (.exit 2) [] w_66) (
 rndEnd l D lo w_54 Rr .normal [] w_66)) (
 kIf (.bool false) (
 rndEnd l D lo w_54 Rr (.exit 2) [] w_63) (
 rndEnd l D lo w_54 Rr .normal [] w_63))) ⟨Try.prog, fun ch w => rndEnd l D lo w_54 Rr (.panic ch) [] w, false⟩)) (args.getD 0 undef) (args.getD 1 undef))
  (fun D_1 w_85 =>
 J_2 [] (markOf D_1 :: d) w_85)
  (fun D_1 w_86 =>
 Lv Try.prog [.cell v4 4] R (markOf D_1 :: d) .returning w_86)
  (fun D_1 id w_87 => kX [2] id (if id = 2 then J_2 [] (markOf D_1 :: d) w_87 else if id = 1 then J_1 [] (markOf D_1 :: d) w_87 else if id = 0 then (fun (c_7 : Cx) =>
 kCall c_7 w_87 11 #[] fun v99 w_88 =>
 kStore c_7 w_88 4 v4 v99 fun w_89 =>
 Lv Try.prog [.cell v4 4] R (markOf D_1 :: d) .returning w_89) ⟨Try.prog, fun ch w => Lv Try.prog [.cell v4 4] R (markOf D_1 :: d) (.panicking ch) w, false⟩ else False))
  (fun D_1 ch w_90 => (fun ch w => Lv Try.prog [.cell v4 4] R (markOf D_1 :: d) (.panicking ch) w) ch w_90)) (fun cs_3 d_2 w_27 => ∀ ds_3 : List Value,
 (fun (c_2 : Cx) =>
 kLoad c_2 w_27 3 x10 fun v77 w_28 =>
 kEq c_2 w_28 .eql 3 (.tmp 77) (.const (.int .i64 0)) v77 (.int .i64 0) fun v78 w_29 =>
 kIf v78 (
 kLoad c_2 w_29 3 v11 fun v80 w_30 =>
 kLoad c_2 w_30 22 v7 fun v81 w_31 =>
 kBlt c_2 w_31 .len #[22] 3 #[false] #[v81] fun v82 w_32 =>
 kLoad c_2 w_32 3 v3 fun v83 w_33 =>
 kBlt c_2 w_33 .max #[3, 3] 3 #[true, false] #[(.int .i64 1), v83] fun v84 w_34 =>
 kBlt c_2 w_34 .min #[3, 3] 3 #[false, false] #[v82, v84] fun v85 w_35 =>
 kEq c_2 w_35 .neq 3 (.tmp 80) (.tmp 85) v80 v85 fun v86 w_36 =>
 kIf v86 (
 kIf (.bool true) (
 kStore c_2 w_36 4 v4 (.bool false) fun w_37 =>
 Lv Try.prog [.cell v4 4] R d_2 .returning w_37) (
 J_1 [] d_2 w_36)) (
 kLoad c_2 w_36 3 x10 fun v89 w_38 =>
 kEq c_2 w_38 .eql 3 (.tmp 89) (.const (.int .i64 1)) v89 (.int .i64 1) fun v90 w_39 =>
 kIf v90 (
 kLoad c_2 w_39 3 v11 fun v92 w_40 =>
 kLoad c_2 w_40 22 v7 fun v93 w_41 =>
 kBlt c_2 w_41 .len #[22] 3 #[false] #[v93] fun v94 w_42 =>
 kEq c_2 w_42 .neq 3 (.tmp 92) (.tmp 94) v92 v94 fun v95 w_43 =>
 kIf v95 (
 kStore c_2 w_43 4 v4 (.bool false) fun w_44 =>
 Lv Try.prog [.cell v4 4] R d_2 .returning w_44) (
 J_1 [] d_2 w_43)) (
 kIf (.bool false) (
 kStore c_2 w_39 4 v4 (.bool false) fun w_45 =>
 Lv Try.prog [.cell v4 4] R d_2 .returning w_45) (
 J_1 [] d_2 w_39)))) (
 kLoad c_2 w_29 3 x10 fun v89_1 w_46 =>
 kEq c_2 w_46 .eql 3 (.tmp 89) (.const (.int .i64 1)) v89_1 (.int .i64 1) fun v90_1 w_47 =>
 kIf v90_1 (
 kLoad c_2 w_47 3 v11 fun v92_1 w_48 =>
 kLoad c_2 w_48 22 v7 fun v93_1 w_49 =>
 kBlt c_2 w_49 .len #[22] 3 #[false] #[v93_1] fun v94_1 w_50 =>
 kEq c_2 w_50 .neq 3 (.tmp 92) (.tmp 94) v92_1 v94_1 fun v95_1 w_51 =>
 kIf v95_1 (
 kStore c_2 w_51 4 v4 (.bool false) fun w_52 =>
 Lv Try.prog [.cell v4 4] R d_2 .returning w_52) (
 J_1 [] d_2 w_51)) (
 kIf (.bool false) (
 kStore c_2 w_47 4 v4 (.bool false) fun w_53 =>
 Lv Try.prog [.cell v4 4] R d_2 .returning w_53) (
 J_1 [] d_2 w_47)))) ⟨Try.prog, fun ch w => Lv Try.prog [.cell v4 4] R d_2 (.panicking ch) w, false⟩)) (fun cs_2 d_1 w_18 => ∀ ds_2 : List Value,
 (fun (c_1 : Cx) =>
 kLoad c_1 w_18 3 x10 fun v98 w_19 =>
 kAlloc c_1 w_19 3 fun v10_1 w_20 =>
 kStore c_1 w_20 3 v10_1 v98 fun w_21 =>
 kLoad c_1 w_21 3 v10_1 fun v46 w_22 =>
 kBin c_1 w_22 .add 3 v46 (.int .i64 1) fun v47 w_23 =>
 kStore c_1 w_23 3 v10_1 v47 fun w_24 =>
 N [v10_1] d_1 w_24) ⟨Try.prog, fun ch w => Lv Try.prog [.cell v4 4] R d_1 (.panicking ch) w, false⟩)) (
 kCall c w_17 11 #[] fun v99_1 w_91 =>
 kStore c w_91 4 v4 v99_1 fun w_92 =>
 Lv Try.prog [.cell v4 4] R d .returning w_92)) ⟨Try.prog, fun ch w => Lv Try.prog [.cell v4 4] R d (.panicking ch) w, false⟩) (cs_1.getD 0 undef)))
theorem c5 (b : Option Addr) (bn : Nat) (bc : Nat) (many : Int) (R : Ending → World → Prop) (w : World) (h : vc5 b bn bc many R w) : Calls Try.prog 5 #[(.slice b bn bc), (.int .i64 many)] w R :=
  calls_of_vc (A := { loops := [(1000021, []), (1000019, []), (1000017, []), (0, [10]), (1000008, [])], pars := [], dvar := [0, 1000019, 1000021] }) (Eq.mpr (show FnVc Try.prog { loops := [(1000021, []), (1000019, []), (1000017, []), (0, [10]), (1000008, [])], pars := [], dvar := [0, 1000019, 1000021] } 100 5 [(.slice b bn bc), (.int .i64 many)] R w = vc5 b bn bc many R w by kernel_rfl) h)

/-- loupe/loupelaw02.SumDoes -/
def vc6 (o : Int) (l : Option Addr) (ln : Nat) (lc : Nat) (R : Ending → World → Prop) (w : World) : Prop :=
 kBlt (cR Try.prog R) w .len #[22] 3 #[false] #[(.slice l ln lc)] fun v11 w_1 =>
 kBin (cR Try.prog R) w_1 .gtr 3 v11 (.int .i64 4) fun v12 w_2 =>
 kIf v12 (
 kCall (cR Try.prog R) w_2 22 #[] fun v13 w_3 =>
 R (.returned v13) w_3) (
 kLoopF [(.int .i64 0)] w_2 fun cs ds w_4 N =>
 (fun x5 =>
 kBlt (cR Try.prog R) w_4 .len #[22] 3 #[false] #[(.slice l ln lc)] fun v16 w_5 =>
 kBin (cR Try.prog R) w_5 .lss 3 x5 v16 fun v17 w_6 =>
 kIf v17 (
 kIa (cR Try.prog R) w_6 22 (.slice l ln lc) x5 fun v22 w_7 =>
 kFa (cR Try.prog R) w_7 49 v22 2 fun v23 w_8 =>
 kLoad (cR Try.prog R) w_8 9 v23 fun v24 w_9 =>
 kBlt (cR Try.prog R) w_9 .len #[9] 3 #[false] #[v24] fun v25 w_10 =>
 kBin (cR Try.prog R) w_10 .gtr 3 v25 (.int .i64 1100) fun v26 w_11 =>
 kIf v26 (
 kCall (cR Try.prog R) w_11 22 #[] fun v27 w_12 =>
 R (.returned v27) w_12) (
 kBin (cR Try.prog R) w_11 .add 3 x5 (.int .i64 1) fun v19 w_13 =>
 kD [] [] (N [v19] w_13))) (
 kCall (cR Try.prog R) w_6 23 #[(.int .i64 o), (.slice l ln lc)] fun v31 w_14 =>
 kExt v31 0 fun v32 =>
 kExt v31 1 fun v33 =>
 kAlloc (cR Try.prog R) w_14 49 fun v6 w_15 =>
 kStore (cR Try.prog R) w_15 49 v6 v32 fun w_16 =>
 kCall (cR Try.prog R) w_16 24 #[(.int .i64 o), (.slice l ln lc)] fun v37 w_17 =>
 kExt v37 0 fun v38 =>
 kExt v37 1 fun v39 =>
 kAlloc (cR Try.prog R) w_17 49 fun v8 w_18 =>
 kStore (cR Try.prog R) w_18 49 v8 v38 fun w_19 =>
 kLoad (cR Try.prog R) w_19 49 v6 fun v40 w_20 =>
 kLoad (cR Try.prog R) w_20 49 v8 fun v41 w_21 =>
 kEq (cR Try.prog R) w_21 .eql 49 (.tmp 40) (.tmp 41) v40 v41 fun v42 w_22 =>
 kIf v42 (
 kCall (cR Try.prog R) w_22 25 #[v33] fun v45 w_23 =>
 kEq (cR Try.prog R) w_23 .eql 3 (.tmp 45) (.tmp 46) v45 v39 fun v47 w_24 =>
 kIf v47 (
 kCall (cR Try.prog R) w_24 22 #[] fun v50 w_25 =>
 R (.returned v50) w_25) (
 R (.returned (.bool false)) w_24)) (
 R (.returned (.bool false)) w_22))) (cs.getD 0 undef))
theorem c6 (o : Int) (l : Option Addr) (ln : Nat) (lc : Nat) (R : Ending → World → Prop) (w : World) (h : vc6 o l ln lc R w) : Calls Try.prog 6 #[(.int .i64 o), (.slice l ln lc)] w R :=
  calls_of_vc (A := { loops := [(0, [5])], pars := [] }) (Eq.mpr (show FnVc Try.prog { loops := [(0, [5])], pars := [] } 52 6 [(.int .i64 o), (.slice l ln lc)] R w = vc6 o l ln lc R w by kernel_rfl) h)

/-- loupe/loupelaw02.SumHolds -/
def vc7 (o : Int) (l : Option Addr) (ln : Nat) (lc : Nat) (R : Ending → World → Prop) (w : World) : Prop :=
 kBlt (cR Try.prog R) w .len #[22] 3 #[false] #[(.slice l ln lc)] fun v13 w_1 =>
 kBin (cR Try.prog R) w_1 .gtr 3 v13 (.int .i64 4) fun v14 w_2 =>
 kIf v14 (
 kCall (cR Try.prog R) w_2 22 #[] fun v15 w_3 =>
 R (.returned v15) w_3) (
 kLoopF [(.slice none 0 0), (.bool true), (.int .i64 0)] w_2 fun cs ds w_4 N =>
 (fun x5 x6 x7 =>
 kBlt (cR Try.prog R) w_4 .len #[22] 3 #[false] #[(.slice l ln lc)] fun v18 w_5 =>
 kBin (cR Try.prog R) w_5 .lss 3 x7 v18 fun v19 w_6 =>
 kIf v19 (
 kIa (cR Try.prog R) w_6 22 (.slice l ln lc) x7 fun v24 w_7 =>
 kFa (cR Try.prog R) w_7 49 v24 2 fun v25 w_8 =>
 kLoad (cR Try.prog R) w_8 9 v25 fun v26 w_9 =>
 kBlt (cR Try.prog R) w_9 .len #[9] 3 #[false] #[v26] fun v27 w_10 =>
 kBin (cR Try.prog R) w_10 .gtr 3 v27 (.int .i64 1100) fun v28 w_11 =>
 kIf v28 (
 kCall (cR Try.prog R) w_11 22 #[] fun v29 w_12 =>
 R (.returned v29) w_12) (
 kIa (cR Try.prog R) w_11 22 (.slice l ln lc) x7 fun v33 w_13 =>
 kFa (cR Try.prog R) w_13 49 v33 0 fun v34 w_14 =>
 kLoad (cR Try.prog R) w_14 47 v34 fun v35 w_15 =>
 kBuildS (cR Try.prog R) w_15 24 1 #[(0, v35)] fun v36 w_16 =>
 kBlt (cR Try.prog R) w_16 .append #[24, 24] 24 #[false, false] #[x5, v36] fun v37 w_17 =>
 kIf x6 (
 kIa (cR Try.prog R) w_17 22 (.slice l ln lc) x7 fun v42 w_18 =>
 kFa (cR Try.prog R) w_18 49 v42 0 fun v43 w_19 =>
 kLoad (cR Try.prog R) w_19 47 v43 fun v44 w_20 =>
 kEq (cR Try.prog R) w_20 .neq 47 (.tmp 44) (.const (.int .i64 0)) v44 (.int .i64 0) fun v45 w_21 =>
 kBin (cR Try.prog R) w_21 .add 3 x7 (.int .i64 1) fun v21 w_22 =>
 kD [] [] (N [v37, v45, v21] w_22)) (
 kBin (cR Try.prog R) w_17 .add 3 x7 (.int .i64 1) fun v21_1 w_23 =>
 kD [] [] (N [v37, (.bool false), v21_1] w_23)))) (
 kCall (cR Try.prog R) w_6 23 #[(.int .i64 o), (.slice l ln lc)] fun v50 w_24 =>
 kExt v50 0 fun v51 =>
 kExt v50 1 fun v52 =>
 kAlloc (cR Try.prog R) w_24 49 fun v8 w_25 =>
 kStore (cR Try.prog R) w_25 49 v8 v51 fun w_26 =>
 kCall (cR Try.prog R) w_26 26 #[(.int .i64 o), x5] fun v56 w_27 =>
 kExt v56 0 fun v57 =>
 kExt v56 1 fun v58 =>
 kCall (cR Try.prog R) w_27 25 #[v52] fun v60 w_28 =>
 kEq (cR Try.prog R) w_28 .eql 3 (.tmp 60) (.const (.int .i64 0)) v60 (.int .i64 0) fun v61 w_29 =>
 kIf v61 (
 kCall (cR Try.prog R) w_29 25 #[v58] fun v63 w_30 =>
 kEq (cR Try.prog R) w_30 .eql 3 (.tmp 63) (.const (.int .i64 0)) v63 (.int .i64 0) fun v64 w_31 =>
 kIf v64 (
 kLoad (cR Try.prog R) w_31 49 v8 fun v66 w_32 =>
 kBuild (cR Try.prog R) w_32 49 #[] fun v67 w_33 =>
 kEq (cR Try.prog R) w_33 .eql 49 (.tmp 66) (.tmp 67) v66 v67 fun v68 w_34 =>
 kIf v68 (
 kCall (cR Try.prog R) w_34 22 #[] fun v77 w_35 =>
 R (.returned v77) w_35) (
 kFa (cR Try.prog R) w_34 49 v8 0 fun v70 w_36 =>
 kLoad (cR Try.prog R) w_36 47 v70 fun v71 w_37 =>
 kEq (cR Try.prog R) w_37 .eql 3 (.tmp 71) (.tmp 72) v71 v57 fun v73 w_38 =>
 kIf v73 (
 kCall (cR Try.prog R) w_38 22 #[] fun v77_1 w_39 =>
 R (.returned v77_1) w_39) (
 R (.returned (.bool false)) w_38))) (
 R (.returned (.bool false)) w_31)) (
 kCall (cR Try.prog R) w_29 25 #[v58] fun v80 w_40 =>
 kEq (cR Try.prog R) w_40 .neq 3 (.tmp 80) (.const (.int .i64 120)) v80 (.int .i64 120) fun v81 w_41 =>
 kIf v81 (
 kCall (cR Try.prog R) w_41 25 #[v52] fun v94 w_42 =>
 kEq (cR Try.prog R) w_42 .neq 3 (.tmp 94) (.const (.int .i64 120)) v94 (.int .i64 120) fun v95 w_43 =>
 kIf v95 (
 kCall (cR Try.prog R) w_43 22 #[] fun v103 w_44 =>
 R (.returned v103) w_44) (
 kCall (cR Try.prog R) w_43 25 #[v58] fun v98 w_45 =>
 kEq (cR Try.prog R) w_45 .eql 3 (.tmp 98) (.const (.int .i64 120)) v98 (.int .i64 120) fun v99 w_46 =>
 kIf v99 (
 kCall (cR Try.prog R) w_46 22 #[] fun v103_1 w_47 =>
 R (.returned v103_1) w_47) (
 R (.returned (.bool false)) w_46))) (
 kCall (cR Try.prog R) w_41 25 #[v52] fun v84 w_48 =>
 kEq (cR Try.prog R) w_48 .eql 3 (.tmp 84) (.const (.int .i64 120)) v84 (.int .i64 120) fun v85 w_49 =>
 kIf v85 (
 kCall (cR Try.prog R) w_49 25 #[v52] fun v94_1 w_50 =>
 kEq (cR Try.prog R) w_50 .neq 3 (.tmp 94) (.const (.int .i64 120)) v94_1 (.int .i64 120) fun v95_1 w_51 =>
 kIf v95_1 (
 kCall (cR Try.prog R) w_51 22 #[] fun v103_2 w_52 =>
 R (.returned v103_2) w_52) (
 kCall (cR Try.prog R) w_51 25 #[v58] fun v98_1 w_53 =>
 kEq (cR Try.prog R) w_53 .eql 3 (.tmp 98) (.const (.int .i64 120)) v98_1 (.int .i64 120) fun v99_1 w_54 =>
 kIf v99_1 (
 kCall (cR Try.prog R) w_54 22 #[] fun v103_3 w_55 =>
 R (.returned v103_3) w_55) (
 R (.returned (.bool false)) w_54))) (
 kCall (cR Try.prog R) w_49 25 #[v52] fun v89 w_56 =>
 kEq (cR Try.prog R) w_56 .eql 3 (.tmp 89) (.const (.int .i64 2)) v89 (.int .i64 2) fun v90 w_57 =>
 kIf v90 (
 kCall (cR Try.prog R) w_57 25 #[v52] fun v94_2 w_58 =>
 kEq (cR Try.prog R) w_58 .neq 3 (.tmp 94) (.const (.int .i64 120)) v94_2 (.int .i64 120) fun v95_2 w_59 =>
 kIf v95_2 (
 kCall (cR Try.prog R) w_59 22 #[] fun v103_4 w_60 =>
 R (.returned v103_4) w_60) (
 kCall (cR Try.prog R) w_59 25 #[v58] fun v98_2 w_61 =>
 kEq (cR Try.prog R) w_61 .eql 3 (.tmp 98) (.const (.int .i64 120)) v98_2 (.int .i64 120) fun v99_2 w_62 =>
 kIf v99_2 (
 kCall (cR Try.prog R) w_62 22 #[] fun v103_5 w_63 =>
 R (.returned v103_5) w_63) (
 R (.returned (.bool false)) w_62))) (
 R (.returned (.bool false)) w_57)))))) (cs.getD 0 undef) (cs.getD 1 undef) (cs.getD 2 undef))
theorem c7 (o : Int) (l : Option Addr) (ln : Nat) (lc : Nat) (R : Ending → World → Prop) (w : World) (h : vc7 o l ln lc R w) : Calls Try.prog 7 #[(.int .i64 o), (.slice l ln lc)] w R :=
  calls_of_vc (A := { loops := [(0, [5, 6, 7])], pars := [] }) (Eq.mpr (show FnVc Try.prog { loops := [(0, [5, 6, 7])], pars := [] } 105 7 [(.int .i64 o), (.slice l ln lc)] R w = vc7 o l ln lc R w by kernel_rfl) h)

/-- loupe/loupelaw02.SumUndoes -/
def vc8 (a : Int) (b : Int) (R : Ending → World → Prop) (w : World) : Prop :=
 kCall (cR Try.prog R) w 27 #[(.int .i64 a)] fun v19 w_1 =>
 kCall (cR Try.prog R) w_1 27 #[(.int .i64 b)] fun v21 w_2 =>
 kBuildS (cR Try.prog R) w_2 22 2 #[(0, v19), (1, v21)] fun v22 w_3 =>
 kCall (cR Try.prog R) w_3 23 #[(.int .i64 1), v22] fun v23 w_4 =>
 kExt v23 0 fun v24 =>
 kExt v23 1 fun v25 =>
 kAlloc (cR Try.prog R) w_4 49 fun v5 w_5 =>
 kStore (cR Try.prog R) w_5 49 v5 v24 fun w_6 =>
 kDrawn true (
 kDrawn true (
 kJn (fun J =>
 kLoad (cQ Try.prog) w_6 49 v5 fun v27 w_7 =>
 kBoth (
 kDrew w_7 fun w_8 =>
 (fun (c : Cx) =>
 kCall c w_8 27 #[(.int .i64 b)] fun v29 w_9 =>
 kLoad (cQ Try.prog) w_9 49 v5 fun v27_1 w_10 =>
 kSame v27_1 v27 (
 kBoth (
 kDrew w_9 fun w_11 =>
 kBuildS c w_11 22 2 #[(0, v27), (1, v29)] fun v30 w_12 =>
 kBoth (
 kDrew w_12 fun w_13 =>
 kCall c w_13 23 #[(.int .i64 2), v30] fun v31 w_14 =>
 kExt v31 0 fun v32 =>
 kExt v31 1 fun v33 =>
 kDrew w_14 fun w_15 =>
 kAlloc c w_15 49 fun v7 w_16 =>
 kDrew w_16 fun w_17 =>
 kStore c w_17 49 v7 v32 fun w_18 =>
 kDrew w_18 fun w_19 => J [v27, (.int .i64 b), v29, v30, v31, v31, v32, v33, v7, undef] w_19) (
 kDrew w_12 fun w_20 =>
 kAlloc c w_20 49 fun v7_1 w_21 =>
 kDrew w_21 fun w_22 =>
 kCall c w_22 23 #[(.int .i64 2), v30] fun v31_1 w_23 =>
 kExt v31_1 0 fun v32_1 =>
 kExt v31_1 1 fun v33_1 =>
 kDrew w_23 fun w_24 =>
 kStore c w_24 49 v7_1 v32_1 fun w_25 =>
 kDrew w_25 fun w_26 => J [v27, (.int .i64 b), v29, v30, v31_1, v31_1, v32_1, v33_1, v7_1, undef] w_26)) (
 kDrew w_9 fun w_27 =>
 kAlloc c w_27 49 fun v7_2 w_28 =>
 kLoad (cQ Try.prog) w_28 49 v5 fun v27_2 w_29 =>
 kSame v27_2 v27 (
 kDrew w_28 fun w_30 =>
 kBuildS c w_30 22 2 #[(0, v27), (1, v29)] fun v30_1 w_31 =>
 kDrew w_31 fun w_32 =>
 kCall c w_32 23 #[(.int .i64 2), v30_1] fun v31_2 w_33 =>
 kExt v31_2 0 fun v32_2 =>
 kExt v31_2 1 fun v33_2 =>
 kDrew w_33 fun w_34 =>
 kStore c w_34 49 v7_2 v32_2 fun w_35 =>
 kDrew w_35 fun w_36 => J [v27, (.int .i64 b), v29, v30_1, v31_2, v31_2, v32_2, v33_2, v7_2, undef] w_36)))) ⟨Try.prog, fun ch w => ∀ _ : List Value, R (.panicked ch) w, false⟩) (
 kDrew w_7 fun w_37 =>
 (fun (c_1 : Cx) =>
 kAlloc c_1 w_37 49 fun v7_3 w_38 =>
 kLoad (cQ Try.prog) w_38 49 v5 fun v27_3 w_39 =>
 kSame v27_3 v27 (
 kDrew w_38 fun w_40 =>
 kCall c_1 w_40 27 #[(.int .i64 b)] fun v29_1 w_41 =>
 kLoad (cQ Try.prog) w_41 49 v5 fun v27_4 w_42 =>
 kSame v27_4 v27 (
 kDrew w_41 fun w_43 =>
 kBuildS c_1 w_43 22 2 #[(0, v27), (1, v29_1)] fun v30_2 w_44 =>
 kDrew w_44 fun w_45 =>
 kCall c_1 w_45 23 #[(.int .i64 2), v30_2] fun v31_3 w_46 =>
 kExt v31_3 0 fun v32_3 =>
 kExt v31_3 1 fun v33_3 =>
 kDrew w_46 fun w_47 =>
 kStore c_1 w_47 49 v7_3 v32_3 fun w_48 =>
 kDrew w_48 fun w_49 => J [v27, (.int .i64 b), v29_1, v30_2, v31_3, v31_3, v32_3, v33_3, v7_3, undef] w_49))) ⟨Try.prog, fun ch w => ∀ _ : List Value, R (.panicked ch) w, false⟩)) (fun cs w_50 =>
 (fun g7 g8 =>
 kJn (fun J_1 =>
 kDrawn true (
 kDrawn true (
 kDrew w_50 fun w_146 =>
 (fun (c_5 : Cx) =>
 kCall c_5 w_146 25 #[v25] fun v35 w_147 =>
 kEq (cQ Try.prog) w_147 .eql 3 (.tmp 35) (.const (.int .i64 0)) v35 (.int .i64 0) fun v36 w_148 =>
 kIf v36 (
 kDrew w_148 fun w_149 =>
 kCall c_5 w_149 25 #[g7] fun v39 w_150 =>
 kEq (cQ Try.prog) w_150 .neq 3 (.tmp 39) (.const (.int .i64 0)) v39 (.int .i64 0) fun v40 w_151 =>
 kIf v40 (
 kDrew w_151 fun w_152 =>
 kIf (.bool true) (
 R (.returned (.bool false)) w_152) (
 kD [] [] (J_1 [] w_152))) (
 kLoad (cQ Try.prog) w_151 49 g8 fun v42 w_153 =>
 kDrew w_153 fun w_154 =>
 kCall c_5 w_154 27 #[(.int .i64 a)] fun v44 w_155 =>
 kLoad (cQ Try.prog) w_155 49 g8 fun v42_1 w_156 =>
 kSame v42_1 v42 (
 kEq (cQ Try.prog) w_155 .neq 49 (.tmp 42) (.tmp 44) v42 v44 fun v45 w_157 =>
 kDrew w_157 fun w_158 =>
 kIf v45 (
 R (.returned (.bool false)) w_158) (
 kD [] [] (J_1 [] w_158))))) (
 kDrew w_148 fun w_159 =>
 kIf (.bool false) (
 R (.returned (.bool false)) w_159) (
 kD [] [] (J_1 [] w_159)))) ⟨Try.prog, fun ch w => ∀ _ : List Value, R (.panicked ch) w, false⟩))) (fun cs_1 w_51 => ∀ ds : List Value,
 kCall (cR Try.prog R) w_51 27 #[(.int .i64 a)] fun v50 w_52 =>
 kCall (cR Try.prog R) w_52 27 #[(.int .i64 b)] fun v52 w_53 =>
 kBuildS (cR Try.prog R) w_53 22 2 #[(0, v50), (1, v52)] fun v53 w_54 =>
 kCall (cR Try.prog R) w_54 23 #[(.int .i64 4), v53] fun v54 w_55 =>
 kExt v54 0 fun v55 =>
 kExt v54 1 fun v56 =>
 kAlloc (cR Try.prog R) w_55 49 fun v9 w_56 =>
 kStore (cR Try.prog R) w_56 49 v9 v55 fun w_57 =>
 kCall (cR Try.prog R) w_57 27 #[(.int .i64 a)] fun v59 w_58 =>
 kCall (cR Try.prog R) w_58 27 #[(.int .i64 b)] fun v61 w_59 =>
 kBuildS (cR Try.prog R) w_59 22 2 #[(0, v59), (1, v61)] fun v62 w_60 =>
 kCall (cR Try.prog R) w_60 23 #[(.int .i64 5), v62] fun v63 w_61 =>
 kExt v63 0 fun v64 =>
 kExt v63 1 fun v65 =>
 kAlloc (cR Try.prog R) w_61 49 fun v11 w_62 =>
 kStore (cR Try.prog R) w_62 49 v11 v64 fun w_63 =>
 kEq (cR Try.prog R) w_63 .eql 2 (.tmp 66) (.const (.int .i64 0)) (.int .i64 b) (.int .i64 0) fun v67 w_64 =>
 kIf v67 (
 kCall (cR Try.prog R) w_64 25 #[v56] fun v69 w_65 =>
 kEq (cR Try.prog R) w_65 .eql 3 (.tmp 69) (.const (.int .i64 121)) v69 (.int .i64 121) fun v70 w_66 =>
 kIf v70 (
 kCall (cR Try.prog R) w_66 25 #[v65] fun v73 w_67 =>
 kEq (cR Try.prog R) w_67 .eql 3 (.tmp 73) (.const (.int .i64 121)) v73 (.int .i64 121) fun v74 w_68 =>
 kIf v74 (
 kCall (cR Try.prog R) w_68 22 #[] fun v77 w_69 =>
 R (.returned v77) w_69) (
 R (.returned (.bool false)) w_68)) (
 R (.returned (.bool false)) w_66)) (
 kCall (cR Try.prog R) w_64 25 #[v56] fun v80 w_70 =>
 kEq (cR Try.prog R) w_70 .neq 3 (.tmp 80) (.const (.int .i64 0)) v80 (.int .i64 0) fun v81 w_71 =>
 kIf v81 (
 kCall (cR Try.prog R) w_71 25 #[v56] fun v83 w_72 =>
 kEq (cR Try.prog R) w_72 .eql 3 (.tmp 83) (.const (.int .i64 122)) v83 (.int .i64 122) fun v84 w_73 =>
 kIf v84 (
 kEq (cR Try.prog R) w_73 .eql 2 (.tmp 86) (.const (.int .i64 (-1))) (.int .i64 b) (.int .i64 (-1)) fun v87 w_74 =>
 kIf v87 (
 kCall (cR Try.prog R) w_74 22 #[] fun v90 w_75 =>
 R (.returned v90) w_75) (
 R (.returned (.bool false)) w_74)) (
 R (.returned (.bool false)) w_73)) (
 kDrawn true (
 kDrawn true (
 kJn (fun J_2 =>
 kLoad (cQ Try.prog) w_71 49 v9 fun v93 w_76 =>
 kBoth (
 kDrew w_76 fun w_77 =>
 (fun (c_2 : Cx) =>
 kCall c_2 w_77 27 #[(.int .i64 b)] fun v95 w_78 =>
 kLoad (cQ Try.prog) w_78 49 v9 fun v93_1 w_79 =>
 kSame v93_1 v93 (
 kBoth (
 kDrew w_78 fun w_80 =>
 kBuildS c_2 w_80 22 2 #[(0, v93), (1, v95)] fun v96 w_81 =>
 kBoth (
 kDrew w_81 fun w_82 =>
 kCall c_2 w_82 23 #[(.int .i64 3), v96] fun v97 w_83 =>
 kExt v97 0 fun v98 =>
 kExt v97 1 fun v99 =>
 kDrew w_83 fun w_84 =>
 kAlloc c_2 w_84 49 fun v13 w_85 =>
 kDrew w_85 fun w_86 =>
 kStore c_2 w_86 49 v13 v98 fun w_87 =>
 kDrew w_87 fun w_88 => J_2 [v93, (.int .i64 b), v95, v96, v97, v97, v98, v99, v13, undef] w_88) (
 kDrew w_81 fun w_89 =>
 kAlloc c_2 w_89 49 fun v13_1 w_90 =>
 kDrew w_90 fun w_91 =>
 kCall c_2 w_91 23 #[(.int .i64 3), v96] fun v97_1 w_92 =>
 kExt v97_1 0 fun v98_1 =>
 kExt v97_1 1 fun v99_1 =>
 kDrew w_92 fun w_93 =>
 kStore c_2 w_93 49 v13_1 v98_1 fun w_94 =>
 kDrew w_94 fun w_95 => J_2 [v93, (.int .i64 b), v95, v96, v97_1, v97_1, v98_1, v99_1, v13_1, undef] w_95)) (
 kDrew w_78 fun w_96 =>
 kAlloc c_2 w_96 49 fun v13_2 w_97 =>
 kLoad (cQ Try.prog) w_97 49 v9 fun v93_2 w_98 =>
 kSame v93_2 v93 (
 kDrew w_97 fun w_99 =>
 kBuildS c_2 w_99 22 2 #[(0, v93), (1, v95)] fun v96_1 w_100 =>
 kDrew w_100 fun w_101 =>
 kCall c_2 w_101 23 #[(.int .i64 3), v96_1] fun v97_2 w_102 =>
 kExt v97_2 0 fun v98_2 =>
 kExt v97_2 1 fun v99_2 =>
 kDrew w_102 fun w_103 =>
 kStore c_2 w_103 49 v13_2 v98_2 fun w_104 =>
 kDrew w_104 fun w_105 => J_2 [v93, (.int .i64 b), v95, v96_1, v97_2, v97_2, v98_2, v99_2, v13_2, undef] w_105)))) ⟨Try.prog, fun ch w => ∀ _ : List Value, R (.panicked ch) w, false⟩) (
 kDrew w_76 fun w_106 =>
 (fun (c_3 : Cx) =>
 kAlloc c_3 w_106 49 fun v13_3 w_107 =>
 kLoad (cQ Try.prog) w_107 49 v9 fun v93_3 w_108 =>
 kSame v93_3 v93 (
 kDrew w_107 fun w_109 =>
 kCall c_3 w_109 27 #[(.int .i64 b)] fun v95_1 w_110 =>
 kLoad (cQ Try.prog) w_110 49 v9 fun v93_4 w_111 =>
 kSame v93_4 v93 (
 kDrew w_110 fun w_112 =>
 kBuildS c_3 w_112 22 2 #[(0, v93), (1, v95_1)] fun v96_2 w_113 =>
 kDrew w_113 fun w_114 =>
 kCall c_3 w_114 23 #[(.int .i64 3), v96_2] fun v97_3 w_115 =>
 kExt v97_3 0 fun v98_3 =>
 kExt v97_3 1 fun v99_3 =>
 kDrew w_115 fun w_116 =>
 kStore c_3 w_116 49 v13_3 v98_3 fun w_117 =>
 kDrew w_117 fun w_118 => J_2 [v93, (.int .i64 b), v95_1, v96_2, v97_3, v97_3, v98_3, v99_3, v13_3, undef] w_118))) ⟨Try.prog, fun ch w => ∀ _ : List Value, R (.panicked ch) w, false⟩)) (fun cs_2 w_119 =>
 (fun g7_1 g8_1 =>
 kLoad (cR Try.prog R) w_119 49 g8_1 fun v101 w_120 =>
 kLoad (cR Try.prog R) w_120 49 v11 fun v102 w_121 =>
 kBuildS (cR Try.prog R) w_121 22 2 #[(0, v101), (1, v102)] fun v103 w_122 =>
 kCall (cR Try.prog R) w_122 23 #[(.int .i64 1), v103] fun v104 w_123 =>
 kExt v104 0 fun v105 =>
 kExt v104 1 fun v106 =>
 kAlloc (cR Try.prog R) w_123 49 fun v15 w_124 =>
 kStore (cR Try.prog R) w_124 49 v15 v105 fun w_125 =>
 kDrawn true (
 kDrawn true (
 kDrew w_125 fun w_126 =>
 (fun (c_4 : Cx) =>
 kCall c_4 w_126 25 #[v65] fun v108 w_127 =>
 kDrew w_127 fun w_128 =>
 kCall c_4 w_128 25 #[g7_1] fun v110 w_129 =>
 kBin (cQ Try.prog) w_129 .add 3 v108 v110 fun v111 w_130 =>
 kDrew w_130 fun w_131 =>
 kCall c_4 w_131 25 #[v106] fun v113 w_132 =>
 kBin (cQ Try.prog) w_132 .add 3 v108 v110 fun v111_1 w_133 =>
 kSame v111_1 v111 (
 kBin (cQ Try.prog) w_132 .add 3 v111 v113 fun v114 w_134 =>
 kEq (cQ Try.prog) w_134 .eql 3 (.tmp 114) (.const (.int .i64 0)) v114 (.int .i64 0) fun v115 w_135 =>
 kIf v115 (
 kLoad (cQ Try.prog) w_135 49 v15 fun v117 w_136 =>
 kDrew w_136 fun w_137 =>
 kCall c_4 w_137 27 #[(.int .i64 a)] fun v119 w_138 =>
 kLoad (cQ Try.prog) w_138 49 v15 fun v117_1 w_139 =>
 kSame v117_1 v117 (
 kEq (cQ Try.prog) w_138 .eql 49 (.tmp 117) (.tmp 119) v117 v119 fun v120 w_140 =>
 kIf v120 (
 kDrew w_140 fun w_141 =>
 kCall c_4 w_141 22 #[] fun v123 w_142 =>
 kDrew w_142 fun w_143 =>
 R (.returned v123) w_143) (
 kDrew w_140 fun w_144 =>
 R (.returned (.bool false)) w_144))) (
 kDrew w_135 fun w_145 =>
 R (.returned (.bool false)) w_145))) ⟨Try.prog, fun ch w => ∀ _ : List Value, R (.panicked ch) w, false⟩))) (cs_2.getD 7 undef) (cs_2.getD 8 undef)))))))) (cs.getD 7 undef) (cs.getD 8 undef))))
theorem c8 (a : Int) (b : Int) (R : Ending → World → Prop) (w : World) (h : vc8 a b R w) : Calls Try.prog 8 #[(.int .i64 a), (.int .i64 b)] w R :=
  calls_of_vc (A := { loops := [(1000005, [])], pars := [], chs := [(2, (.q 0 (.q 1 (.or 2 (.or 3 (.or 4 (.q 5 (.q 6 (.q 7 (.e 8 (.e 9 .done))))) (.e 8 (.e 4 (.q 5 (.q 6 (.q 7 (.e 9 .done))))))) (.e 8 (.e 3 (.e 4 (.q 5 (.q 6 (.q 7 (.e 9 .done)))))))) (.e 8 (.e 2 (.e 3 (.e 4 (.q 5 (.q 6 (.q 7 (.e 9 .done)))))))))))), (3, (.q 0 (.e 1 (.q 2 (.q 3 (.q 4 (.e 5 (.q 6 (.q 7 (.q 8 (.q 9 (.e 10 (.q 11 (.q 12 (.q 13 .done))))))))))))))), (11, (.q 0 (.q 1 (.or 2 (.or 3 (.or 4 (.q 5 (.q 6 (.q 7 (.e 8 (.e 9 .done))))) (.e 8 (.e 4 (.q 5 (.q 6 (.q 7 (.e 9 .done))))))) (.e 8 (.e 3 (.e 4 (.q 5 (.q 6 (.q 7 (.e 9 .done)))))))) (.e 8 (.e 2 (.e 3 (.e 4 (.q 5 (.q 6 (.q 7 (.e 9 .done)))))))))))), (13, (.q 0 (.q 2 (.q 5 (.e 1 (.e 3 (.q 4 (.e 6 (.q 7 (.q 8 (.q 9 (.q 10 (.q 11 (.e 12 (.q 13 (.q 14 (.q 15 (.e 16 (.q 17 .done)))))))))))))))))))] }) (Eq.mpr (show FnVc Try.prog { loops := [(1000005, [])], pars := [], chs := [(2, (.q 0 (.q 1 (.or 2 (.or 3 (.or 4 (.q 5 (.q 6 (.q 7 (.e 8 (.e 9 .done))))) (.e 8 (.e 4 (.q 5 (.q 6 (.q 7 (.e 9 .done))))))) (.e 8 (.e 3 (.e 4 (.q 5 (.q 6 (.q 7 (.e 9 .done)))))))) (.e 8 (.e 2 (.e 3 (.e 4 (.q 5 (.q 6 (.q 7 (.e 9 .done)))))))))))), (3, (.q 0 (.e 1 (.q 2 (.q 3 (.q 4 (.e 5 (.q 6 (.q 7 (.q 8 (.q 9 (.e 10 (.q 11 (.q 12 (.q 13 .done))))))))))))))), (11, (.q 0 (.q 1 (.or 2 (.or 3 (.or 4 (.q 5 (.q 6 (.q 7 (.e 8 (.e 9 .done))))) (.e 8 (.e 4 (.q 5 (.q 6 (.q 7 (.e 9 .done))))))) (.e 8 (.e 3 (.e 4 (.q 5 (.q 6 (.q 7 (.e 9 .done)))))))) (.e 8 (.e 2 (.e 3 (.e 4 (.q 5 (.q 6 (.q 7 (.e 9 .done)))))))))))), (13, (.q 0 (.q 2 (.q 5 (.e 1 (.e 3 (.q 4 (.e 6 (.q 7 (.q 8 (.q 9 (.q 10 (.q 11 (.e 12 (.q 13 (.q 14 (.q 15 (.e 16 (.q 17 .done)))))))))))))))))))] } 125 8 [(.int .i64 a), (.int .i64 b)] R w = vc8 a b R w by kernel_rfl) h)

/-- loupe/loupelaw02.SumInfos -/
def vc9 (o : Int) (l : Option Addr) (ln : Nat) (lc : Nat) (many : Int) (R : Ending → World → Prop) (w : World) : Prop :=
 kBox (cR Try.prog R) w 3 (.int .i64 many) fun v5 w_1 =>
 kAlloc (cR Try.prog R) w_1 4 fun v6 w_2 =>
 kBlt (cR Try.prog R) w_2 .len #[24] 3 #[false] #[(.slice l ln lc)] fun v21 w_3 =>
 kBin (cR Try.prog R) w_3 .gtr 3 v21 (.int .i64 4) fun v22 w_4 =>
 kIf v22 (
 kCall (cR Try.prog R) w_4 22 #[] fun v23 w_5 =>
 kStore (cR Try.prog R) w_5 4 v6 v23 fun w_6 =>
 RetK Try.prog [.cell v6 4] R w_6) (
 kLoopF [(.slice none 0 0), (.int .i64 0)] w_4 fun cs ds w_7 N =>
 (fun x7 x8 =>
 kBlt (cR Try.prog R) w_7 .len #[24] 3 #[false] #[(.slice l ln lc)] fun v26 w_8 =>
 kBin (cR Try.prog R) w_8 .lss 3 x8 v26 fun v27 w_9 =>
 kIf v27 (
 kIa (cR Try.prog R) w_9 24 (.slice l ln lc) x8 fun v33 w_10 =>
 kLoad (cR Try.prog R) w_10 27 v33 fun v34 w_11 =>
 kBuildS (cR Try.prog R) w_11 23 1 #[(0, v34)] fun v35 w_12 =>
 kBlt (cR Try.prog R) w_12 .append #[23, 23] 23 #[false, false] #[x7, v35] fun v36 w_13 =>
 kBin (cR Try.prog R) w_13 .add 3 x8 (.int .i64 1) fun v29 w_14 =>
 kD [] [] (N [v36, v29] w_14)) (
 kCall (cR Try.prog R) w_9 28 #[(.int .i64 o)] fun v39 w_15 =>
 kExt v39 0 fun v40 =>
 kExt v39 1 fun v41 =>
 kAlloc (cR Try.prog R) w_15 62 fun v9 w_16 =>
 kStore (cR Try.prog R) w_16 62 v9 v40 fun w_17 =>
 kCall (cR Try.prog R) w_17 26 #[(.int .i64 o), (.slice l ln lc)] fun v45 w_18 =>
 kExt v45 0 fun v46 =>
 kExt v45 1 fun v47 =>
 kCall (cR Try.prog R) w_18 29 #[(.int .i64 o), x7] fun v51 w_19 =>
 kExt v51 0 fun v52 =>
 kExt v51 1 fun v53 =>
 kCall (cR Try.prog R) w_19 30 #[] fun v54 w_20 =>
 kJn (fun J =>
 kDrawn true (
 kDrawn true (
 kEq (cQ Try.prog) w_20 .eql 68 (.tmp 55) (.const .nilFunc) v54 .nilFunc fun v56 w_94 =>
 kIf v56 (
 kDrew w_94 fun w_95 =>
 kIf (.bool true) (
 kStore (cR Try.prog R) w_95 4 v6 (.bool false) fun w_96 =>
 RetK Try.prog [.cell v6 4] R w_96) (
 kD [] [] (J [] w_95))) (
 kLoad (cQ Try.prog) w_94 62 v9 fun v58 w_97 =>
 kDrew w_97 fun w_98 =>
 (fun (c_7 : Cx) =>
 kCall c_7 w_98 31 #[(.int .i64 o)] fun v60 w_99 =>
 kLoad (cQ Try.prog) w_99 62 v9 fun v58_1 w_100 =>
 kSame v58_1 v58 (
 kEq (cQ Try.prog) w_99 .neq 62 (.tmp 58) (.tmp 60) v58 v60 fun v61 w_101 =>
 kIf v61 (
 kDrew w_101 fun w_102 =>
 kIf (.bool true) (
 kStore (cR Try.prog R) w_102 4 v6 (.bool false) fun w_103 =>
 RetK Try.prog [.cell v6 4] R w_103) (
 kD [] [] (J [] w_102))) (
 kFa (cQ Try.prog) w_101 62 v9 0 fun v65 w_104 =>
 kLoad (cQ Try.prog) w_104 9 v65 fun v66 w_105 =>
 kEq (cQ Try.prog) w_105 .neq 9 (.tmp 66) (.const (.string ⟨#[]⟩)) v66 (.string ⟨#[]⟩) fun v67 w_106 =>
 kEq (cQ Try.prog) w_106 .neq 4 (.tmp 64) (.tmp 67) v41 v67 fun v68 w_107 =>
 kIf v68 (
 kDrew w_107 fun w_108 =>
 kIf (.bool true) (
 kStore (cR Try.prog R) w_108 4 v6 (.bool false) fun w_109 =>
 RetK Try.prog [.cell v6 4] R w_109) (
 kD [] [] (J [] w_108))) (
 kEq (cQ Try.prog) w_107 .neq 3 (.tmp 71) (.tmp 72) v46 v52 fun v73 w_110 =>
 kIf v73 (
 kDrew w_110 fun w_111 =>
 kIf (.bool true) (
 kStore (cR Try.prog R) w_111 4 v6 (.bool false) fun w_112 =>
 RetK Try.prog [.cell v6 4] R w_112) (
 kD [] [] (J [] w_111))) (
 kDrew w_110 fun w_113 =>
 kCall c_7 w_113 25 #[v47] fun v77 w_114 =>
 kEq (cQ Try.prog) w_114 .neq 3 (.tmp 77) (.tmp 78) v77 v53 fun v79 w_115 =>
 kDrew w_115 fun w_116 =>
 kIf v79 (
 kStore (cR Try.prog R) w_116 4 v6 (.bool false) fun w_117 =>
 RetK Try.prog [.cell v6 4] R w_117) (
 kD [] [] (J [] w_116))))))) ⟨Try.prog, fun ch w => ∀ _ : List Value, R (.panicked ch) w, false⟩)))) (fun cs_1 w_21 => ∀ ds_1 : List Value,
 kAlloc (cR Try.prog R) w_21 3 fun v16 w_22 =>
 kStore (cR Try.prog R) w_22 3 v16 (.int .i64 0) fun w_23 =>
 kLoop [v16] [] w_23 fun cs_2 ds_2 d_1 w_24 N_1 =>
 (fun x16 =>
 (fun (c : Cx) =>
 kLoad c w_24 3 x16 fun v81 w_25 =>
 kBin c w_25 .lss 3 v81 (.int .i64 2) fun v82 w_26 =>
 kIf v82 (
 kJnD (fun J_1 =>
 kAlloc c w_26 3 fun v17 w_34 =>
 kStore c w_34 3 v17 (.int .i64 0) fun w_35 =>
 kJnD (fun J_2 =>
 kRange Try.prog none w_35 v54 2 (fun l_1 D args w_57 Rr =>
 (fun p86 p87 =>
 kAlloc (cN Try.prog) w_57 62 fun v19 w_58 =>
 kStore (cN Try.prog) w_58 62 v19 p87 fun w_59 =>
 rndMid l_1 D w_57 w_59 fun lo w_60 =>
 (fun (c_3 : Cx) =>
 kLoad c_3 w_60 3 v17 fun v88 w_61 =>
 kBin c_3 w_61 .add 3 v88 (.int .i64 1) fun v89 w_62 =>
 kStore c_3 w_62 3 v17 v89 fun w_63 =>
 kJn (fun J_3 =>
 kDrawn true (
 kDrawn true (
 kLoad (cQ Try.prog) w_63 3 v17 fun v91 w_70 =>
 kEq (cQ Try.prog) w_70 .neq 3 (.tmp 90) (.tmp 91) p86 v91 fun v92 w_71 =>
 kIf v92 (
 kDrew w_71 fun w_72 =>
 kIf (.bool true) (
 kStore c_3 w_72 4 v6 (.bool false) fun w_73 =>
 rndEnd l_1 D lo w_57 Rr .ret [] w_73) (
 kD [] [] (J_3 [] w_72))) (
 kLoad (cQ Try.prog) w_71 3 v17 fun v94 w_74 =>
 kBin (cQ Try.prog) w_74 .gtr 3 v94 (.int .i64 20) fun v95 w_75 =>
 kIf v95 (
 kDrew w_75 fun w_76 =>
 kIf (.bool true) (
 kStore c_3 w_76 4 v6 (.bool false) fun w_77 =>
 rndEnd l_1 D lo w_57 Rr .ret [] w_77) (
 kD [] [] (J_3 [] w_76))) (
 kLoad (cQ Try.prog) w_75 62 v19 fun v98 w_78 =>
 kLoad (cQ Try.prog) w_78 3 v17 fun v99 w_79 =>
 kDrew w_79 fun w_80 =>
 (fun (c_5 : Cx) =>
 kCall c_5 w_80 31 #[v99] fun v100 w_81 =>
 kLoad (cQ Try.prog) w_81 62 v19 fun v98_1 w_82 =>
 kSame v98_1 v98 (
 kEq (cQ Try.prog) w_81 .neq 62 (.tmp 98) (.tmp 100) v98 v100 fun v101 w_83 =>
 kDrew w_83 fun w_84 =>
 kIf v101 (
 kStore c_3 w_84 4 v6 (.bool false) fun w_85 =>
 rndEnd l_1 D lo w_57 Rr .ret [] w_85) (
 kD [] [] (J_3 [] w_84)))) ⟨Try.prog, fun ch w => ∀ _ : List Value, rndEnd l_1 D lo w_57 Rr (.panic ch) [] w, false⟩))))) (fun cs_5 w_64 => ∀ ds_5 : List Value,
 (fun (c_4 : Cx) =>
 kLoad c_4 w_64 3 x16 fun v103 w_65 =>
 kEq c_4 w_65 .eql 3 (.tmp 103) (.const (.int .i64 0)) v103 (.int .i64 0) fun v104 w_66 =>
 kIf v104 (
 kLoad c_4 w_66 3 v17 fun v106 w_67 =>
 kLoad c_4 w_67 3 v5 fun v107 w_68 =>
 kBin c_4 w_68 .geq 3 v106 v107 fun v108 w_69 =>
 kIf v108 (
 rndEnd l_1 D lo w_57 Rr (.exit 4) [] w_69) (
 rndEnd l_1 D lo w_57 Rr .normal [] w_69)) (
 kIf (.bool false) (
 rndEnd l_1 D lo w_57 Rr (.exit 4) [] w_66) (
 rndEnd l_1 D lo w_57 Rr .normal [] w_66))) ⟨Try.prog, fun ch w => rndEnd l_1 D lo w_57 Rr (.panic ch) [] w, false⟩)) ⟨Try.prog, fun ch w => rndEnd l_1 D lo w_57 Rr (.panic ch) [] w, false⟩) (args.getD 0 undef) (args.getD 1 undef))
  (fun D_1 w_86 =>
 J_2 [] (markOf D_1 :: d_1) w_86)
  (fun D_1 w_87 =>
 Lv Try.prog [.cell v6 4] R (markOf D_1 :: d_1) .returning w_87)
  (fun D_1 id w_88 => kX [4] id (if id = 4 then J_2 [] (markOf D_1 :: d_1) w_88 else if id = 3 then J_1 [] (markOf D_1 :: d_1) w_88 else if id = 2 then (fun (c_6 : Cx) =>
 kCall c_6 w_88 22 #[] fun v128 w_89 =>
 kStore c_6 w_89 4 v6 v128 fun w_90 =>
 Lv Try.prog [.cell v6 4] R (markOf D_1 :: d_1) .returning w_90) ⟨Try.prog, fun ch w => Lv Try.prog [.cell v6 4] R (markOf D_1 :: d_1) (.panicking ch) w, false⟩ else False))
  (fun D_1 ch w_91 => (fun ch w => Lv Try.prog [.cell v6 4] R (markOf D_1 :: d_1) (.panicking ch) w) ch w_91)) (fun cs_4 d_3 w_36 => ∀ ds_4 : List Value,
 (fun (c_2 : Cx) =>
 kLoad c_2 w_36 3 x16 fun v110 w_37 =>
 kEq c_2 w_37 .eql 3 (.tmp 110) (.const (.int .i64 0)) v110 (.int .i64 0) fun v111 w_38 =>
 kIf v111 (
 kLoad c_2 w_38 3 v17 fun v113 w_39 =>
 kLoad c_2 w_39 3 v5 fun v114 w_40 =>
 kBlt c_2 w_40 .max #[3, 3] 3 #[true, false] #[(.int .i64 1), v114] fun v115 w_41 =>
 kBlt c_2 w_41 .min #[3, 3] 3 #[true, false] #[(.int .i64 20), v115] fun v116 w_42 =>
 kEq c_2 w_42 .neq 3 (.tmp 113) (.tmp 116) v113 v116 fun v117 w_43 =>
 kIf v117 (
 kIf (.bool true) (
 kStore c_2 w_43 4 v6 (.bool false) fun w_44 =>
 Lv Try.prog [.cell v6 4] R d_3 .returning w_44) (
 J_1 [] d_3 w_43)) (
 kLoad c_2 w_43 3 x16 fun v120 w_45 =>
 kEq c_2 w_45 .eql 3 (.tmp 120) (.const (.int .i64 1)) v120 (.int .i64 1) fun v121 w_46 =>
 kIf v121 (
 kLoad c_2 w_46 3 v17 fun v123 w_47 =>
 kEq c_2 w_47 .neq 3 (.tmp 123) (.const (.int .i64 20)) v123 (.int .i64 20) fun v124 w_48 =>
 kIf v124 (
 kStore c_2 w_48 4 v6 (.bool false) fun w_49 =>
 Lv Try.prog [.cell v6 4] R d_3 .returning w_49) (
 J_1 [] d_3 w_48)) (
 kIf (.bool false) (
 kStore c_2 w_46 4 v6 (.bool false) fun w_50 =>
 Lv Try.prog [.cell v6 4] R d_3 .returning w_50) (
 J_1 [] d_3 w_46)))) (
 kLoad c_2 w_38 3 x16 fun v120_1 w_51 =>
 kEq c_2 w_51 .eql 3 (.tmp 120) (.const (.int .i64 1)) v120_1 (.int .i64 1) fun v121_1 w_52 =>
 kIf v121_1 (
 kLoad c_2 w_52 3 v17 fun v123_1 w_53 =>
 kEq c_2 w_53 .neq 3 (.tmp 123) (.const (.int .i64 20)) v123_1 (.int .i64 20) fun v124_1 w_54 =>
 kIf v124_1 (
 kStore c_2 w_54 4 v6 (.bool false) fun w_55 =>
 Lv Try.prog [.cell v6 4] R d_3 .returning w_55) (
 J_1 [] d_3 w_54)) (
 kIf (.bool false) (
 kStore c_2 w_52 4 v6 (.bool false) fun w_56 =>
 Lv Try.prog [.cell v6 4] R d_3 .returning w_56) (
 J_1 [] d_3 w_52)))) ⟨Try.prog, fun ch w => Lv Try.prog [.cell v6 4] R d_3 (.panicking ch) w, false⟩)) (fun cs_3 d_2 w_27 => ∀ ds_3 : List Value,
 (fun (c_1 : Cx) =>
 kLoad c_1 w_27 3 x16 fun v127 w_28 =>
 kAlloc c_1 w_28 3 fun v16_1 w_29 =>
 kStore c_1 w_29 3 v16_1 v127 fun w_30 =>
 kLoad c_1 w_30 3 v16_1 fun v83 w_31 =>
 kBin c_1 w_31 .add 3 v83 (.int .i64 1) fun v84 w_32 =>
 kStore c_1 w_32 3 v16_1 v84 fun w_33 =>
 N_1 [v16_1] d_2 w_33) ⟨Try.prog, fun ch w => Lv Try.prog [.cell v6 4] R d_2 (.panicking ch) w, false⟩)) (
 kCall c w_26 22 #[] fun v128_1 w_92 =>
 kStore c w_92 4 v6 v128_1 fun w_93 =>
 Lv Try.prog [.cell v6 4] R d_1 .returning w_93)) ⟨Try.prog, fun ch w => Lv Try.prog [.cell v6 4] R d_1 (.panicking ch) w, false⟩) (cs_2.getD 0 undef)))) (cs.getD 0 undef) (cs.getD 1 undef))
theorem c9 (o : Int) (l : Option Addr) (ln : Nat) (lc : Nat) (many : Int) (R : Ending → World → Prop) (w : World) (h : vc9 o l ln lc many R w) : Calls Try.prog 9 #[(.int .i64 o), (.slice l ln lc), (.int .i64 many)] w R :=
  calls_of_vc (A := { loops := [(1000027, []), (1000025, []), (1000024, []), (2, [16]), (1000014, []), (0, [7, 8])], pars := [], dvar := [2, 1000025, 1000027], chs := [(12, (.q 0 (.q 1 (.q 2 (.q 3 (.q 4 (.e 5 (.q 6 (.q 7 (.q 8 (.q 9 (.q 10 (.q 11 (.q 12 (.q 13 (.q 14 (.q 15 (.q 16 (.q 17 (.q 18 (.q 19 (.q 20 (.q 21 (.q 23 (.e 22 (.q 24 (.q 25 .done))))))))))))))))))))))))))), (22, (.q 0 (.q 1 (.q 2 (.q 3 (.q 4 (.q 5 (.q 6 (.q 7 (.q 8 (.q 9 (.e 10 (.q 11 (.q 12 .done))))))))))))))] }) (Eq.mpr (show FnVc Try.prog { loops := [(1000027, []), (1000025, []), (1000024, []), (2, [16]), (1000014, []), (0, [7, 8])], pars := [], dvar := [2, 1000025, 1000027], chs := [(12, (.q 0 (.q 1 (.q 2 (.q 3 (.q 4 (.e 5 (.q 6 (.q 7 (.q 8 (.q 9 (.q 10 (.q 11 (.q 12 (.q 13 (.q 14 (.q 15 (.q 16 (.q 17 (.q 18 (.q 19 (.q 20 (.q 21 (.q 23 (.e 22 (.q 24 (.q 25 .done))))))))))))))))))))))))))), (22, (.q 0 (.q 1 (.q 2 (.q 3 (.q 4 (.q 5 (.q 6 (.q 7 (.q 8 (.q 9 (.e 10 (.q 11 (.q 12 .done))))))))))))))] } 129 9 [(.int .i64 o), (.slice l ln lc), (.int .i64 many)] R w = vc9 o l ln lc many R w by kernel_rfl) h)

/-- loupe/loupelaw11.few -/
def vc10 (l : Option Addr) (ln : Nat) (lc : Nat) (R : Ending → World → Prop) (w : World) : Prop :=
 kLoopF [(.int .i64 0)] w fun cs ds w_1 N =>
 (fun x3 =>
 kBlt (cR Try.prog R) w_1 .len #[22] 3 #[false] #[(.slice l ln lc)] fun v6 w_2 =>
 kBin (cR Try.prog R) w_2 .lss 3 x3 v6 fun v7 w_3 =>
 kIf v7 (
 kIa (cR Try.prog R) w_3 22 (.slice l ln lc) x3 fun v12 w_4 =>
 kFa (cR Try.prog R) w_4 49 v12 2 fun v13 w_5 =>
 kLoad (cR Try.prog R) w_5 9 v13 fun v14 w_6 =>
 kBlt (cR Try.prog R) w_6 .len #[9] 3 #[false] #[v14] fun v15 w_7 =>
 kBin (cR Try.prog R) w_7 .gtr 3 v15 (.int .i64 1100) fun v16 w_8 =>
 kIf v16 (
 R (.returned (.bool false)) w_8) (
 kBin (cR Try.prog R) w_8 .add 3 x3 (.int .i64 1) fun v9 w_9 =>
 kD [] [] (N [v9] w_9))) (
 kBlt (cR Try.prog R) w_3 .len #[22] 3 #[false] #[(.slice l ln lc)] fun v18 w_10 =>
 kBin (cR Try.prog R) w_10 .leq 3 v18 (.int .i64 40) fun v19 w_11 =>
 R (.returned v19) w_11)) (cs.getD 0 undef)
theorem c10 (l : Option Addr) (ln : Nat) (lc : Nat) (R : Ending → World → Prop) (w : World) (h : vc10 l ln lc R w) : Calls Try.prog 10 #[(.slice l ln lc)] w R :=
  calls_of_vc (A := { loops := [(0, [3])], pars := [] }) (Eq.mpr (show FnVc Try.prog { loops := [(0, [3])], pars := [] } 20 10 [(.slice l ln lc)] R w = vc10 l ln lc R w by kernel_rfl) h)

/-- loupe/loupelaw11.works -/
def vc11  (R : Ending → World → Prop) (w : World) : Prop :=
 kAlloc (cR Try.prog R) w 49 fun v1 w_1 =>
 kDrawn true (
 kDrawn true (
 kLoad (cQ Try.prog) w_1 49 v1 fun v11 w_2 =>
 kBuild (cQ Try.prog) w_2 49 #[(0, (.int .i64 3)), (2, (.string ⟨#[97, 98]⟩))] fun v13 w_3 =>
 kDrew w_3 fun w_4 =>
 (fun (c : Cx) =>
 kCall c w_4 32 #[(.int .i64 (-1))] fun v12 w_5 =>
 kLoad (cQ Try.prog) w_5 49 v1 fun v11_1 w_6 =>
 kSame v11_1 v11 (
 kBuild (cQ Try.prog) w_5 49 #[(0, (.int .i64 3)), (2, (.string ⟨#[97, 98]⟩))] fun v13_1 w_7 =>
 kSame v13_1 v13 (
 kDrew w_5 fun w_8 =>
 kBuildS c w_8 22 3 #[(0, v11), (1, v12), (2, v13)] fun v14 w_9 =>
 kDrew w_9 fun w_10 =>
 kCall c w_10 18 #[v14] fun v15 w_11 =>
 kExt v15 0 fun v16 =>
 kExt v15 1 fun v17 =>
 kDrew w_11 fun w_12 =>
 kBuildS (cR Try.prog R) w_12 38 4 #[(0, (.int .u8 1)), (1, (.int .u8 2)), (2, (.int .u8 128)), (3, (.int .u8 0))] fun v19 w_13 =>
 kCall (cR Try.prog R) w_13 19 #[v19] fun v20 w_14 =>
 kExt v20 0 fun v21 =>
 kExt v20 1 fun v22 =>
 kCall (cR Try.prog R) w_14 32 #[(.int .i64 1)] fun v24 w_15 =>
 kCall (cR Try.prog R) w_15 32 #[(.int .i64 2)] fun v25 w_16 =>
 kBuildS (cR Try.prog R) w_16 22 2 #[(0, v24), (1, v25)] fun v26 w_17 =>
 kBuildS (cR Try.prog R) w_17 23 3 #[(0, (.int .i64 1)), (1, (.int .i64 1)), (2, (.int .i64 0))] fun v27 w_18 =>
 kCall (cR Try.prog R) w_18 12 #[v26, v27] fun v28 w_19 =>
 kExt v28 0 fun v29 =>
 kExt v28 1 fun v30 =>
 kCall (cR Try.prog R) w_19 32 #[(.int .i64 1)] fun v32 w_20 =>
 kBuildS (cR Try.prog R) w_20 22 1 #[(0, v32)] fun v33 w_21 =>
 kBuildS (cR Try.prog R) w_21 23 1 #[(0, (.int .i64 1))] fun v34 w_22 =>
 kCall (cR Try.prog R) w_22 12 #[v33, v34] fun v35 w_23 =>
 kExt v35 0 fun v36 =>
 kExt v35 1 fun v37 =>
 kDrawn true (
 kDrawn true (
 kJn (fun J =>
 kConv (cQ Try.prog) w_23 38 9 v16 fun v39 w_24 =>
 kEq (cQ Try.prog) w_24 .eql 9 (.tmp 39) (.const (.string ⟨#[3, 0, 2, 1, 3, 2, 97, 98]⟩)) v39 (.string ⟨#[3, 0, 2, 1, 3, 2, 97, 98]⟩) fun v40 w_25 =>
 kIf v40 (
 kDrew w_25 fun w_26 =>
 kCall c w_26 15 #[v17] fun v43 w_27 =>
 kDrew w_27 fun w_28 =>
 kCall c w_28 15 #[v30] fun v45 w_29 =>
 kBin (cQ Try.prog) w_29 .add 3 v43 v45 fun v46 w_30 =>
 kEq (cQ Try.prog) w_30 .eql 3 (.tmp 46) (.const (.int .i64 0)) v46 (.int .i64 0) fun v47 w_31 =>
 kIf v47 (
 kDrew w_31 fun w_32 =>
 kCall c w_32 15 #[v22] fun v51 w_33 =>
 kEq (cQ Try.prog) w_33 .eql 3 (.tmp 51) (.const (.int .i64 210)) v51 (.int .i64 210) fun v52 w_34 =>
 kIf v52 (
 kDrew w_34 fun w_35 =>
 kCall c w_35 32 #[(.int .i64 2)] fun v56 w_36 =>
 kDrew w_36 fun w_37 =>
 kCall c w_37 32 #[(.int .i64 2)] fun v57 w_38 =>
 kDrew w_38 fun w_39 =>
 kCall c w_39 32 #[(.int .i64 1)] fun v58 w_40 =>
 kDrew w_40 fun w_41 =>
 kBuildS c w_41 22 3 #[(0, v56), (1, v57), (2, v58)] fun v59 w_42 =>
 kDrew w_42 fun w_43 =>
 kCall c w_43 14 #[v29, v59] fun v60 w_44 =>
 kIf v60 (
 kDrew w_44 fun w_45 =>
 kCall c w_45 15 #[v37] fun v64 w_46 =>
 kEq (cQ Try.prog) w_46 .eql 3 (.tmp 64) (.const (.int .i64 4)) v64 (.int .i64 4) fun v65 w_47 =>
 kIf v65 (
 kLoad (cQ Try.prog) w_47 49 v1 fun v69 w_48 =>
 kBoth (
 kDrew w_48 fun w_49 =>
 kCall c w_49 32 #[(.int .i64 1)] fun v68 w_50 =>
 kLoad (cQ Try.prog) w_50 49 v1 fun v69_1 w_51 =>
 kSame v69_1 v69 (
 kBoth (
 kDrew w_50 fun w_52 =>
 kBuildS c w_52 22 2 #[(0, v68), (1, v69)] fun v70 w_53 =>
 kDrew w_53 fun w_54 =>
 kBuildS c w_54 24 2 #[(0, (.int .i64 2)), (1, (.int .i64 3))] fun v71 w_55 =>
 kDrew w_55 fun w_56 =>
 kCall c w_56 16 #[v70, v71] fun v72 w_57 =>
 kIf v72 (
 kLoad (cQ Try.prog) w_57 49 v1 fun v75 w_58 =>
 kDrew w_58 fun w_59 =>
 kBuildS c w_59 22 1 #[(0, v75)] fun v76 w_60 =>
 kDrew w_60 fun w_61 =>
 kCall c w_61 33 #[v76] fun v77 w_62 =>
 kEq (cQ Try.prog) w_62 .eql 3 (.tmp 77) (.const (.int .i64 2)) v77 (.int .i64 2) fun v78 w_63 =>
 kDrew w_63 fun w_64 => J [v16, v39, v40, (.bool true), v17, v43, v30, v45, v46, v47, v47, (.bool true), v22, v51, v52, v52, (.bool true), v29, v56, v57, v58, v59, v60, v60, (.bool true), v37, v64, v65, v65, (.bool true), v68, v69, v70, v71, v72, v72, (.bool true), v75, v76, v77, v78, v78] w_64) (
 kDrew w_57 fun w_65 => J [v16, v39, v40, (.bool true), v17, v43, v30, v45, v46, v47, v47, (.bool true), v22, v51, v52, v52, (.bool true), v29, v56, v57, v58, v59, v60, v60, (.bool true), v37, v64, v65, v65, (.bool true), v68, v69, v70, v71, v72, v72, (.bool false), undef, undef, undef, undef, (.bool false)] w_65)) (
 kDrew w_50 fun w_66 =>
 kBuildS c w_66 24 2 #[(0, (.int .i64 2)), (1, (.int .i64 3))] fun v71_1 w_67 =>
 kLoad (cQ Try.prog) w_67 49 v1 fun v69_2 w_68 =>
 kSame v69_2 v69 (
 kDrew w_67 fun w_69 =>
 kBuildS c w_69 22 2 #[(0, v68), (1, v69)] fun v70_1 w_70 =>
 kDrew w_70 fun w_71 =>
 kCall c w_71 16 #[v70_1, v71_1] fun v72_1 w_72 =>
 kIf v72_1 (
 kLoad (cQ Try.prog) w_72 49 v1 fun v75_1 w_73 =>
 kDrew w_73 fun w_74 =>
 kBuildS c w_74 22 1 #[(0, v75_1)] fun v76_1 w_75 =>
 kDrew w_75 fun w_76 =>
 kCall c w_76 33 #[v76_1] fun v77_1 w_77 =>
 kEq (cQ Try.prog) w_77 .eql 3 (.tmp 77) (.const (.int .i64 2)) v77_1 (.int .i64 2) fun v78_1 w_78 =>
 kDrew w_78 fun w_79 => J [v16, v39, v40, (.bool true), v17, v43, v30, v45, v46, v47, v47, (.bool true), v22, v51, v52, v52, (.bool true), v29, v56, v57, v58, v59, v60, v60, (.bool true), v37, v64, v65, v65, (.bool true), v68, v69, v70_1, v71_1, v72_1, v72_1, (.bool true), v75_1, v76_1, v77_1, v78_1, v78_1] w_79) (
 kDrew w_72 fun w_80 => J [v16, v39, v40, (.bool true), v17, v43, v30, v45, v46, v47, v47, (.bool true), v22, v51, v52, v52, (.bool true), v29, v56, v57, v58, v59, v60, v60, (.bool true), v37, v64, v65, v65, (.bool true), v68, v69, v70_1, v71_1, v72_1, v72_1, (.bool false), undef, undef, undef, undef, (.bool false)] w_80))))) (
 kDrew w_48 fun w_81 =>
 kBuildS c w_81 24 2 #[(0, (.int .i64 2)), (1, (.int .i64 3))] fun v71_2 w_82 =>
 kLoad (cQ Try.prog) w_82 49 v1 fun v69_3 w_83 =>
 kSame v69_3 v69 (
 kDrew w_82 fun w_84 =>
 kCall c w_84 32 #[(.int .i64 1)] fun v68_1 w_85 =>
 kLoad (cQ Try.prog) w_85 49 v1 fun v69_4 w_86 =>
 kSame v69_4 v69 (
 kDrew w_85 fun w_87 =>
 kBuildS c w_87 22 2 #[(0, v68_1), (1, v69)] fun v70_2 w_88 =>
 kDrew w_88 fun w_89 =>
 kCall c w_89 16 #[v70_2, v71_2] fun v72_2 w_90 =>
 kIf v72_2 (
 kLoad (cQ Try.prog) w_90 49 v1 fun v75_2 w_91 =>
 kDrew w_91 fun w_92 =>
 kBuildS c w_92 22 1 #[(0, v75_2)] fun v76_2 w_93 =>
 kDrew w_93 fun w_94 =>
 kCall c w_94 33 #[v76_2] fun v77_2 w_95 =>
 kEq (cQ Try.prog) w_95 .eql 3 (.tmp 77) (.const (.int .i64 2)) v77_2 (.int .i64 2) fun v78_2 w_96 =>
 kDrew w_96 fun w_97 => J [v16, v39, v40, (.bool true), v17, v43, v30, v45, v46, v47, v47, (.bool true), v22, v51, v52, v52, (.bool true), v29, v56, v57, v58, v59, v60, v60, (.bool true), v37, v64, v65, v65, (.bool true), v68_1, v69, v70_2, v71_2, v72_2, v72_2, (.bool true), v75_2, v76_2, v77_2, v78_2, v78_2] w_97) (
 kDrew w_90 fun w_98 => J [v16, v39, v40, (.bool true), v17, v43, v30, v45, v46, v47, v47, (.bool true), v22, v51, v52, v52, (.bool true), v29, v56, v57, v58, v59, v60, v60, (.bool true), v37, v64, v65, v65, (.bool true), v68_1, v69, v70_2, v71_2, v72_2, v72_2, (.bool false), undef, undef, undef, undef, (.bool false)] w_98))))) (
 kBoth (
 kBoth (
 kDrew w_47 fun w_99 => J [v16, v39, v40, (.bool true), v17, v43, v30, v45, v46, v47, v47, (.bool true), v22, v51, v52, v52, (.bool true), v29, v56, v57, v58, v59, v60, v60, (.bool true), v37, v64, v65, v65, (.bool false), undef, undef, undef, undef, undef, (.bool false), (.bool false), undef, undef, undef, undef, (.bool false)] w_99) (
 kDrew w_47 fun w_100 => J [v16, v39, v40, (.bool true), v17, v43, v30, v45, v46, v47, v47, (.bool true), v22, v51, v52, v52, (.bool true), v29, v56, v57, v58, v59, v60, v60, (.bool true), v37, v64, v65, v65, (.bool false), undef, undef, undef, undef, undef, (.bool false), (.bool false), undef, undef, undef, undef, (.bool false)] w_100)) (
 kDrew w_47 fun w_101 => J [v16, v39, v40, (.bool true), v17, v43, v30, v45, v46, v47, v47, (.bool true), v22, v51, v52, v52, (.bool true), v29, v56, v57, v58, v59, v60, v60, (.bool true), v37, v64, v65, v65, (.bool false), undef, undef, undef, undef, undef, (.bool false), (.bool false), undef, undef, undef, undef, (.bool false)] w_101))) (
 kBoth (
 kBoth (
 kDrew w_44 fun w_102 => J [v16, v39, v40, (.bool true), v17, v43, v30, v45, v46, v47, v47, (.bool true), v22, v51, v52, v52, (.bool true), v29, v56, v57, v58, v59, v60, v60, (.bool false), undef, undef, undef, (.bool false), (.bool false), undef, undef, undef, undef, undef, (.bool false), (.bool false), undef, undef, undef, undef, (.bool false)] w_102) (
 kDrew w_44 fun w_103 => J [v16, v39, v40, (.bool true), v17, v43, v30, v45, v46, v47, v47, (.bool true), v22, v51, v52, v52, (.bool true), v29, v56, v57, v58, v59, v60, v60, (.bool false), undef, undef, undef, (.bool false), (.bool false), undef, undef, undef, undef, undef, (.bool false), (.bool false), undef, undef, undef, undef, (.bool false)] w_103)) (
 kDrew w_44 fun w_104 => J [v16, v39, v40, (.bool true), v17, v43, v30, v45, v46, v47, v47, (.bool true), v22, v51, v52, v52, (.bool true), v29, v56, v57, v58, v59, v60, v60, (.bool false), undef, undef, undef, (.bool false), (.bool false), undef, undef, undef, undef, undef, (.bool false), (.bool false), undef, undef, undef, undef, (.bool false)] w_104))) (
 kBoth (
 kBoth (
 kDrew w_34 fun w_105 => J [v16, v39, v40, (.bool true), v17, v43, v30, v45, v46, v47, v47, (.bool true), v22, v51, v52, v52, (.bool false), undef, undef, undef, undef, undef, undef, (.bool false), (.bool false), undef, undef, undef, (.bool false), (.bool false), undef, undef, undef, undef, undef, (.bool false), (.bool false), undef, undef, undef, undef, (.bool false)] w_105) (
 kDrew w_34 fun w_106 => J [v16, v39, v40, (.bool true), v17, v43, v30, v45, v46, v47, v47, (.bool true), v22, v51, v52, v52, (.bool false), undef, undef, undef, undef, undef, undef, (.bool false), (.bool false), undef, undef, undef, (.bool false), (.bool false), undef, undef, undef, undef, undef, (.bool false), (.bool false), undef, undef, undef, undef, (.bool false)] w_106)) (
 kDrew w_34 fun w_107 => J [v16, v39, v40, (.bool true), v17, v43, v30, v45, v46, v47, v47, (.bool true), v22, v51, v52, v52, (.bool false), undef, undef, undef, undef, undef, undef, (.bool false), (.bool false), undef, undef, undef, (.bool false), (.bool false), undef, undef, undef, undef, undef, (.bool false), (.bool false), undef, undef, undef, undef, (.bool false)] w_107))) (
 kBoth (
 kBoth (
 kDrew w_31 fun w_108 => J [v16, v39, v40, (.bool true), v17, v43, v30, v45, v46, v47, v47, (.bool false), undef, undef, undef, (.bool false), (.bool false), undef, undef, undef, undef, undef, undef, (.bool false), (.bool false), undef, undef, undef, (.bool false), (.bool false), undef, undef, undef, undef, undef, (.bool false), (.bool false), undef, undef, undef, undef, (.bool false)] w_108) (
 kDrew w_31 fun w_109 => J [v16, v39, v40, (.bool true), v17, v43, v30, v45, v46, v47, v47, (.bool false), undef, undef, undef, (.bool false), (.bool false), undef, undef, undef, undef, undef, undef, (.bool false), (.bool false), undef, undef, undef, (.bool false), (.bool false), undef, undef, undef, undef, undef, (.bool false), (.bool false), undef, undef, undef, undef, (.bool false)] w_109)) (
 kDrew w_31 fun w_110 => J [v16, v39, v40, (.bool true), v17, v43, v30, v45, v46, v47, v47, (.bool false), undef, undef, undef, (.bool false), (.bool false), undef, undef, undef, undef, undef, undef, (.bool false), (.bool false), undef, undef, undef, (.bool false), (.bool false), undef, undef, undef, undef, undef, (.bool false), (.bool false), undef, undef, undef, undef, (.bool false)] w_110))) (
 kBoth (
 kBoth (
 kDrew w_25 fun w_111 => J [v16, v39, v40, (.bool false), undef, undef, undef, undef, undef, undef, (.bool false), (.bool false), undef, undef, undef, (.bool false), (.bool false), undef, undef, undef, undef, undef, undef, (.bool false), (.bool false), undef, undef, undef, (.bool false), (.bool false), undef, undef, undef, undef, undef, (.bool false), (.bool false), undef, undef, undef, undef, (.bool false)] w_111) (
 kDrew w_25 fun w_112 => J [v16, v39, v40, (.bool false), undef, undef, undef, undef, undef, undef, (.bool false), (.bool false), undef, undef, undef, (.bool false), (.bool false), undef, undef, undef, undef, undef, undef, (.bool false), (.bool false), undef, undef, undef, (.bool false), (.bool false), undef, undef, undef, undef, undef, (.bool false), (.bool false), undef, undef, undef, undef, (.bool false)] w_112)) (
 kDrew w_25 fun w_113 => J [v16, v39, v40, (.bool false), undef, undef, undef, undef, undef, undef, (.bool false), (.bool false), undef, undef, undef, (.bool false), (.bool false), undef, undef, undef, undef, undef, undef, (.bool false), (.bool false), undef, undef, undef, (.bool false), (.bool false), undef, undef, undef, undef, undef, (.bool false), (.bool false), undef, undef, undef, undef, (.bool false)] w_113))) (fun cs w_114 =>
 (fun g41 =>
 R (.returned g41) w_114) (cs.getD 41 undef))))))) ⟨Try.prog, fun ch w => ∀ _ : List Value, R (.panicked ch) w, false⟩))
theorem c11  (R : Ending → World → Prop) (w : World) (h : vc11  R w) : Calls Try.prog 11 #[] w R :=
  calls_of_vc (A := { loops := [], pars := [], chs := [(2, (.q 0 (.q 2 (.e 1 (.e 3 (.e 4 (.q 5 (.q 6 (.q 7 (.q 8 .done)))))))))), (6, (.q 0 (.q 1 (.q 2 (.q 3 (.q 4 (.q 6 (.e 5 (.e 7 (.q 8 (.q 9 (.q 10 (.q 11 (.q 12 (.e 13 (.q 14 (.q 15 (.q 16 (.q 17 (.e 18 (.e 19 (.e 20 (.e 21 (.e 22 (.q 23 (.q 24 (.q 25 (.e 26 (.q 27 (.q 28 (.q 29 (.q 31 (.or 30 (.or 32 (.e 33 (.e 34 (.q 35 (.q 36 (.q 37 (.e 38 (.e 39 (.q 40 (.q 41 .done))))))))) (.e 33 (.e 32 (.e 34 (.q 35 (.q 36 (.q 37 (.e 38 (.e 39 (.q 40 (.q 41 .done))))))))))) (.e 33 (.e 30 (.e 32 (.e 34 (.q 35 (.q 36 (.q 37 (.e 38 (.e 39 (.q 40 (.q 41 .done))))))))))))))))))))))))))))))))))))))))))))] }) (Eq.mpr (show FnVc Try.prog { loops := [], pars := [], chs := [(2, (.q 0 (.q 2 (.e 1 (.e 3 (.e 4 (.q 5 (.q 6 (.q 7 (.q 8 .done)))))))))), (6, (.q 0 (.q 1 (.q 2 (.q 3 (.q 4 (.q 6 (.e 5 (.e 7 (.q 8 (.q 9 (.q 10 (.q 11 (.q 12 (.e 13 (.q 14 (.q 15 (.q 16 (.q 17 (.e 18 (.e 19 (.e 20 (.e 21 (.e 22 (.q 23 (.q 24 (.q 25 (.e 26 (.q 27 (.q 28 (.q 29 (.q 31 (.or 30 (.or 32 (.e 33 (.e 34 (.q 35 (.q 36 (.q 37 (.e 38 (.e 39 (.q 40 (.q 41 .done))))))))) (.e 33 (.e 32 (.e 34 (.q 35 (.q 36 (.q 37 (.e 38 (.e 39 (.q 40 (.q 41 .done))))))))))) (.e 33 (.e 30 (.e 32 (.e 34 (.q 35 (.q 36 (.q 37 (.e 38 (.e 39 (.q 40 (.q 41 .done))))))))))))))))))))))))))))))))))))))))))))] } 80 11 [] R w = vc11  R w by kernel_rfl) h)

/-- loupe/row.Pick -/
def vc12 (row : Option Addr) (rown : Nat) (rowc : Nat) (atA : Option Addr) (atAn : Nat) (atAc : Nat) (R : Ending → World → Prop) (w : World) : Prop :=
 kCall (cR Try.prog R) w 34 #[(.slice row rown rowc), (.slice atA atAn atAc)] fun v11 w_1 =>
 kExt v11 0 fun v12 =>
 kExt v11 1 fun v13 =>
 kUn (cR Try.prog R) w_1 .not v13 fun v15 w_2 =>
 kIf v15 (
 R (.returned (.tuple #[(.slice none 0 0), (.int .i64 4)])) w_2) (
 R (.returned (.tuple #[v12, (.int .i64 0)])) w_2)
theorem c12 (row : Option Addr) (rown : Nat) (rowc : Nat) (atA : Option Addr) (atAn : Nat) (atAc : Nat) (R : Ending → World → Prop) (w : World) (h : vc12 row rown rowc atA atAn atAc R w) : Calls Try.prog 12 #[(.slice row rown rowc), (.slice atA atAn atAc)] w R :=
  calls_of_vc (A := { loops := [], pars := [] }) (Eq.mpr (show FnVc Try.prog { loops := [], pars := [] } 17 12 [(.slice row rown rowc), (.slice atA atAn atAc)] R w = vc12 row rown rowc atA atAn atAc R w by kernel_rfl) h)

/-- loupe/louperef11.Pick -/
def vc13 (row : Option Addr) (rown : Nat) (rowc : Nat) (atA : Option Addr) (atAn : Nat) (atAc : Nat) (R : Ending → World → Prop) (w : World) : Prop :=
 kLoopF [(.slice none 0 0), (.int .i64 0)] w fun cs ds w_1 N =>
 (fun x6 x7 =>
 kBlt (cR Try.prog R) w_1 .len #[23] 3 #[false] #[(.slice atA atAn atAc)] fun v10 w_2 =>
 kBin (cR Try.prog R) w_2 .lss 3 x7 v10 fun v11 w_3 =>
 kIf v11 (
 kJn (fun J =>
 kIa (cR Try.prog R) w_3 23 (.slice atA atAn atAc) x7 fun v16 w_12 =>
 kLoad (cR Try.prog R) w_12 3 v16 fun v17 w_13 =>
 kBin (cR Try.prog R) w_13 .lss 3 v17 (.int .i64 0) fun v18 w_14 =>
 kIf v18 (
 kIf (.bool true) (
 R (.returned (.tuple #[(.slice none 0 0), (.bool false)])) w_14) (
 kD [] [] (J [] w_14))) (
 kIa (cR Try.prog R) w_14 23 (.slice atA atAn atAc) x7 fun v22 w_15 =>
 kLoad (cR Try.prog R) w_15 3 v22 fun v23 w_16 =>
 kBlt (cR Try.prog R) w_16 .len #[22] 3 #[false] #[(.slice row rown rowc)] fun v25 w_17 =>
 kBin (cR Try.prog R) w_17 .geq 3 v23 v25 fun v26 w_18 =>
 kIf v26 (
 R (.returned (.tuple #[(.slice none 0 0), (.bool false)])) w_18) (
 kD [] [] (J [] w_18)))) (fun cs_1 w_4 => ∀ ds_1 : List Value,
 kIa (cR Try.prog R) w_4 23 (.slice atA atAn atAc) x7 fun v32 w_5 =>
 kLoad (cR Try.prog R) w_5 3 v32 fun v33 w_6 =>
 kIa (cR Try.prog R) w_6 22 (.slice row rown rowc) v33 fun v34 w_7 =>
 kLoad (cR Try.prog R) w_7 49 v34 fun v35 w_8 =>
 kBuildS (cR Try.prog R) w_8 22 1 #[(0, v35)] fun v36 w_9 =>
 kBlt (cR Try.prog R) w_9 .append #[22, 22] 22 #[false, false] #[x6, v36] fun v37 w_10 =>
 kBin (cR Try.prog R) w_10 .add 3 x7 (.int .i64 1) fun v13 w_11 =>
 kD [] [] (N [v37, v13] w_11))) (
 R (.returned (.tuple #[x6, (.bool true)])) w_3)) (cs.getD 0 undef) (cs.getD 1 undef)
theorem c13 (row : Option Addr) (rown : Nat) (rowc : Nat) (atA : Option Addr) (atAn : Nat) (atAc : Nat) (R : Ending → World → Prop) (w : World) (h : vc13 row rown rowc atA atAn atAc R w) : Calls Try.prog 13 #[(.slice row rown rowc), (.slice atA atAn atAc)] w R :=
  calls_of_vc (A := { loops := [(1000007, []), (0, [6, 7])], pars := [] }) (Eq.mpr (show FnVc Try.prog { loops := [(1000007, []), (0, [6, 7])], pars := [] } 39 13 [(.slice row rown rowc), (.slice atA atAn atAc)] R w = vc13 row rown rowc atA atAn atAc R w by kernel_rfl) h)

/-- loupe/louperef11.Same -/
def vc14 (a : Option Addr) (an : Nat) (ac : Nat) (b : Option Addr) (bn : Nat) (bc : Nat) (R : Ending → World → Prop) (w : World) : Prop :=
 kCall (cR Try.prog R) w 35 #[(.slice a an ac), (.slice b bn bc)] fun v7 w_1 =>
 R (.returned v7) w_1
theorem c14 (a : Option Addr) (an : Nat) (ac : Nat) (b : Option Addr) (bn : Nat) (bc : Nat) (R : Ending → World → Prop) (w : World) (h : vc14 a an ac b bn bc R w) : Calls Try.prog 14 #[(.slice a an ac), (.slice b bn bc)] w R :=
  calls_of_vc (A := { loops := [], pars := [] }) (Eq.mpr (show FnVc Try.prog { loops := [], pars := [] } 8 14 [(.slice a an ac), (.slice b bn bc)] R w = vc14 a an ac b bn bc R w by kernel_rfl) h)

/-- loupe/loupelaw11.num -/
def vc15 (eA : Int) (R : Ending → World → Prop) (w : World) : Prop :=
 R (.returned (.int .i64 eA)) w
theorem c15 (eA : Int) (R : Ending → World → Prop) (w : World) (h : vc15 eA R w) : Calls Try.prog 15 #[(.int .i64 eA)] w R :=
  calls_of_vc (A := { loops := [], pars := [] }) (Eq.mpr (show FnVc Try.prog { loops := [], pars := [] } 4 15 [(.int .i64 eA)] R w = vc15 eA R w by kernel_rfl) h)

/-- loupe/row.Fits -/
def vc16 (row : Option Addr) (rown : Nat) (rowc : Nat) (t : Option Addr) (tn : Nat) (tc : Nat) (R : Ending → World → Prop) (w : World) : Prop :=
 kCall (cR Try.prog R) w 36 #[(.slice row rown rowc), (.slice t tn tc), (.func (.func 37) #[] #[])] fun v7 w_1 =>
 R (.returned v7) w_1
theorem c16 (row : Option Addr) (rown : Nat) (rowc : Nat) (t : Option Addr) (tn : Nat) (tc : Nat) (R : Ending → World → Prop) (w : World) (h : vc16 row rown rowc t tn tc R w) : Calls Try.prog 16 #[(.slice row rown rowc), (.slice t tn tc)] w R :=
  calls_of_vc (A := { loops := [], pars := [] }) (Eq.mpr (show FnVc Try.prog { loops := [], pars := [] } 8 16 [(.slice row rown rowc), (.slice t tn tc)] R w = vc16 row rown rowc t tn tc R w by kernel_rfl) h)

/-- loupe/louperef11.Fits -/
def vc17 (row : Option Addr) (rown : Nat) (rowc : Nat) (t : Option Addr) (tn : Nat) (tc : Nat) (R : Ending → World → Prop) (w : World) : Prop :=
 kBlt (cR Try.prog R) w .len #[22] 3 #[false] #[(.slice row rown rowc)] fun v7 w_1 =>
 kBlt (cR Try.prog R) w_1 .len #[23] 3 #[false] #[(.slice t tn tc)] fun v9 w_2 =>
 kEq (cR Try.prog R) w_2 .neq 3 (.tmp 7) (.tmp 9) v7 v9 fun v10 w_3 =>
 kIf v10 (
 R (.returned (.bool false)) w_3) (
 kLoopF [(.int .i64 0)] w_3 fun cs ds w_4 N =>
 (fun x5 =>
 kBlt (cR Try.prog R) w_4 .len #[22] 3 #[false] #[(.slice row rown rowc)] fun v13 w_5 =>
 kBin (cR Try.prog R) w_5 .lss 3 x5 v13 fun v14 w_6 =>
 kIf v14 (
 kDrawn true (
 kPar w_6 10 [[], [], [0, 1], [2], [], [], [4, 5], [6], [3, 7], [8]] (fun Inv Cl =>
 (∀ (S : Nat → Bool) (vs : Nat → Value) (w_7 : World), Inv S vs w_7 → Cl S → S 0 = false → (∀ j, j ∈ ([] : List Nat) → S j = true) →
 Inv (inc S 0) (setV vs 0 (.slice row rown rowc)) w_7) ∧
 (∀ (S_1 : Nat → Bool) (vs_1 : Nat → Value) (w_8 : World), Inv S_1 vs_1 w_8 → Cl S_1 → S_1 1 = false → (∀ j, j ∈ ([] : List Nat) → S_1 j = true) →
 Inv (inc S_1 1) (setV vs_1 1 x5) w_8) ∧
 (∀ (S_2 : Nat → Bool) (vs_2 : Nat → Value) (w_9 : World), Inv S_2 vs_2 w_9 → Cl S_2 → S_2 2 = false → (∀ j, j ∈ ([0, 1] : List Nat) → S_2 j = true) →
 kIa (cN Try.prog) w_9 22 (vs_2 0) (vs_2 1) fun v19 w_10 =>
 Inv (inc S_2 2) (setV vs_2 2 v19) w_10) ∧
 (∀ (S_3 : Nat → Bool) (vs_3 : Nat → Value) (w_11 : World), Inv S_3 vs_3 w_11 → Cl S_3 → S_3 3 = false → (∀ j, j ∈ ([2] : List Nat) → S_3 j = true) →
 kLoad (cN Try.prog) w_11 49 (vs_3 2) fun v20 w_12 =>
 Inv (inc S_3 3) (setV vs_3 3 v20) w_12) ∧
 (∀ (S_4 : Nat → Bool) (vs_4 : Nat → Value) (w_13 : World), Inv S_4 vs_4 w_13 → Cl S_4 → S_4 4 = false → (∀ j, j ∈ ([] : List Nat) → S_4 j = true) →
 Inv (inc S_4 4) (setV vs_4 4 (.slice t tn tc)) w_13) ∧
 (∀ (S_5 : Nat → Bool) (vs_5 : Nat → Value) (w_14 : World), Inv S_5 vs_5 w_14 → Cl S_5 → S_5 5 = false → (∀ j, j ∈ ([] : List Nat) → S_5 j = true) →
 Inv (inc S_5 5) (setV vs_5 5 x5) w_14) ∧
 (∀ (S_6 : Nat → Bool) (vs_6 : Nat → Value) (w_15 : World), Inv S_6 vs_6 w_15 → Cl S_6 → S_6 6 = false → (∀ j, j ∈ ([4, 5] : List Nat) → S_6 j = true) →
 kIa (cN Try.prog) w_15 23 (vs_6 4) (vs_6 5) fun v23 w_16 =>
 Inv (inc S_6 6) (setV vs_6 6 v23) w_16) ∧
 (∀ (S_7 : Nat → Bool) (vs_7 : Nat → Value) (w_17 : World), Inv S_7 vs_7 w_17 → Cl S_7 → S_7 7 = false → (∀ j, j ∈ ([6] : List Nat) → S_7 j = true) →
 kLoad (cN Try.prog) w_17 3 (vs_7 6) fun v24 w_18 =>
 Inv (inc S_7 7) (setV vs_7 7 v24) w_18) ∧
 (∀ (S_8 : Nat → Bool) (vs_8 : Nat → Value) (w_19 : World), Inv S_8 vs_8 w_19 → Cl S_8 → S_8 8 = false → (∀ j, j ∈ ([3, 7] : List Nat) → S_8 j = true) →
 kCall (cN Try.prog) w_19 38 #[(vs_8 3), (vs_8 7)] fun v25 w_20 =>
 Inv (inc S_8 8) (setV vs_8 8 v25) w_20) ∧
 (∀ (S_9 : Nat → Bool) (vs_9 : Nat → Value) (w_21 : World), Inv S_9 vs_9 w_21 → Cl S_9 → S_9 9 = false → (∀ j, j ∈ ([8] : List Nat) → S_9 j = true) →
 kUn (cN Try.prog) w_21 .not (vs_9 8) fun v26 w_22 =>
 Inv (inc S_9 9) (setV vs_9 9 v26) w_22) ∧
 True) (fun vs_10 w_23 =>
 kIf (vs_10 9) (
 R (.returned (.bool false)) w_23) (
 kBin (cR Try.prog R) w_23 .add 3 x5 (.int .i64 1) fun v16 w_24 =>
 kD [] [] (N [v16] w_24))))) (
 R (.returned (.bool true)) w_6)) (cs.getD 0 undef))
theorem c17 (row : Option Addr) (rown : Nat) (rowc : Nat) (t : Option Addr) (tn : Nat) (tc : Nat) (R : Ending → World → Prop) (w : World) (h : vc17 row rown rowc t tn tc R w) : Calls Try.prog 17 #[(.slice row rown rowc), (.slice t tn tc)] w R :=
  calls_of_vc (A := { loops := [(0, [5])], pars := [6] }) (Eq.mpr (show FnVc Try.prog { loops := [(0, [5])], pars := [6] } 27 17 [(.slice row rown rowc), (.slice t tn tc)] R w = vc17 row rown rowc t tn tc R w by kernel_rfl) h)

/-- loupe/row.Encode -/
def vc18 (row : Option Addr) (rown : Nat) (rowc : Nat) (R : Ending → World → Prop) (w : World) : Prop :=
 kAlloc (cR Try.prog R) w 38 fun v2 w_1 =>
 kAlloc (cR Try.prog R) w_1 28 fun v3 w_2 =>
 (fun (c : Cx) =>
 kCall c w_2 41 #[(.slice row rown rowc)] fun v6 w_3 =>
 kStore c w_3 38 v2 v6 fun w_4 =>
 kStore c w_4 28 v3 (.int .i64 0) fun w_5 =>
 Lv Try.prog [.cell v2 38, .cell v3 28] R [{ target := .fn (.func 39) #[], args := #[v3, (.func (.func 40) #[] #[v2])] }] .returning w_5) ⟨Try.prog, fun ch w => Lv Try.prog [.cell v2 38, .cell v3 28] R [{ target := .fn (.func 39) #[], args := #[v3, (.func (.func 40) #[] #[v2])] }] (.panicking ch) w, false⟩
theorem c18 (row : Option Addr) (rown : Nat) (rowc : Nat) (R : Ending → World → Prop) (w : World) (h : vc18 row rown rowc R w) : Calls Try.prog 18 #[(.slice row rown rowc)] w R :=
  calls_of_vc (A := { loops := [], pars := [] }) (Eq.mpr (show FnVc Try.prog { loops := [], pars := [] } 7 18 [(.slice row rown rowc)] R w = vc18 row rown rowc R w by kernel_rfl) h)

/-- loupe/row.Decode -/
def vc19 (b : Option Addr) (bn : Nat) (bc : Nat) (R : Ending → World → Prop) (w : World) : Prop :=
 kAlloc (cR Try.prog R) w 22 fun v2 w_1 =>
 kAlloc (cR Try.prog R) w_1 28 fun v3 w_2 =>
 (fun (c : Cx) =>
 kBuild c w_2 81 #[(0, (.slice b bn bc))] fun v9 w_3 =>
 kBuild c w_3 83 #[(0, v9)] fun v10 w_4 =>
 kBox c w_4 83 v10 fun v11 w_5 =>
 kCall c w_5 43 #[v11] fun v13 w_6 =>
 kBin c w_6 .leq 84 v13 (.int .u64 32) fun v15 w_7 =>
 kCall c w_7 44 #[v15, (.int .i64 210)] fun v16 w_8 =>
 kLoopF [(.int .u64 0)] w_8 fun cs ds w_9 N =>
 (fun x18 =>
 kBin c w_9 .lss 84 x18 v13 fun v19 w_10 =>
 kIf v19 (
 kDrawn true (
 kDrawn true (
 kLoad (cQ Try.prog) w_10 22 v2 fun v20 w_11 =>
 kDrew w_11 fun w_12 =>
 (fun (c_1 : Cx) =>
 kCall c_1 w_12 45 #[v11] fun v22 w_13 =>
 kLoad (cQ Try.prog) w_13 22 v2 fun v20_1 w_14 =>
 kSame v20_1 v20 (
 kDrew w_13 fun w_15 =>
 kBuildS c_1 w_15 22 1 #[(0, v22)] fun v23 w_16 =>
 kLoad (cQ Try.prog) w_16 22 v2 fun v20_2 w_17 =>
 kSame v20_2 v20 (
 kDrew w_16 fun w_18 =>
 kBlt c_1 w_18 .append #[22, 22] 22 #[false, false] #[v20, v23] fun v24 w_19 =>
 kDrew w_19 fun w_20 =>
 kStore c w_20 22 v2 v24 fun w_21 =>
 kBin c w_21 .add 84 x18 (.int .u64 1) fun v25 w_22 =>
 kD [{ target := .fn (.func 39) #[], args := #[v3, (.func (.func 42) #[] #[v2])] }] [{ target := .fn (.func 39) #[], args := #[v3, (.func (.func 42) #[] #[v2])] }] (N [v25] w_22)))) ⟨Try.prog, fun ch w => ∀ _ : List Value, Lv Try.prog [.cell v2 22, .cell v3 28] R [{ target := .fn (.func 39) #[], args := #[v3, (.func (.func 42) #[] #[v2])] }] (.panicking ch) w, false⟩))) (
 kLoad c w_10 22 v2 fun v27 w_23 =>
 kCall c w_23 18 #[v27] fun v28 w_24 =>
 kExt v28 0 fun v29 =>
 kExt v28 1 fun v30 =>
 kStore c w_24 28 v3 v30 fun w_25 =>
 kLoad c w_25 28 v3 fun v31 w_26 =>
 kEq c w_26 .eql 28 (.tmp 31) (.const (.int .i64 0)) v31 (.int .i64 0) fun v32 w_27 =>
 kIf v32 (
 kCall c w_27 46 #[v29, (.slice b bn bc)] fun v36 w_28 =>
 kCall c w_28 44 #[v36, (.int .i64 210)] fun v38 w_29 =>
 kLoad c w_29 22 v2 fun v39 w_30 =>
 kStore c w_30 22 v2 v39 fun w_31 =>
 kStore c w_31 28 v3 (.int .i64 0) fun w_32 =>
 Lv Try.prog [.cell v2 22, .cell v3 28] R [{ target := .fn (.func 39) #[], args := #[v3, (.func (.func 42) #[] #[v2])] }] .returning w_32) (
 kCall c w_27 44 #[(.bool false), (.int .i64 210)] fun v38_1 w_33 =>
 kLoad c w_33 22 v2 fun v39_1 w_34 =>
 kStore c w_34 22 v2 v39_1 fun w_35 =>
 kStore c w_35 28 v3 (.int .i64 0) fun w_36 =>
 Lv Try.prog [.cell v2 22, .cell v3 28] R [{ target := .fn (.func 39) #[], args := #[v3, (.func (.func 42) #[] #[v2])] }] .returning w_36))) (cs.getD 0 undef)) ⟨Try.prog, fun ch w => Lv Try.prog [.cell v2 22, .cell v3 28] R [{ target := .fn (.func 39) #[], args := #[v3, (.func (.func 42) #[] #[v2])] }] (.panicking ch) w, false⟩
theorem c19 (b : Option Addr) (bn : Nat) (bc : Nat) (R : Ending → World → Prop) (w : World) (h : vc19 b bn bc R w) : Calls Try.prog 19 #[(.slice b bn bc)] w R :=
  calls_of_vc (A := { loops := [(0, [18])], pars := [], chs := [(7, (.q 0 (.q 1 (.e 2 (.e 3 (.e 4 .done))))))] }) (Eq.mpr (show FnVc Try.prog { loops := [(0, [18])], pars := [], chs := [(7, (.q 0 (.q 1 (.e 2 (.e 3 (.e 4 .done))))))] } 40 19 [(.slice b bn bc)] R w = vc19 b bn bc R w by kernel_rfl) h)

/-- loupe/louperef11.Decode -/
def vc20 (b : Option Addr) (bn : Nat) (bc : Nat) (R : Ending → World → Prop) (w : World) : Prop :=
 kCall (cR Try.prog R) w 47 #[(.slice b bn bc)] fun v14 w_1 =>
 kExt v14 0 fun v15 =>
 kExt v14 1 fun v16 =>
 kExt v14 2 fun v17 =>
 kJn (fun J =>
 kEq (cR Try.prog R) w_1 .neq 3 (.tmp 18) (.const (.int .i64 0)) v17 (.int .i64 0) fun v19 w_23 =>
 kIf v19 (
 kIf (.bool true) (
 R (.returned (.tuple #[(.slice none 0 0), (.int .i64 210)])) w_23) (
 kD [] [] (J [] w_23))) (
 kBin (cR Try.prog R) w_23 .gtr 84 v15 (.int .u64 32) fun v22 w_24 =>
 kIf v22 (
 R (.returned (.tuple #[(.slice none 0 0), (.int .i64 210)])) w_24) (
 kD [] [] (J [] w_24)))) (fun cs w_2 => ∀ ds : List Value,
 kLoopF [(.slice none 0 0), v16, (.int .i64 0)] w_2 fun cs_1 ds_1 w_3 N =>
 (fun x7 x5 x8 =>
 kConv (cR Try.prog R) w_3 84 3 v15 fun v26 w_4 =>
 kBin (cR Try.prog R) w_4 .lss 3 x8 v26 fun v27 w_5 =>
 kIf v27 (
 kSl (cR Try.prog R) w_5 38 (.slice b bn bc) (some x5) none none fun v33 w_6 =>
 kCall (cR Try.prog R) w_6 48 #[v33] fun v34 w_7 =>
 kExt v34 0 fun v35 =>
 kExt v34 1 fun v36 =>
 kAlloc (cR Try.prog R) w_7 49 fun v9 w_8 =>
 kStore (cR Try.prog R) w_8 49 v9 v35 fun w_9 =>
 kEq (cR Try.prog R) w_9 .eql 3 (.tmp 37) (.const (.int .i64 0)) v36 (.int .i64 0) fun v38 w_10 =>
 kIf v38 (
 R (.returned (.tuple #[(.slice none 0 0), (.int .i64 210)])) w_10) (
 kLoad (cR Try.prog R) w_10 49 v9 fun v40 w_11 =>
 kBuildS (cR Try.prog R) w_11 22 1 #[(0, v40)] fun v41 w_12 =>
 kBlt (cR Try.prog R) w_12 .append #[22, 22] 22 #[false, false] #[x7, v41] fun v42 w_13 =>
 kBin (cR Try.prog R) w_13 .add 3 x5 v36 fun v45 w_14 =>
 kBin (cR Try.prog R) w_14 .add 3 x8 (.int .i64 1) fun v29 w_15 =>
 kD [] [] (N [v42, v45, v29] w_15))) (
 kCall (cR Try.prog R) w_5 49 #[x7] fun v48 w_16 =>
 kExt v48 0 fun v49 =>
 kExt v48 1 fun v50 =>
 kEq (cR Try.prog R) w_16 .neq 3 (.tmp 51) (.const (.int .i64 0)) v50 (.int .i64 0) fun v52 w_17 =>
 kIf v52 (
 kIf (.bool true) (
 R (.returned (.tuple #[(.slice none 0 0), (.int .i64 210)])) w_17) (
 R (.returned (.tuple #[x7, (.int .i64 0)])) w_17)) (
 kBlt (cR Try.prog R) w_17 .len #[38] 3 #[false] #[(.slice b bn bc)] fun v56 w_18 =>
 kEq (cR Try.prog R) w_18 .neq 3 (.tmp 54) (.tmp 56) x5 v56 fun v57 w_19 =>
 kIf v57 (
 kIf (.bool true) (
 R (.returned (.tuple #[(.slice none 0 0), (.int .i64 210)])) w_19) (
 R (.returned (.tuple #[x7, (.int .i64 0)])) w_19)) (
 kConv (cR Try.prog R) w_19 38 9 v49 fun v61 w_20 =>
 kConv (cR Try.prog R) w_20 38 9 (.slice b bn bc) fun v63 w_21 =>
 kEq (cR Try.prog R) w_21 .neq 9 (.tmp 61) (.tmp 63) v61 v63 fun v64 w_22 =>
 kIf v64 (
 R (.returned (.tuple #[(.slice none 0 0), (.int .i64 210)])) w_22) (
 R (.returned (.tuple #[x7, (.int .i64 0)])) w_22))))) (cs_1.getD 0 undef) (cs_1.getD 1 undef) (cs_1.getD 2 undef))
theorem c20 (b : Option Addr) (bn : Nat) (bc : Nat) (R : Ending → World → Prop) (w : World) (h : vc20 b bn bc R w) : Calls Try.prog 20 #[(.slice b bn bc)] w R :=
  calls_of_vc (A := { loops := [(0, [7, 5, 8]), (1000004, [])], pars := [] }) (Eq.mpr (show FnVc Try.prog { loops := [(0, [7, 5, 8]), (1000004, [])], pars := [] } 67 20 [(.slice b bn bc)] R w = vc20 b bn bc R w by kernel_rfl) h)

/-- loupe/row.Columns -/
def vc21 (b : Option Addr) (bn : Nat) (bc : Nat) (R : Ending → World → Prop) (w : World) : Prop :=
 kCall (cR Try.prog R) w 19 #[(.slice b bn bc)] fun v7 w_1 =>
 kExt v7 0 fun v8 =>
 kExt v7 1 fun v9 =>
 kAlloc (cR Try.prog R) w_1 22 fun v3 w_2 =>
 kStore (cR Try.prog R) w_2 22 v3 v8 fun w_3 =>
 R (.returned (.func (.func 50) #[] #[v3])) w_3
theorem c21 (b : Option Addr) (bn : Nat) (bc : Nat) (R : Ending → World → Prop) (w : World) (h : vc21 b bn bc R w) : Calls Try.prog 21 #[(.slice b bn bc)] w R :=
  calls_of_vc (A := { loops := [], pars := [] }) (Eq.mpr (show FnVc Try.prog { loops := [], pars := [] } 11 21 [(.slice b bn bc)] R w = vc21 b bn bc R w by kernel_rfl) h)

/-- loupe/loupelaw02.works -/
def vc22  (R : Ending → World → Prop) (w : World) : Prop :=
 kAlloc (cR Try.prog R) w 49 fun v1 w_1 =>
 kCall (cR Try.prog R) w_1 27 #[(.int .i64 2)] fun v21 w_2 =>
 kCall (cR Try.prog R) w_2 27 #[(.int .i64 3)] fun v22 w_3 =>
 kBuildS (cR Try.prog R) w_3 22 2 #[(0, v21), (1, v22)] fun v23 w_4 =>
 kCall (cR Try.prog R) w_4 23 #[(.int .i64 1), v23] fun v24 w_5 =>
 kExt v24 0 fun v25 =>
 kExt v24 1 fun v26 =>
 kAlloc (cR Try.prog R) w_5 49 fun v2 w_6 =>
 kStore (cR Try.prog R) w_6 49 v2 v25 fun w_7 =>
 kCall (cR Try.prog R) w_7 27 #[(.int .i64 (-7))] fun v28 w_8 =>
 kCall (cR Try.prog R) w_8 27 #[(.int .i64 2)] fun v29 w_9 =>
 kBuildS (cR Try.prog R) w_9 22 2 #[(0, v28), (1, v29)] fun v30 w_10 =>
 kCall (cR Try.prog R) w_10 23 #[(.int .i64 4), v30] fun v31 w_11 =>
 kExt v31 0 fun v32 =>
 kExt v31 1 fun v33 =>
 kAlloc (cR Try.prog R) w_11 49 fun v4 w_12 =>
 kStore (cR Try.prog R) w_12 49 v4 v32 fun w_13 =>
 kCall (cR Try.prog R) w_13 27 #[(.int .i64 (-7))] fun v35 w_14 =>
 kCall (cR Try.prog R) w_14 27 #[(.int .i64 2)] fun v36 w_15 =>
 kBuildS (cR Try.prog R) w_15 22 2 #[(0, v35), (1, v36)] fun v37 w_16 =>
 kCall (cR Try.prog R) w_16 23 #[(.int .i64 5), v37] fun v38 w_17 =>
 kExt v38 0 fun v39 =>
 kExt v38 1 fun v40 =>
 kAlloc (cR Try.prog R) w_17 49 fun v6 w_18 =>
 kStore (cR Try.prog R) w_18 49 v6 v39 fun w_19 =>
 kCall (cR Try.prog R) w_19 27 #[(.int .i64 1)] fun v42 w_20 =>
 kCall (cR Try.prog R) w_20 27 #[(.int .i64 0)] fun v43 w_21 =>
 kBuildS (cR Try.prog R) w_21 22 2 #[(0, v42), (1, v43)] fun v44 w_22 =>
 kCall (cR Try.prog R) w_22 23 #[(.int .i64 4), v44] fun v45 w_23 =>
 kExt v45 0 fun v46 =>
 kExt v45 1 fun v47 =>
 kAlloc (cR Try.prog R) w_23 49 fun v8 w_24 =>
 kStore (cR Try.prog R) w_24 49 v8 v46 fun w_25 =>
 kCall (cR Try.prog R) w_25 27 #[(.int .i64 9223372036854775807)] fun v49 w_26 =>
 kCall (cR Try.prog R) w_26 27 #[(.int .i64 1)] fun v50 w_27 =>
 kBuildS (cR Try.prog R) w_27 22 2 #[(0, v49), (1, v50)] fun v51 w_28 =>
 kCall (cR Try.prog R) w_28 23 #[(.int .i64 1), v51] fun v52 w_29 =>
 kExt v52 0 fun v53 =>
 kExt v52 1 fun v54 =>
 kAlloc (cR Try.prog R) w_29 49 fun v10 w_30 =>
 kStore (cR Try.prog R) w_30 49 v10 v53 fun w_31 =>
 kDrawn true (
 kDrawn true (
 kJn (fun J =>
 kLoad (cQ Try.prog) w_31 49 v1 fun v56 w_32 =>
 kBoth (
 kDrew w_32 fun w_33 =>
 (fun (c : Cx) =>
 kCall c w_33 27 #[(.int .i64 1)] fun v57 w_34 =>
 kLoad (cQ Try.prog) w_34 49 v1 fun v56_1 w_35 =>
 kSame v56_1 v56 (
 kBoth (
 kDrew w_34 fun w_36 =>
 kBuildS c w_36 22 2 #[(0, v56), (1, v57)] fun v58 w_37 =>
 kBoth (
 kDrew w_37 fun w_38 =>
 kCall c w_38 23 #[(.int .i64 7), v58] fun v59 w_39 =>
 kExt v59 0 fun v60 =>
 kExt v59 1 fun v61 =>
 kDrew w_39 fun w_40 =>
 kAlloc c w_40 49 fun v12 w_41 =>
 kDrew w_41 fun w_42 =>
 kStore c w_42 49 v12 v60 fun w_43 =>
 kDrew w_43 fun w_44 => J [v56, v57, v58, v59, v59, v60, v61, v12, undef] w_44) (
 kDrew w_37 fun w_45 =>
 kAlloc c w_45 49 fun v12_1 w_46 =>
 kDrew w_46 fun w_47 =>
 kCall c w_47 23 #[(.int .i64 7), v58] fun v59_1 w_48 =>
 kExt v59_1 0 fun v60_1 =>
 kExt v59_1 1 fun v61_1 =>
 kDrew w_48 fun w_49 =>
 kStore c w_49 49 v12_1 v60_1 fun w_50 =>
 kDrew w_50 fun w_51 => J [v56, v57, v58, v59_1, v59_1, v60_1, v61_1, v12_1, undef] w_51)) (
 kDrew w_34 fun w_52 =>
 kAlloc c w_52 49 fun v12_2 w_53 =>
 kLoad (cQ Try.prog) w_53 49 v1 fun v56_2 w_54 =>
 kSame v56_2 v56 (
 kDrew w_53 fun w_55 =>
 kBuildS c w_55 22 2 #[(0, v56), (1, v57)] fun v58_1 w_56 =>
 kDrew w_56 fun w_57 =>
 kCall c w_57 23 #[(.int .i64 7), v58_1] fun v59_2 w_58 =>
 kExt v59_2 0 fun v60_2 =>
 kExt v59_2 1 fun v61_2 =>
 kDrew w_58 fun w_59 =>
 kStore c w_59 49 v12_2 v60_2 fun w_60 =>
 kDrew w_60 fun w_61 => J [v56, v57, v58_1, v59_2, v59_2, v60_2, v61_2, v12_2, undef] w_61)))) ⟨Try.prog, fun ch w => ∀ _ : List Value, R (.panicked ch) w, false⟩) (
 kDrew w_32 fun w_62 =>
 (fun (c_1 : Cx) =>
 kAlloc c_1 w_62 49 fun v12_3 w_63 =>
 kLoad (cQ Try.prog) w_63 49 v1 fun v56_3 w_64 =>
 kSame v56_3 v56 (
 kDrew w_63 fun w_65 =>
 kCall c_1 w_65 27 #[(.int .i64 1)] fun v57_1 w_66 =>
 kLoad (cQ Try.prog) w_66 49 v1 fun v56_4 w_67 =>
 kSame v56_4 v56 (
 kDrew w_66 fun w_68 =>
 kBuildS c_1 w_68 22 2 #[(0, v56), (1, v57_1)] fun v58_2 w_69 =>
 kDrew w_69 fun w_70 =>
 kCall c_1 w_70 23 #[(.int .i64 7), v58_2] fun v59_3 w_71 =>
 kExt v59_3 0 fun v60_3 =>
 kExt v59_3 1 fun v61_3 =>
 kDrew w_71 fun w_72 =>
 kStore c_1 w_72 49 v12_3 v60_3 fun w_73 =>
 kDrew w_73 fun w_74 => J [v56, v57_1, v58_2, v59_3, v59_3, v60_3, v61_3, v12_3, undef] w_74))) ⟨Try.prog, fun ch w => ∀ _ : List Value, R (.panicked ch) w, false⟩)) (fun cs w_75 =>
 (fun g6 g7 =>
 kDrawn true (
 kDrawn true (
 kJn (fun J_1 =>
 kLoad (cQ Try.prog) w_75 49 v1 fun v63 w_76 =>
 kBoth (
 kDrew w_76 fun w_77 =>
 (fun (c_2 : Cx) =>
 kCall c_2 w_77 51 #[(.int .i64 1)] fun v64 w_78 =>
 kLoad (cQ Try.prog) w_78 49 v1 fun v63_1 w_79 =>
 kSame v63_1 v63 (
 kBoth (
 kDrew w_78 fun w_80 =>
 kBuildS c_2 w_80 22 2 #[(0, v63), (1, v64)] fun v65 w_81 =>
 kBoth (
 kDrew w_81 fun w_82 =>
 kCall c_2 w_82 23 #[(.int .i64 14), v65] fun v66 w_83 =>
 kExt v66 0 fun v67 =>
 kExt v66 1 fun v68 =>
 kDrew w_83 fun w_84 =>
 kAlloc c_2 w_84 49 fun v14 w_85 =>
 kDrew w_85 fun w_86 =>
 kStore c_2 w_86 49 v14 v67 fun w_87 =>
 kDrew w_87 fun w_88 => J_1 [v63, v64, v65, v66, v66, v67, v68, v14, undef] w_88) (
 kDrew w_81 fun w_89 =>
 kAlloc c_2 w_89 49 fun v14_1 w_90 =>
 kDrew w_90 fun w_91 =>
 kCall c_2 w_91 23 #[(.int .i64 14), v65] fun v66_1 w_92 =>
 kExt v66_1 0 fun v67_1 =>
 kExt v66_1 1 fun v68_1 =>
 kDrew w_92 fun w_93 =>
 kStore c_2 w_93 49 v14_1 v67_1 fun w_94 =>
 kDrew w_94 fun w_95 => J_1 [v63, v64, v65, v66_1, v66_1, v67_1, v68_1, v14_1, undef] w_95)) (
 kDrew w_78 fun w_96 =>
 kAlloc c_2 w_96 49 fun v14_2 w_97 =>
 kLoad (cQ Try.prog) w_97 49 v1 fun v63_2 w_98 =>
 kSame v63_2 v63 (
 kDrew w_97 fun w_99 =>
 kBuildS c_2 w_99 22 2 #[(0, v63), (1, v64)] fun v65_1 w_100 =>
 kDrew w_100 fun w_101 =>
 kCall c_2 w_101 23 #[(.int .i64 14), v65_1] fun v66_2 w_102 =>
 kExt v66_2 0 fun v67_2 =>
 kExt v66_2 1 fun v68_2 =>
 kDrew w_102 fun w_103 =>
 kStore c_2 w_103 49 v14_2 v67_2 fun w_104 =>
 kDrew w_104 fun w_105 => J_1 [v63, v64, v65_1, v66_2, v66_2, v67_2, v68_2, v14_2, undef] w_105)))) ⟨Try.prog, fun ch w => ∀ _ : List Value, R (.panicked ch) w, false⟩) (
 kDrew w_76 fun w_106 =>
 (fun (c_3 : Cx) =>
 kAlloc c_3 w_106 49 fun v14_3 w_107 =>
 kLoad (cQ Try.prog) w_107 49 v1 fun v63_3 w_108 =>
 kSame v63_3 v63 (
 kDrew w_107 fun w_109 =>
 kCall c_3 w_109 51 #[(.int .i64 1)] fun v64_1 w_110 =>
 kLoad (cQ Try.prog) w_110 49 v1 fun v63_4 w_111 =>
 kSame v63_4 v63 (
 kDrew w_110 fun w_112 =>
 kBuildS c_3 w_112 22 2 #[(0, v63), (1, v64_1)] fun v65_2 w_113 =>
 kDrew w_113 fun w_114 =>
 kCall c_3 w_114 23 #[(.int .i64 14), v65_2] fun v66_3 w_115 =>
 kExt v66_3 0 fun v67_3 =>
 kExt v66_3 1 fun v68_3 =>
 kDrew w_115 fun w_116 =>
 kStore c_3 w_116 49 v14_3 v67_3 fun w_117 =>
 kDrew w_117 fun w_118 => J_1 [v63, v64_1, v65_2, v66_3, v66_3, v67_3, v68_3, v14_3, undef] w_118))) ⟨Try.prog, fun ch w => ∀ _ : List Value, R (.panicked ch) w, false⟩)) (fun cs_1 w_119 =>
 (fun g6_1 g7_1 =>
 kCall (cR Try.prog R) w_119 27 #[(.int .i64 1)] fun v70 w_120 =>
 kBuild (cR Try.prog R) w_120 49 #[(0, (.int .i64 3)), (2, (.string ⟨#[97]⟩))] fun v71 w_121 =>
 kBuildS (cR Try.prog R) w_121 22 2 #[(0, v70), (1, v71)] fun v72 w_122 =>
 kCall (cR Try.prog R) w_122 23 #[(.int .i64 9), v72] fun v73 w_123 =>
 kExt v73 0 fun v74 =>
 kExt v73 1 fun v75 =>
 kAlloc (cR Try.prog R) w_123 49 fun v16 w_124 =>
 kStore (cR Try.prog R) w_124 49 v16 v74 fun w_125 =>
 kBuildS (cR Try.prog R) w_125 24 2 #[(0, (.int .i64 3)), (1, (.int .i64 0))] fun v77 w_126 =>
 kCall (cR Try.prog R) w_126 26 #[(.int .i64 6), v77] fun v78 w_127 =>
 kExt v78 0 fun v79 =>
 kExt v78 1 fun v80 =>
 kDrawn true (
 kDrawn true (
 kDrew w_127 fun w_128 =>
 (fun (c_4 : Cx) =>
 kCall c_4 w_128 25 #[v26] fun v82 w_129 =>
 kDrew w_129 fun w_130 =>
 kCall c_4 w_130 25 #[v33] fun v84 w_131 =>
 kBin (cQ Try.prog) w_131 .add 3 v82 v84 fun v85 w_132 =>
 kDrew w_132 fun w_133 =>
 kCall c_4 w_133 25 #[v40] fun v87 w_134 =>
 kBin (cQ Try.prog) w_134 .add 3 v82 v84 fun v85_1 w_135 =>
 kSame v85_1 v85 (
 kBin (cQ Try.prog) w_134 .add 3 v85 v87 fun v88 w_136 =>
 kDrew w_136 fun w_137 =>
 kCall c_4 w_137 25 #[g6] fun v90 w_138 =>
 kBin (cQ Try.prog) w_138 .add 3 v82 v84 fun v85_2 w_139 =>
 kSame v85_2 v85 (
 kBin (cQ Try.prog) w_138 .add 3 v85 v87 fun v88_1 w_140 =>
 kSame v88_1 v88 (
 kBin (cQ Try.prog) w_138 .add 3 v88 v90 fun v91 w_141 =>
 kDrew w_141 fun w_142 =>
 kCall c_4 w_142 25 #[g6_1] fun v93 w_143 =>
 kBin (cQ Try.prog) w_143 .add 3 v82 v84 fun v85_3 w_144 =>
 kSame v85_3 v85 (
 kBin (cQ Try.prog) w_143 .add 3 v85 v87 fun v88_2 w_145 =>
 kSame v88_2 v88 (
 kBin (cQ Try.prog) w_143 .add 3 v88 v90 fun v91_1 w_146 =>
 kSame v91_1 v91 (
 kBin (cQ Try.prog) w_143 .add 3 v91 v93 fun v94 w_147 =>
 kDrew w_147 fun w_148 =>
 kCall c_4 w_148 25 #[v80] fun v96 w_149 =>
 kBin (cQ Try.prog) w_149 .add 3 v82 v84 fun v85_4 w_150 =>
 kSame v85_4 v85 (
 kBin (cQ Try.prog) w_149 .add 3 v85 v87 fun v88_3 w_151 =>
 kSame v88_3 v88 (
 kBin (cQ Try.prog) w_149 .add 3 v88 v90 fun v91_2 w_152 =>
 kSame v91_2 v91 (
 kBin (cQ Try.prog) w_149 .add 3 v91 v93 fun v94_1 w_153 =>
 kSame v94_1 v94 (
 kBin (cQ Try.prog) w_149 .add 3 v94 v96 fun v97 w_154 =>
 kEq (cQ Try.prog) w_154 .eql 3 (.tmp 97) (.const (.int .i64 0)) v97 (.int .i64 0) fun v98 w_155 =>
 kIf v98 (
 kLoad (cQ Try.prog) w_155 49 v2 fun v100 w_156 =>
 kDrew w_156 fun w_157 =>
 kCall c_4 w_157 27 #[(.int .i64 5)] fun v101 w_158 =>
 kLoad (cQ Try.prog) w_158 49 v2 fun v100_1 w_159 =>
 kSame v100_1 v100 (
 kEq (cQ Try.prog) w_158 .eql 49 (.tmp 100) (.tmp 101) v100 v101 fun v102 w_160 =>
 kIf v102 (
 kLoad (cQ Try.prog) w_160 49 v4 fun v105 w_161 =>
 kDrew w_161 fun w_162 =>
 kCall c_4 w_162 27 #[(.int .i64 (-3))] fun v106 w_163 =>
 kLoad (cQ Try.prog) w_163 49 v4 fun v105_1 w_164 =>
 kSame v105_1 v105 (
 kEq (cQ Try.prog) w_163 .eql 49 (.tmp 105) (.tmp 106) v105 v106 fun v107 w_165 =>
 kIf v107 (
 kLoad (cQ Try.prog) w_165 49 v6 fun v110 w_166 =>
 kDrew w_166 fun w_167 =>
 kCall c_4 w_167 27 #[(.int .i64 (-1))] fun v111 w_168 =>
 kLoad (cQ Try.prog) w_168 49 v6 fun v110_1 w_169 =>
 kSame v110_1 v110 (
 kEq (cQ Try.prog) w_168 .eql 49 (.tmp 110) (.tmp 111) v110 v111 fun v112 w_170 =>
 kIf v112 (
 kDrew w_170 fun w_171 =>
 kCall c_4 w_171 25 #[v47] fun v116 w_172 =>
 kEq (cQ Try.prog) w_172 .eql 3 (.tmp 116) (.const (.int .i64 121)) v116 (.int .i64 121) fun v117 w_173 =>
 kIf v117 (
 kDrew w_173 fun w_174 =>
 kCall c_4 w_174 25 #[v54] fun v121 w_175 =>
 kEq (cQ Try.prog) w_175 .eql 3 (.tmp 121) (.const (.int .i64 122)) v121 (.int .i64 122) fun v122 w_176 =>
 kIf v122 (
 kLoad (cQ Try.prog) w_176 49 g7 fun v125 w_177 =>
 kLoad (cQ Try.prog) w_177 49 v1 fun v126 w_178 =>
 kEq (cQ Try.prog) w_178 .eql 49 (.tmp 125) (.tmp 126) v125 v126 fun v127 w_179 =>
 kIf v127 (
 kLoad (cQ Try.prog) w_179 49 g7_1 fun v130 w_180 =>
 kDrew w_180 fun w_181 =>
 kCall c_4 w_181 51 #[(.int .i64 1)] fun v131 w_182 =>
 kLoad (cQ Try.prog) w_182 49 g7_1 fun v130_1 w_183 =>
 kSame v130_1 v130 (
 kEq (cQ Try.prog) w_182 .eql 49 (.tmp 130) (.tmp 131) v130 v131 fun v132 w_184 =>
 kIf v132 (
 kDrew w_184 fun w_185 =>
 kCall c_4 w_185 25 #[v75] fun v136 w_186 =>
 kEq (cQ Try.prog) w_186 .eql 3 (.tmp 136) (.const (.int .i64 120)) v136 (.int .i64 120) fun v137 w_187 =>
 kIf v137 (
 kEq (cQ Try.prog) w_187 .eql 27 (.tmp 140) (.const (.int .i64 3)) v79 (.int .i64 3) fun v141 w_188 =>
 kDrew w_188 fun w_189 =>
 R (.returned v141) w_189) (
 kDrew w_187 fun w_190 =>
 R (.returned (.bool false)) w_190)) (
 kDrew w_184 fun w_191 =>
 R (.returned (.bool false)) w_191))) (
 kDrew w_179 fun w_192 =>
 R (.returned (.bool false)) w_192)) (
 kDrew w_176 fun w_193 =>
 R (.returned (.bool false)) w_193)) (
 kDrew w_173 fun w_194 =>
 R (.returned (.bool false)) w_194)) (
 kDrew w_170 fun w_195 =>
 R (.returned (.bool false)) w_195))) (
 kDrew w_165 fun w_196 =>
 R (.returned (.bool false)) w_196))) (
 kDrew w_160 fun w_197 =>
 R (.returned (.bool false)) w_197))) (
 kDrew w_155 fun w_198 =>
 R (.returned (.bool false)) w_198)))))))))))) ⟨Try.prog, fun ch w => ∀ _ : List Value, R (.panicked ch) w, false⟩))) (cs_1.getD 6 undef) (cs_1.getD 7 undef))))) (cs.getD 6 undef) (cs.getD 7 undef))))
theorem c22  (R : Ending → World → Prop) (w : World) (h : vc22  R w) : Calls Try.prog 22 #[] w R :=
  calls_of_vc (A := { loops := [], pars := [], chs := [(7, (.q 0 (.or 1 (.or 2 (.or 3 (.q 4 (.q 5 (.q 6 (.e 7 (.e 8 .done))))) (.e 7 (.e 3 (.q 4 (.q 5 (.q 6 (.e 8 .done))))))) (.e 7 (.e 2 (.e 3 (.q 4 (.q 5 (.q 6 (.e 8 .done)))))))) (.e 7 (.e 1 (.e 2 (.e 3 (.q 4 (.q 5 (.q 6 (.e 8 .done))))))))))), (8, (.q 0 (.or 1 (.or 2 (.or 3 (.q 4 (.q 5 (.q 6 (.e 7 (.e 8 .done))))) (.e 7 (.e 3 (.q 4 (.q 5 (.q 6 (.e 8 .done))))))) (.e 7 (.e 2 (.e 3 (.q 4 (.q 5 (.q 6 (.e 8 .done)))))))) (.e 7 (.e 1 (.e 2 (.e 3 (.q 4 (.q 5 (.q 6 (.e 8 .done))))))))))), (11, (.q 0 (.q 2 (.q 5 (.q 8 (.q 11 (.q 14 (.e 1 (.e 3 (.q 4 (.e 6 (.q 7 (.e 9 (.q 10 (.e 12 (.q 13 (.e 15 (.q 16 (.q 17 (.q 18 (.q 19 (.e 20 (.q 21 (.q 22 (.q 23 (.q 24 (.e 25 (.q 26 (.q 27 (.q 28 (.q 29 (.e 30 (.q 31 (.q 32 (.q 33 (.q 34 (.e 35 (.q 36 (.q 37 (.q 38 (.q 39 (.e 40 (.q 41 (.q 42 (.q 43 (.q 44 (.q 45 (.q 46 (.q 47 (.q 48 (.q 49 (.e 50 (.q 51 (.q 52 (.q 53 (.q 54 (.e 55 (.q 56 (.q 57 (.q 58 (.q 59 (.q 60 (.q 61 .done)))))))))))))))))))))))))))))))))))))))))))))))))))))))))))))))] }) (Eq.mpr (show FnVc Try.prog { loops := [], pars := [], chs := [(7, (.q 0 (.or 1 (.or 2 (.or 3 (.q 4 (.q 5 (.q 6 (.e 7 (.e 8 .done))))) (.e 7 (.e 3 (.q 4 (.q 5 (.q 6 (.e 8 .done))))))) (.e 7 (.e 2 (.e 3 (.q 4 (.q 5 (.q 6 (.e 8 .done)))))))) (.e 7 (.e 1 (.e 2 (.e 3 (.q 4 (.q 5 (.q 6 (.e 8 .done))))))))))), (8, (.q 0 (.or 1 (.or 2 (.or 3 (.q 4 (.q 5 (.q 6 (.e 7 (.e 8 .done))))) (.e 7 (.e 3 (.q 4 (.q 5 (.q 6 (.e 8 .done))))))) (.e 7 (.e 2 (.e 3 (.q 4 (.q 5 (.q 6 (.e 8 .done)))))))) (.e 7 (.e 1 (.e 2 (.e 3 (.q 4 (.q 5 (.q 6 (.e 8 .done))))))))))), (11, (.q 0 (.q 2 (.q 5 (.q 8 (.q 11 (.q 14 (.e 1 (.e 3 (.q 4 (.e 6 (.q 7 (.e 9 (.q 10 (.e 12 (.q 13 (.e 15 (.q 16 (.q 17 (.q 18 (.q 19 (.e 20 (.q 21 (.q 22 (.q 23 (.q 24 (.e 25 (.q 26 (.q 27 (.q 28 (.q 29 (.e 30 (.q 31 (.q 32 (.q 33 (.q 34 (.e 35 (.q 36 (.q 37 (.q 38 (.q 39 (.e 40 (.q 41 (.q 42 (.q 43 (.q 44 (.q 45 (.q 46 (.q 47 (.q 48 (.q 49 (.e 50 (.q 51 (.q 52 (.q 53 (.q 54 (.e 55 (.q 56 (.q 57 (.q 58 (.q 59 (.q 60 (.q 61 .done)))))))))))))))))))))))))))))))))))))))))))))))))))))))))))))))] } 143 22 [] R w = vc22  R w by kernel_rfl) h)

/-- loupe/sum.Do -/
def vc23 (o : Int) (l : Option Addr) (ln : Nat) (lc : Nat) (R : Ending → World → Prop) (w : World) : Prop :=
 kAlloc (cR Try.prog R) w 49 fun v4 w_1 =>
 kAlloc (cR Try.prog R) w_1 28 fun v5 w_2 =>
 (fun (c : Cx) =>
 kCall c w_2 55 #[(.slice l ln lc), (.func (.func 56) #[] #[])] fun v13 w_3 =>
 kCall c w_3 54 #[v13, (.int .i64 2)] fun v14 w_4 =>
 kBlt c w_4 .len #[22] 3 #[false] #[(.slice l ln lc)] fun v16 w_5 =>
 kLoopF [(.slice none 0 0), (.bool true), (.int .i64 0)] w_5 fun cs ds w_6 N =>
 (fun x6 x7 x17 =>
 kBin c w_6 .lss 3 x17 v16 fun v18 w_7 =>
 kIf v18 (
 kIa c w_7 22 (.slice l ln lc) x17 fun v19 w_8 =>
 kLoad c w_8 49 v19 fun v20 w_9 =>
 kAlloc c w_9 49 fun v9 w_10 =>
 kStore c w_10 49 v9 v20 fun w_11 =>
 kFa c w_11 49 v9 0 fun v22 w_12 =>
 kLoad c w_12 47 v22 fun v23 w_13 =>
 kBuildS c w_13 24 1 #[(0, v23)] fun v24 w_14 =>
 kBlt c w_14 .append #[24, 24] 24 #[false, false] #[x6, v24] fun v25 w_15 =>
 kIf x7 (
 kFa c w_15 49 v9 0 fun v28 w_16 =>
 kLoad c w_16 47 v28 fun v29 w_17 =>
 kEq c w_17 .neq 47 (.tmp 29) (.const (.int .i64 0)) v29 (.int .i64 0) fun v30 w_18 =>
 kBin c w_18 .add 3 x17 (.int .i64 1) fun v32 w_19 =>
 kD [{ target := .fn (.func 52) #[], args := #[v5, (.func (.func 53) #[] #[v4])] }] [{ target := .fn (.func 52) #[], args := #[v5, (.func (.func 53) #[] #[v4])] }] (N [v25, v30, v32] w_19)) (
 kBin c w_15 .add 3 x17 (.int .i64 1) fun v32_1 w_20 =>
 kD [{ target := .fn (.func 52) #[], args := #[v5, (.func (.func 53) #[] #[v4])] }] [{ target := .fn (.func 52) #[], args := #[v5, (.func (.func 53) #[] #[v4])] }] (N [v25, (.bool false), v32_1] w_20))) (
 kCall c w_7 58 #[(.int .i64 o), x6] fun v35 w_21 =>
 kDrawn true (
 kDrawn true (
 kIa (cQ Try.prog) w_21 22 (.slice l ln lc) (.int .i64 0) fun v37 w_22 =>
 kLoad (cQ Try.prog) w_22 49 v37 fun v38 w_23 =>
 kBlt (cQ Try.prog) w_23 .len #[22] 3 #[false] #[(.slice l ln lc)] fun v41 w_24 =>
 kBin (cQ Try.prog) w_24 .sub 3 v41 (.int .i64 1) fun v42 w_25 =>
 kIa (cQ Try.prog) w_25 22 (.slice l ln lc) v42 fun v43 w_26 =>
 kLoad (cQ Try.prog) w_26 49 v43 fun v44 w_27 =>
 kBuild (cQ Try.prog) w_27 101 #[(0, v38), (1, v44)] fun v45 w_28 =>
 kBuild (cQ Try.prog) w_28 103 #[(0, v45), (1, (.int .i64 o))] fun v47 w_29 =>
 kDrew w_29 fun w_30 =>
 (fun (c_1 : Cx) =>
 kAlloc c_1 w_30 103 fun v10 w_31 =>
 kIa (cQ Try.prog) w_31 22 (.slice l ln lc) (.int .i64 0) fun v37_1 w_32 =>
 kSame v37_1 v37 (
 kLoad (cQ Try.prog) w_31 49 v37 fun v38_1 w_33 =>
 kSame v38_1 v38 (
 kBlt (cQ Try.prog) w_31 .len #[22] 3 #[false] #[(.slice l ln lc)] fun v41_1 w_34 =>
 kSame v41_1 v41 (
 kBin (cQ Try.prog) w_31 .sub 3 v41 (.int .i64 1) fun v42_1 w_35 =>
 kSame v42_1 v42 (
 kIa (cQ Try.prog) w_31 22 (.slice l ln lc) v42 fun v43_1 w_36 =>
 kSame v43_1 v43 (
 kLoad (cQ Try.prog) w_31 49 v43 fun v44_1 w_37 =>
 kSame v44_1 v44 (
 kBuild (cQ Try.prog) w_31 101 #[(0, v38), (1, v44)] fun v45_1 w_38 =>
 kSame v45_1 v45 (
 kBuild (cQ Try.prog) w_31 103 #[(0, v45), (1, (.int .i64 o))] fun v47_1 w_39 =>
 kSame v47_1 v47 (
 kDrew w_31 fun w_40 =>
 kStore c w_40 103 v10 v47 fun w_41 =>
 kJn (fun J =>
 kJn (fun J_1 =>
 kEq c w_41 .eql 53 (.tmp 49) (.const (.int .i64 17)) (.int .i64 o) (.int .i64 17) fun v50 w_85 =>
 kIf v50 (
 kD [{ target := .fn (.func 52) #[], args := #[v5, (.func (.func 53) #[] #[v4])] }] [{ target := .fn (.func 52) #[], args := #[v5, (.func (.func 53) #[] #[v4])] }] (J_1 [(.bool true)] w_85)) (
 kEq c w_85 .eql 53 (.tmp 52) (.const (.int .i64 18)) (.int .i64 o) (.int .i64 18) fun v53 w_86 =>
 kD [{ target := .fn (.func 52) #[], args := #[v5, (.func (.func 53) #[] #[v4])] }] [{ target := .fn (.func 52) #[], args := #[v5, (.func (.func 53) #[] #[v4])] }] (J_1 [v53] w_86))) (fun cs_2 w_55 => ∀ ds_2 : List Value,
 (fun j48 =>
 kIf j48 (
 (fun (c_4 : Cx) =>
 kFa c_4 w_55 103 v10 0 fun v55 w_56 =>
 kFa c_4 w_56 101 v55 0 fun v56 w_57 =>
 kFa c_4 w_57 49 v56 0 fun v57 w_58 =>
 kLoad c_4 w_58 47 v57 fun v58 w_59 =>
 kEq c_4 w_59 .eql 47 (.tmp 58) (.const (.int .i64 0)) v58 (.int .i64 0) fun v59 w_60 =>
 kEq c_4 w_60 .eql 53 (.tmp 60) (.const (.int .i64 17)) (.int .i64 o) (.int .i64 17) fun v61 w_61 =>
 kEq c_4 w_61 .eql 4 (.tmp 59) (.tmp 61) v59 v61 fun v62 w_62 =>
 kCall c_4 w_62 59 #[v62] fun v63 w_63 =>
 kStore c_4 w_63 49 v4 v63 fun w_64 =>
 kStore c_4 w_64 28 v5 (.int .i64 0) fun w_65 =>
 Lv Try.prog [.cell v4 49, .cell v5 28] R [{ target := .fn (.func 52) #[], args := #[v5, (.func (.func 53) #[] #[v4])] }] .returning w_65) ⟨Try.prog, fun ch w => Lv Try.prog [.cell v4 49, .cell v5 28] R [{ target := .fn (.func 52) #[], args := #[v5, (.func (.func 53) #[] #[v4])] }] (.panicking ch) w, false⟩) (
 (fun (c_5 : Cx) =>
 kCall c_5 w_55 60 #[(.int .i64 o), (.int .i64 13), (.int .i64 14)] fun v66 w_66 =>
 kIf v66 (
 kLoad c_5 w_66 103 v10 fun v67 w_67 =>
 kCall c_5 w_67 61 #[v67] fun v68 w_68 =>
 kStore c_5 w_68 49 v4 v68 fun w_69 =>
 kStore c_5 w_69 28 v5 (.int .i64 0) fun w_70 =>
 Lv Try.prog [.cell v4 49, .cell v5 28] R [{ target := .fn (.func 52) #[], args := #[v5, (.func (.func 53) #[] #[v4])] }] .returning w_70) (
 kUn c_5 w_66 .not x7 fun v71 w_71 =>
 kIf v71 (
 kBuild c_5 w_71 49 #[] fun v72 w_72 =>
 kStore c_5 w_72 49 v4 v72 fun w_73 =>
 kStore c_5 w_73 28 v5 (.int .i64 0) fun w_74 =>
 Lv Try.prog [.cell v4 49, .cell v5 28] R [{ target := .fn (.func 52) #[], args := #[v5, (.func (.func 53) #[] #[v4])] }] .returning w_74) (
 kEq c_5 w_71 .eql 53 (.tmp 74) (.const (.int .i64 16)) (.int .i64 o) (.int .i64 16) fun v75 w_75 =>
 kIf v75 (
 kLoad c_5 w_75 103 v10 fun v76 w_76 =>
 kCall c_5 w_76 61 #[v76] fun v77 w_77 =>
 kStore c_5 w_77 49 v4 v77 fun w_78 =>
 kStore c_5 w_78 28 v5 (.int .i64 0) fun w_79 =>
 Lv Try.prog [.cell v4 49, .cell v5 28] R [{ target := .fn (.func 52) #[], args := #[v5, (.func (.func 53) #[] #[v4])] }] .returning w_79) (
 kCall c_5 w_75 60 #[(.int .i64 o), (.int .i64 7), (.int .i64 12)] fun v80 w_80 =>
 kIf v80 (
 kLoad c_5 w_80 103 v10 fun v81 w_81 =>
 kCall c_5 w_81 62 #[v81] fun v82 w_82 =>
 kStore c_5 w_82 49 v4 v82 fun w_83 =>
 kStore c_5 w_83 28 v5 (.int .i64 0) fun w_84 =>
 Lv Try.prog [.cell v4 49, .cell v5 28] R [{ target := .fn (.func 52) #[], args := #[v5, (.func (.func 53) #[] #[v4])] }] .returning w_84) (
 kD [{ target := .fn (.func 52) #[], args := #[v5, (.func (.func 53) #[] #[v4])] }] [{ target := .fn (.func 52) #[], args := #[v5, (.func (.func 53) #[] #[v4])] }] (J [] w_80)))))) ⟨Try.prog, fun ch w => Lv Try.prog [.cell v4 49, .cell v5 28] R [{ target := .fn (.func 52) #[], args := #[v5, (.func (.func 53) #[] #[v4])] }] (.panicking ch) w, false⟩)) (cs_2.getD 0 undef))) (fun cs_1 w_42 => ∀ ds_1 : List Value,
 kDrawn true (
 kDrawn true (
 kFa (cQ Try.prog) w_42 103 v10 0 fun v86 w_43 =>
 kLoad (cQ Try.prog) w_43 101 v86 fun v87 w_44 =>
 kDrew w_44 fun w_45 =>
 (fun (c_2 : Cx) =>
 kCall c_2 w_45 63 #[] fun v83 w_46 =>
 kFa (cQ Try.prog) w_46 103 v10 0 fun v86_1 w_47 =>
 kSame v86_1 v86 (
 kLoad (cQ Try.prog) w_46 101 v86 fun v87_1 w_48 =>
 kSame v87_1 v87 (
 kLook (cQ Try.prog) w_46 107 v83 (.int .i64 o) false fun v85 w_49 =>
 kDrew w_49 fun w_50 =>
 kCallV c_2 w_50 v85 #[v87] fun v88 w_51 =>
 kDrew w_51 fun w_52 =>
 (fun (c_3 : Cx) =>
 kStore c_3 w_52 49 v4 v88 fun w_53 =>
 kStore c_3 w_53 28 v5 (.int .i64 0) fun w_54 =>
 Lv Try.prog [.cell v4 49, .cell v5 28] R [{ target := .fn (.func 52) #[], args := #[v5, (.func (.func 53) #[] #[v4])] }] .returning w_54) ⟨Try.prog, fun ch w => Lv Try.prog [.cell v4 49, .cell v5 28] R [{ target := .fn (.func 52) #[], args := #[v5, (.func (.func 53) #[] #[v4])] }] (.panicking ch) w, false⟩))) ⟨Try.prog, fun ch w => ∀ _ : List Value, Lv Try.prog [.cell v4 49, .cell v5 28] R [{ target := .fn (.func 52) #[], args := #[v5, (.func (.func 53) #[] #[v4])] }] (.panicking ch) w, false⟩)))))))))))) ⟨Try.prog, fun ch w => ∀ _ : List Value, Lv Try.prog [.cell v4 49, .cell v5 28] R [{ target := .fn (.func 52) #[], args := #[v5, (.func (.func 53) #[] #[v4])] }] (.panicking ch) w, false⟩)))) (cs.getD 0 undef) (cs.getD 1 undef) (cs.getD 2 undef)) ⟨Try.prog, fun ch w => Lv Try.prog [.cell v4 49, .cell v5 28] R [{ target := .fn (.func 52) #[], args := #[v5, (.func (.func 53) #[] #[v4])] }] (.panicking ch) w, false⟩
theorem c23 (o : Int) (l : Option Addr) (ln : Nat) (lc : Nat) (R : Ending → World → Prop) (w : World) (h : vc23 o l ln lc R w) : Calls Try.prog 23 #[(.int .i64 o), (.slice l ln lc)] w R :=
  calls_of_vc (A := { loops := [(1000023, []), (1000014, [48]), (0, [6, 7, 17])], pars := [], chs := [(12, (.q 0 (.q 1 (.q 2 (.q 3 (.q 4 (.q 5 (.q 6 (.q 7 (.q 8 (.q 9 (.q 10 (.q 11 (.e 12 .done)))))))))))))), (23, (.q 1 (.q 3 (.q 4 (.e 0 (.q 2 (.e 5 .done)))))))] }) (Eq.mpr (show FnVc Try.prog { loops := [(1000023, []), (1000014, [48]), (0, [6, 7, 17])], pars := [], chs := [(12, (.q 0 (.q 1 (.q 2 (.q 3 (.q 4 (.q 5 (.q 6 (.q 7 (.q 8 (.q 9 (.q 10 (.q 11 (.e 12 .done)))))))))))))), (23, (.q 1 (.q 3 (.q 4 (.e 0 (.q 2 (.e 5 .done)))))))] } 89 23 [(.int .i64 o), (.slice l ln lc)] R w = vc23 o l ln lc R w by kernel_rfl) h)

/-- loupe/louperef02.Do -/
def vc24 (o : Int) (l : Option Addr) (ln : Nat) (lc : Nat) (R : Ending → World → Prop) (w : World) : Prop :=
 kAlloc (cR Try.prog R) w 49 fun v4 w_1 =>
 kLoopF [(.slice none 0 0), (.bool false), (.int .i64 0)] w_1 fun cs ds w_2 N =>
 (fun x6 x7 x8 =>
 kBlt (cR Try.prog R) w_2 .len #[22] 3 #[false] #[(.slice l ln lc)] fun v17 w_3 =>
 kBin (cR Try.prog R) w_3 .lss 3 x8 v17 fun v18 w_4 =>
 kIf v18 (
 kIa (cR Try.prog R) w_4 22 (.slice l ln lc) x8 fun v23 w_5 =>
 kLoad (cR Try.prog R) w_5 49 v23 fun v24 w_6 =>
 kCall (cR Try.prog R) w_6 64 #[v24] fun v25 w_7 =>
 kEq (cR Try.prog R) w_7 .neq 3 (.tmp 25) (.const (.int .i64 0)) v25 (.int .i64 0) fun v26 w_8 =>
 kIf v26 (
 kBuild (cR Try.prog R) w_8 49 #[] fun v27 w_9 =>
 kStore (cR Try.prog R) w_9 49 v4 v27 fun w_10 =>
 RetK Try.prog [.cell v4 49, .val (.int .i64 2)] R w_10) (
 kIa (cR Try.prog R) w_8 22 (.slice l ln lc) x8 fun v31 w_11 =>
 kFa (cR Try.prog R) w_11 49 v31 0 fun v32 w_12 =>
 kLoad (cR Try.prog R) w_12 47 v32 fun v33 w_13 =>
 kBuildS (cR Try.prog R) w_13 23 1 #[(0, v33)] fun v34 w_14 =>
 kBlt (cR Try.prog R) w_14 .append #[23, 23] 23 #[false, false] #[x6, v34] fun v35 w_15 =>
 kIf x7 (
 kBin (cR Try.prog R) w_15 .add 3 x8 (.int .i64 1) fun v20 w_16 =>
 kD [] [] (N [v35, (.bool true), v20] w_16)) (
 kIa (cR Try.prog R) w_15 22 (.slice l ln lc) x8 fun v40 w_17 =>
 kFa (cR Try.prog R) w_17 49 v40 0 fun v41 w_18 =>
 kLoad (cR Try.prog R) w_18 47 v41 fun v42 w_19 =>
 kEq (cR Try.prog R) w_19 .eql 3 (.tmp 42) (.const (.int .i64 0)) v42 (.int .i64 0) fun v43 w_20 =>
 kBin (cR Try.prog R) w_20 .add 3 x8 (.int .i64 1) fun v20_1 w_21 =>
 kD [] [] (N [v35, v43, v20_1] w_21)))) (
 kCall (cR Try.prog R) w_4 29 #[(.int .i64 o), x6] fun v48 w_22 =>
 kExt v48 0 fun v49 =>
 kExt v48 1 fun v50 =>
 kEq (cR Try.prog R) w_22 .neq 3 (.tmp 51) (.const (.int .i64 0)) v50 (.int .i64 0) fun v52 w_23 =>
 kIf v52 (
 kBuild (cR Try.prog R) w_23 49 #[] fun v53 w_24 =>
 kStore (cR Try.prog R) w_24 49 v4 v53 fun w_25 =>
 RetK Try.prog [.cell v4 49, .val v50] R w_25) (
 kDrawn true (
 kDrawn true (
 kJn (fun J =>
 kIa (cQ Try.prog) w_23 22 (.slice l ln lc) (.int .i64 0) fun v56 w_26 =>
 kLoad (cQ Try.prog) w_26 49 v56 fun v57 w_27 =>
 kBlt (cQ Try.prog) w_27 .len #[22] 3 #[false] #[(.slice l ln lc)] fun v60 w_28 =>
 kBin (cQ Try.prog) w_28 .sub 3 v60 (.int .i64 1) fun v61 w_29 =>
 kIa (cQ Try.prog) w_29 22 (.slice l ln lc) v61 fun v62 w_30 =>
 kLoad (cQ Try.prog) w_30 49 v62 fun v63 w_31 =>
 kBoth (
 kDrew w_31 fun w_32 =>
 (fun (c : Cx) =>
 kAlloc c w_32 49 fun v11 w_33 =>
 kIa (cQ Try.prog) w_33 22 (.slice l ln lc) (.int .i64 0) fun v56_1 w_34 =>
 kSame v56_1 v56 (
 kLoad (cQ Try.prog) w_33 49 v56 fun v57_1 w_35 =>
 kSame v57_1 v57 (
 kBlt (cQ Try.prog) w_33 .len #[22] 3 #[false] #[(.slice l ln lc)] fun v60_1 w_36 =>
 kSame v60_1 v60 (
 kBin (cQ Try.prog) w_33 .sub 3 v60 (.int .i64 1) fun v61_1 w_37 =>
 kSame v61_1 v61 (
 kIa (cQ Try.prog) w_33 22 (.slice l ln lc) v61 fun v62_1 w_38 =>
 kSame v62_1 v62 (
 kLoad (cQ Try.prog) w_33 49 v62 fun v63_1 w_39 =>
 kSame v63_1 v63 (
 kDrew w_33 fun w_40 =>
 kAlloc c w_40 49 fun v12 w_41 =>
 kIa (cQ Try.prog) w_41 22 (.slice l ln lc) (.int .i64 0) fun v56_2 w_42 =>
 kSame v56_2 v56 (
 kLoad (cQ Try.prog) w_41 49 v56 fun v57_2 w_43 =>
 kSame v57_2 v57 (
 kBlt (cQ Try.prog) w_41 .len #[22] 3 #[false] #[(.slice l ln lc)] fun v60_2 w_44 =>
 kSame v60_2 v60 (
 kBin (cQ Try.prog) w_41 .sub 3 v60 (.int .i64 1) fun v61_2 w_45 =>
 kSame v61_2 v61 (
 kIa (cQ Try.prog) w_41 22 (.slice l ln lc) v61 fun v62_2 w_46 =>
 kSame v62_2 v62 (
 kLoad (cQ Try.prog) w_41 49 v62 fun v63_2 w_47 =>
 kSame v63_2 v63 (
 kDrew w_41 fun w_48 =>
 kStore c w_48 49 v11 v57 fun w_49 =>
 kBlt (cQ Try.prog) w_49 .len #[22] 3 #[false] #[(.slice l ln lc)] fun v60_3 w_50 =>
 kSame v60_3 v60 (
 kBin (cQ Try.prog) w_49 .sub 3 v60 (.int .i64 1) fun v61_3 w_51 =>
 kSame v61_3 v61 (
 kIa (cQ Try.prog) w_49 22 (.slice l ln lc) v61 fun v62_3 w_52 =>
 kSame v62_3 v62 (
 kLoad (cQ Try.prog) w_49 49 v62 fun v63_3 w_53 =>
 kSame v63_3 v63 (
 kDrew w_49 fun w_54 => J [(.slice l ln lc), v56, v57, (.slice l ln lc), (.slice l ln lc), v60, v61, v62, v63, v11, v12, undef] w_54))))))))))))))))) ⟨Try.prog, fun ch w => ∀ _ : List Value, R (.panicked ch) w, false⟩) (
 kDrew w_31 fun w_55 =>
 (fun (c_1 : Cx) =>
 kAlloc c_1 w_55 49 fun v12_1 w_56 =>
 kIa (cQ Try.prog) w_56 22 (.slice l ln lc) (.int .i64 0) fun v56_3 w_57 =>
 kSame v56_3 v56 (
 kLoad (cQ Try.prog) w_56 49 v56 fun v57_3 w_58 =>
 kSame v57_3 v57 (
 kBlt (cQ Try.prog) w_56 .len #[22] 3 #[false] #[(.slice l ln lc)] fun v60_4 w_59 =>
 kSame v60_4 v60 (
 kBin (cQ Try.prog) w_56 .sub 3 v60 (.int .i64 1) fun v61_4 w_60 =>
 kSame v61_4 v61 (
 kIa (cQ Try.prog) w_56 22 (.slice l ln lc) v61 fun v62_4 w_61 =>
 kSame v62_4 v62 (
 kLoad (cQ Try.prog) w_56 49 v62 fun v63_4 w_62 =>
 kSame v63_4 v63 (
 kDrew w_56 fun w_63 =>
 kAlloc c_1 w_63 49 fun v11_1 w_64 =>
 kIa (cQ Try.prog) w_64 22 (.slice l ln lc) (.int .i64 0) fun v56_4 w_65 =>
 kSame v56_4 v56 (
 kLoad (cQ Try.prog) w_64 49 v56 fun v57_4 w_66 =>
 kSame v57_4 v57 (
 kBlt (cQ Try.prog) w_64 .len #[22] 3 #[false] #[(.slice l ln lc)] fun v60_5 w_67 =>
 kSame v60_5 v60 (
 kBin (cQ Try.prog) w_64 .sub 3 v60 (.int .i64 1) fun v61_5 w_68 =>
 kSame v61_5 v61 (
 kIa (cQ Try.prog) w_64 22 (.slice l ln lc) v61 fun v62_5 w_69 =>
 kSame v62_5 v62 (
 kLoad (cQ Try.prog) w_64 49 v62 fun v63_5 w_70 =>
 kSame v63_5 v63 (
 kDrew w_64 fun w_71 =>
 kStore c_1 w_71 49 v11_1 v57 fun w_72 =>
 kBlt (cQ Try.prog) w_72 .len #[22] 3 #[false] #[(.slice l ln lc)] fun v60_6 w_73 =>
 kSame v60_6 v60 (
 kBin (cQ Try.prog) w_72 .sub 3 v60 (.int .i64 1) fun v61_6 w_74 =>
 kSame v61_6 v61 (
 kIa (cQ Try.prog) w_72 22 (.slice l ln lc) v61 fun v62_6 w_75 =>
 kSame v62_6 v62 (
 kLoad (cQ Try.prog) w_72 49 v62 fun v63_6 w_76 =>
 kSame v63_6 v63 (
 kDrew w_72 fun w_77 => J [(.slice l ln lc), v56, v57, (.slice l ln lc), (.slice l ln lc), v60, v61, v62, v63, v11_1, v12_1, undef] w_77))))))))))))))))) ⟨Try.prog, fun ch w => ∀ _ : List Value, R (.panicked ch) w, false⟩)) (fun cs_1 w_78 =>
 (fun g8 g9 g10 =>
 kStore (cR Try.prog R) w_78 49 g10 g8 fun w_79 =>
 kJn (fun J_1 =>
 kEq (cR Try.prog R) w_79 .eql 3 (.tmp 65) (.const (.int .i64 13)) (.int .i64 o) (.int .i64 13) fun v66 w_91 =>
 kIf v66 (
 kDrawn true (
 kDrawn true (
 kLoad (cQ Try.prog) w_91 49 g9 fun v67 w_92 =>
 kLoad (cQ Try.prog) w_92 49 g10 fun v69 w_93 =>
 kDrew w_93 fun w_94 =>
 (fun (c_2 : Cx) =>
 kCall c_2 w_94 66 #[v67] fun v68 w_95 =>
 kLoad (cQ Try.prog) w_95 49 g10 fun v69_1 w_96 =>
 kSame v69_1 v69 (
 kDrew w_95 fun w_97 =>
 kCall c_2 w_97 66 #[v69] fun v70 w_98 =>
 kDrew w_98 fun w_99 =>
 kCall c_2 w_99 65 #[v68, v70] fun v71 w_100 =>
 kDrew w_100 fun w_101 =>
 kCall c_2 w_101 51 #[v71] fun v72 w_102 =>
 kDrew w_102 fun w_103 =>
 kStore (cR Try.prog R) w_103 49 v4 v72 fun w_104 =>
 RetK Try.prog [.cell v4 49, .val (.int .i64 0)] R w_104)) ⟨Try.prog, fun ch w => ∀ _ : List Value, R (.panicked ch) w, false⟩))) (
 kEq (cR Try.prog R) w_91 .eql 3 (.tmp 74) (.const (.int .i64 14)) (.int .i64 o) (.int .i64 14) fun v75 w_105 =>
 kIf v75 (
 kDrawn true (
 kDrawn true (
 kLoad (cQ Try.prog) w_105 49 g9 fun v76 w_106 =>
 kLoad (cQ Try.prog) w_106 49 g10 fun v78 w_107 =>
 kDrew w_107 fun w_108 =>
 (fun (c_3 : Cx) =>
 kCall c_3 w_108 66 #[v76] fun v77 w_109 =>
 kLoad (cQ Try.prog) w_109 49 g10 fun v78_1 w_110 =>
 kSame v78_1 v78 (
 kDrew w_109 fun w_111 =>
 kCall c_3 w_111 66 #[v78] fun v79 w_112 =>
 kDrew w_112 fun w_113 =>
 kCall c_3 w_113 67 #[v77, v79] fun v80 w_114 =>
 kDrew w_114 fun w_115 =>
 kCall c_3 w_115 51 #[v80] fun v81 w_116 =>
 kDrew w_116 fun w_117 =>
 kStore (cR Try.prog R) w_117 49 v4 v81 fun w_118 =>
 RetK Try.prog [.cell v4 49, .val (.int .i64 0)] R w_118)) ⟨Try.prog, fun ch w => ∀ _ : List Value, R (.panicked ch) w, false⟩))) (
 kJn (fun J_2 =>
 kEq (cR Try.prog R) w_105 .eql 3 (.tmp 83) (.const (.int .i64 17)) (.int .i64 o) (.int .i64 17) fun v84 w_170 =>
 kIf v84 (
 kD [] [] (J_2 [(.bool true)] w_170)) (
 kEq (cR Try.prog R) w_170 .eql 3 (.tmp 86) (.const (.int .i64 18)) (.int .i64 o) (.int .i64 18) fun v87 w_171 =>
 kD [] [] (J_2 [v87] w_171))) (fun cs_3 w_119 => ∀ ds_2 : List Value,
 (fun j82 =>
 kIf j82 (
 kFa (cR Try.prog R) w_119 49 g9 0 fun v89 w_120 =>
 kLoad (cR Try.prog R) w_120 47 v89 fun v90 w_121 =>
 kEq (cR Try.prog R) w_121 .eql 3 (.tmp 90) (.const (.int .i64 0)) v90 (.int .i64 0) fun v91 w_122 =>
 kEq (cR Try.prog R) w_122 .eql 3 (.tmp 92) (.const (.int .i64 17)) (.int .i64 o) (.int .i64 17) fun v93 w_123 =>
 kEq (cR Try.prog R) w_123 .eql 4 (.tmp 91) (.tmp 93) v91 v93 fun v94 w_124 =>
 kCall (cR Try.prog R) w_124 68 #[v94] fun v95 w_125 =>
 kStore (cR Try.prog R) w_125 49 v4 v95 fun w_126 =>
 RetK Try.prog [.cell v4 49, .val (.int .i64 0)] R w_126) (
 kIf x7 (
 kBuild (cR Try.prog R) w_119 49 #[] fun v98 w_127 =>
 kStore (cR Try.prog R) w_127 49 v4 v98 fun w_128 =>
 RetK Try.prog [.cell v4 49, .val (.int .i64 0)] R w_128) (
 kEq (cR Try.prog R) w_119 .eql 3 (.tmp 100) (.const (.int .i64 16)) (.int .i64 o) (.int .i64 16) fun v101 w_129 =>
 kIf v101 (
 kLoad (cR Try.prog R) w_129 49 g9 fun v102 w_130 =>
 kCall (cR Try.prog R) w_130 66 #[v102] fun v103 w_131 =>
 kCall (cR Try.prog R) w_131 69 #[v103] fun v104 w_132 =>
 kCall (cR Try.prog R) w_132 51 #[v104] fun v105 w_133 =>
 kStore (cR Try.prog R) w_133 49 v4 v105 fun w_134 =>
 RetK Try.prog [.cell v4 49, .val (.int .i64 0)] R w_134) (
 kEq (cR Try.prog R) w_129 .eql 3 (.tmp 107) (.const (.int .i64 6)) (.int .i64 o) (.int .i64 6) fun v108 w_135 =>
 kIf v108 (
 kFa (cR Try.prog R) w_135 49 g9 2 fun v109 w_136 =>
 kLoad (cR Try.prog R) w_136 9 v109 fun v110 w_137 =>
 kBlt (cR Try.prog R) w_137 .len #[9] 3 #[false] #[v110] fun v111 w_138 =>
 kFa (cR Try.prog R) w_138 49 g10 2 fun v112 w_139 =>
 kLoad (cR Try.prog R) w_139 9 v112 fun v113 w_140 =>
 kBlt (cR Try.prog R) w_140 .len #[9] 3 #[false] #[v113] fun v114 w_141 =>
 kBin (cR Try.prog R) w_141 .add 3 v111 v114 fun v115 w_142 =>
 kBin (cR Try.prog R) w_142 .gtr 3 v115 (.int .i64 1000) fun v116 w_143 =>
 kIf v116 (
 kBuild (cR Try.prog R) w_143 49 #[] fun v117 w_144 =>
 kStore (cR Try.prog R) w_144 49 v4 v117 fun w_145 =>
 RetK Try.prog [.cell v4 49, .val (.int .i64 3)] R w_145) (
 kFa (cR Try.prog R) w_143 49 g9 0 fun v118 w_146 =>
 kLoad (cR Try.prog R) w_146 47 v118 fun v119 w_147 =>
 kFa (cR Try.prog R) w_147 49 g9 2 fun v120 w_148 =>
 kLoad (cR Try.prog R) w_148 9 v120 fun v121 w_149 =>
 kFa (cR Try.prog R) w_149 49 g10 2 fun v122 w_150 =>
 kLoad (cR Try.prog R) w_150 9 v122 fun v123 w_151 =>
 kBin (cR Try.prog R) w_151 .add 9 v121 v123 fun v124 w_152 =>
 kBuild (cR Try.prog R) w_152 49 #[(0, v119), (2, v124)] fun v125 w_153 =>
 kStore (cR Try.prog R) w_153 49 v4 v125 fun w_154 =>
 RetK Try.prog [.cell v4 49, .val (.int .i64 0)] R w_154)) (
 kEq (cR Try.prog R) w_135 .eql 3 (.tmp 127) (.const (.int .i64 19)) (.int .i64 o) (.int .i64 19) fun v128 w_155 =>
 kIf v128 (
 kFa (cR Try.prog R) w_155 49 g9 2 fun v129 w_156 =>
 kLoad (cR Try.prog R) w_156 9 v129 fun v130 w_157 =>
 kBlt (cR Try.prog R) w_157 .len #[9] 3 #[false] #[v130] fun v131 w_158 =>
 kBuild (cR Try.prog R) w_158 49 #[(0, (.int .i64 2)), (1, v131)] fun v132 w_159 =>
 kStore (cR Try.prog R) w_159 49 v4 v132 fun w_160 =>
 RetK Try.prog [.cell v4 49, .val (.int .i64 0)] R w_160) (
 kJn (fun J_3 =>
 kBin (cR Try.prog R) w_155 .geq 3 (.int .i64 o) (.int .i64 7) fun v135 w_168 =>
 kIf v135 (
 kBin (cR Try.prog R) w_168 .leq 3 (.int .i64 o) (.int .i64 12) fun v138 w_169 =>
 kD [] [] (J_3 [v138] w_169)) (
 kD [] [] (J_3 [(.bool false)] w_168))) (fun cs_4 w_161 => ∀ ds_3 : List Value,
 (fun j133 =>
 kIf j133 (
 kLoad (cR Try.prog R) w_161 49 g9 fun v141 w_162 =>
 kLoad (cR Try.prog R) w_162 49 g10 fun v142 w_163 =>
 kCall (cR Try.prog R) w_163 71 #[v141, v142] fun v143 w_164 =>
 kCall (cR Try.prog R) w_164 70 #[(.int .i64 o), v143] fun v144 w_165 =>
 kCall (cR Try.prog R) w_165 68 #[v144] fun v145 w_166 =>
 kStore (cR Try.prog R) w_166 49 v4 v145 fun w_167 =>
 RetK Try.prog [.cell v4 49, .val (.int .i64 0)] R w_167) (
 kD [] [] (J_1 [] w_161))) (cs_4.getD 0 undef)))))))) (cs_3.getD 0 undef))))) (fun cs_2 w_80 => ∀ ds_1 : List Value,
 kFa (cR Try.prog R) w_80 49 g9 1 fun v148 w_81 =>
 kLoad (cR Try.prog R) w_81 2 v148 fun v149 w_82 =>
 kFa (cR Try.prog R) w_82 49 g10 1 fun v150 w_83 =>
 kLoad (cR Try.prog R) w_83 2 v150 fun v151 w_84 =>
 kCall (cR Try.prog R) w_84 72 #[(.int .i64 o), v149, v151] fun v152 w_85 =>
 kExt v152 0 fun v153 =>
 kExt v152 1 fun v154 =>
 kEq (cR Try.prog R) w_85 .neq 3 (.tmp 155) (.const (.int .i64 0)) v154 (.int .i64 0) fun v156 w_86 =>
 kIf v156 (
 kBuild (cR Try.prog R) w_86 49 #[] fun v157 w_87 =>
 kStore (cR Try.prog R) w_87 49 v4 v157 fun w_88 =>
 RetK Try.prog [.cell v4 49, .val v154] R w_88) (
 kBuild (cR Try.prog R) w_86 49 #[(0, (.int .i64 2)), (1, v153)] fun v160 w_89 =>
 kStore (cR Try.prog R) w_89 49 v4 v160 fun w_90 =>
 RetK Try.prog [.cell v4 49, .val (.int .i64 0)] R w_90))) (cs_1.getD 8 undef) (cs_1.getD 9 undef) (cs_1.getD 10 undef))))))) (cs.getD 0 undef) (cs.getD 1 undef) (cs.getD 2 undef)
theorem c24 (o : Int) (l : Option Addr) (ln : Nat) (lc : Nat) (R : Ending → World → Prop) (w : World) (h : vc24 o l ln lc R w) : Calls Try.prog 24 #[(.int .i64 o), (.slice l ln lc)] w R :=
  calls_of_vc (A := { loops := [(1000032, []), (1000031, [133]), (1000019, [82]), (0, [6, 7, 8])], pars := [], chs := [(13, (.q 0 (.q 1 (.q 2 (.q 3 (.q 4 (.q 5 (.q 6 (.q 7 (.q 8 (.or 9 (.e 10 (.e 11 .done)) (.e 10 (.e 9 (.e 11 .done)))))))))))))), (15, (.q 0 (.q 2 (.e 1 (.e 3 (.e 4 (.e 5 .done))))))), (17, (.q 0 (.q 2 (.e 1 (.e 3 (.e 4 (.e 5 .done)))))))] }) (Eq.mpr (show FnVc Try.prog { loops := [(1000032, []), (1000031, [133]), (1000019, [82]), (0, [6, 7, 8])], pars := [], chs := [(13, (.q 0 (.q 1 (.q 2 (.q 3 (.q 4 (.q 5 (.q 6 (.q 7 (.q 8 (.or 9 (.e 10 (.e 11 .done)) (.e 10 (.e 9 (.e 11 .done)))))))))))))), (15, (.q 0 (.q 2 (.e 1 (.e 3 (.e 4 (.e 5 .done))))))), (17, (.q 0 (.q 2 (.e 1 (.e 3 (.e 4 (.e 5 .done)))))))] } 161 24 [(.int .i64 o), (.slice l ln lc)] R w = vc24 o l ln lc R w by kernel_rfl) h)

/-- loupe/loupelaw02.num -/
def vc25 (eA : Int) (R : Ending → World → Prop) (w : World) : Prop :=
 R (.returned (.int .i64 eA)) w
theorem c25 (eA : Int) (R : Ending → World → Prop) (w : World) (h : vc25 eA R w) : Calls Try.prog 25 #[(.int .i64 eA)] w R :=
  calls_of_vc (A := { loops := [], pars := [] }) (Eq.mpr (show FnVc Try.prog { loops := [], pars := [] } 4 25 [(.int .i64 eA)] R w = vc25 eA R w by kernel_rfl) h)

/-- loupe/sum.Makes -/
def vc26 (o : Int) (l : Option Addr) (ln : Nat) (lc : Nat) (R : Ending → World → Prop) (w : World) : Prop :=
 kAlloc (cR Try.prog R) w 27 fun v4 w_1 =>
 kAlloc (cR Try.prog R) w_1 28 fun v5 w_2 =>
 (fun (c : Cx) =>
 kCall c w_2 58 #[(.int .i64 o), (.slice l ln lc)] fun v9 w_3 =>
 kStore c w_3 27 v4 v9 fun w_4 =>
 kStore c w_4 28 v5 (.int .i64 0) fun w_5 =>
 Lv Try.prog [.cell v4 27, .cell v5 28] R [{ target := .fn (.func 52) #[], args := #[v5, (.func (.func 73) #[] #[v4])] }] .returning w_5) ⟨Try.prog, fun ch w => Lv Try.prog [.cell v4 27, .cell v5 28] R [{ target := .fn (.func 52) #[], args := #[v5, (.func (.func 73) #[] #[v4])] }] (.panicking ch) w, false⟩
theorem c26 (o : Int) (l : Option Addr) (ln : Nat) (lc : Nat) (R : Ending → World → Prop) (w : World) (h : vc26 o l ln lc R w) : Calls Try.prog 26 #[(.int .i64 o), (.slice l ln lc)] w R :=
  calls_of_vc (A := { loops := [], pars := [] }) (Eq.mpr (show FnVc Try.prog { loops := [], pars := [] } 10 26 [(.int .i64 o), (.slice l ln lc)] R w = vc26 o l ln lc R w by kernel_rfl) h)

/-- loupe/loupelaw02.of -/
def vc27 (n : Int) (R : Ending → World → Prop) (w : World) : Prop :=
 kAlloc (cR Try.prog R) w 49 fun v2 w_1 =>
 kBuild (cR Try.prog R) w_1 49 #[(0, (.int .i64 2)), (1, (.int .i64 n))] fun v4 w_2 =>
 kStore (cR Try.prog R) w_2 49 v2 v4 fun w_3 =>
 RetK Try.prog [.cell v2 49] R w_3
theorem c27 (n : Int) (R : Ending → World → Prop) (w : World) (h : vc27 n R w) : Calls Try.prog 27 #[(.int .i64 n)] w R :=
  calls_of_vc (A := { loops := [], pars := [] }) (Eq.mpr (show FnVc Try.prog { loops := [], pars := [] } 5 27 [(.int .i64 n)] R w = vc27 n R w by kernel_rfl) h)

/-- loupe/sum.Info -/
def vc28 (o : Int) (R : Ending → World → Prop) (w : World) : Prop :=
 kAlloc (cR Try.prog R) w 62 fun v2 w_1 =>
 kJn (fun J =>
 kBin (cR Try.prog R) w_1 .leq 53 (.int .i64 o) (.int .i64 0) fun v5 w_6 =>
 kIf v5 (
 kIf (.bool true) (
 kBuild (cR Try.prog R) w_6 62 #[] fun v10 w_7 =>
 kStore (cR Try.prog R) w_7 62 v2 v10 fun w_8 =>
 RetK Try.prog [.cell v2 62, .val (.bool false)] R w_8) (
 kD [] [] (J [] w_6))) (
 kBin (cR Try.prog R) w_6 .gtr 53 (.int .i64 o) (.int .i64 20) fun v8 w_9 =>
 kIf v8 (
 kBuild (cR Try.prog R) w_9 62 #[] fun v10_1 w_10 =>
 kStore (cR Try.prog R) w_10 62 v2 v10_1 fun w_11 =>
 RetK Try.prog [.cell v2 62, .val (.bool false)] R w_11) (
 kD [] [] (J [] w_9)))) (fun cs w_2 => ∀ ds : List Value,
 kCall (cR Try.prog R) w_2 74 #[] fun v11 w_3 =>
 kIx (cR Try.prog R) w_3 116 v11 (.int .i64 o) fun v13 w_4 =>
 kStore (cR Try.prog R) w_4 62 v2 v13 fun w_5 =>
 RetK Try.prog [.cell v2 62, .val (.bool true)] R w_5)
theorem c28 (o : Int) (R : Ending → World → Prop) (w : World) (h : vc28 o R w) : Calls Try.prog 28 #[(.int .i64 o)] w R :=
  calls_of_vc (A := { loops := [(1000003, [])], pars := [] }) (Eq.mpr (show FnVc Try.prog { loops := [(1000003, [])], pars := [] } 14 28 [(.int .i64 o)] R w = vc28 o R w by kernel_rfl) h)

/-- loupe/louperef02.Makes -/
def vc29 (o : Int) (l : Option Addr) (ln : Nat) (lc : Nat) (R : Ending → World → Prop) (w : World) : Prop :=
 kCall (cR Try.prog R) w 31 #[(.int .i64 o)] fun v12 w_1 =>
 kAlloc (cR Try.prog R) w_1 62 fun v6 w_2 =>
 kStore (cR Try.prog R) w_2 62 v6 v12 fun w_3 =>
 kJn (fun J =>
 kFa (cR Try.prog R) w_3 62 v6 0 fun v13 w_69 =>
 kLoad (cR Try.prog R) w_69 9 v13 fun v14 w_70 =>
 kEq (cR Try.prog R) w_70 .eql 9 (.tmp 14) (.const (.string ⟨#[]⟩)) v14 (.string ⟨#[]⟩) fun v15 w_71 =>
 kIf v15 (
 kIf (.bool true) (
 R (.returned (.tuple #[(.int .i64 0), (.int .i64 2)])) w_71) (
 kD [] [] (J [] w_71))) (
 kBlt (cR Try.prog R) w_71 .len #[23] 3 #[false] #[(.slice l ln lc)] fun v18 w_72 =>
 kFa (cR Try.prog R) w_72 62 v6 1 fun v19 w_73 =>
 kLoad (cR Try.prog R) w_73 3 v19 fun v20 w_74 =>
 kEq (cR Try.prog R) w_74 .neq 3 (.tmp 18) (.tmp 20) v18 v20 fun v21 w_75 =>
 kIf v21 (
 R (.returned (.tuple #[(.int .i64 0), (.int .i64 2)])) w_75) (
 kD [] [] (J [] w_75)))) (fun cs w_4 => ∀ ds : List Value,
 kLoopF [(.int .i64 0)] w_4 fun cs_1 ds_1 w_5 N =>
 (fun x7 =>
 kBlt (cR Try.prog R) w_5 .len #[23] 3 #[false] #[(.slice l ln lc)] fun v25 w_6 =>
 kBin (cR Try.prog R) w_6 .lss 3 x7 v25 fun v26 w_7 =>
 kIf v26 (
 kIa (cR Try.prog R) w_7 23 (.slice l ln lc) x7 fun v31 w_8 =>
 kLoad (cR Try.prog R) w_8 3 v31 fun v32 w_9 =>
 kBin (cR Try.prog R) w_9 .lss 3 v32 (.int .i64 0) fun v33 w_10 =>
 kIf v33 (
 kIf (.bool true) (
 R (.returned (.tuple #[(.int .i64 0), (.int .i64 2)])) w_10) (
 kBin (cR Try.prog R) w_10 .add 3 x7 (.int .i64 1) fun v28 w_11 =>
 kD [] [] (N [v28] w_11))) (
 kIa (cR Try.prog R) w_10 23 (.slice l ln lc) x7 fun v37 w_12 =>
 kLoad (cR Try.prog R) w_12 3 v37 fun v38 w_13 =>
 kBin (cR Try.prog R) w_13 .gtr 3 v38 (.int .i64 4) fun v39 w_14 =>
 kIf v39 (
 R (.returned (.tuple #[(.int .i64 0), (.int .i64 2)])) w_14) (
 kBin (cR Try.prog R) w_14 .add 3 x7 (.int .i64 1) fun v28_1 w_15 =>
 kD [] [] (N [v28_1] w_15)))) (
 kIa (cR Try.prog R) w_7 23 (.slice l ln lc) (.int .i64 0) fun v42 w_16 =>
 kLoad (cR Try.prog R) w_16 3 v42 fun v43 w_17 =>
 kBlt (cR Try.prog R) w_17 .len #[23] 3 #[false] #[(.slice l ln lc)] fun v46 w_18 =>
 kBin (cR Try.prog R) w_18 .sub 3 v46 (.int .i64 1) fun v47 w_19 =>
 kIa (cR Try.prog R) w_19 23 (.slice l ln lc) v47 fun v48 w_20 =>
 kLoad (cR Try.prog R) w_20 3 v48 fun v49 w_21 =>
 kLoopF [(.int .i64 0)] w_21 fun cs_2 ds_2 w_22 N_1 =>
 (fun x10 =>
 kBlt (cR Try.prog R) w_22 .len #[23] 3 #[false] #[(.slice l ln lc)] fun v52 w_23 =>
 kBin (cR Try.prog R) w_23 .lss 3 x10 v52 fun v53 w_24 =>
 kIf v53 (
 kJn (fun J_1 =>
 kDrawn true (
 kFa (cQ Try.prog) w_24 62 v6 2 fun v56 w_45 =>
 kLoad (cQ Try.prog) w_45 27 v56 fun v57 w_46 =>
 kEq (cQ Try.prog) w_46 .neq 27 (.tmp 57) (.const (.int .i64 0)) v57 (.int .i64 0) fun v58 w_47 =>
 kIf v58 (
 kIa (cQ Try.prog) w_47 23 (.slice l ln lc) x10 fun v62 w_48 =>
 kLoad (cQ Try.prog) w_48 3 v62 fun v63 w_49 =>
 kEq (cQ Try.prog) w_49 .neq 3 (.tmp 63) (.const (.int .i64 0)) v63 (.int .i64 0) fun v64 w_50 =>
 kIf v64 (
 kIa (cQ Try.prog) w_50 23 (.slice l ln lc) x10 fun v69 w_51 =>
 kLoad (cQ Try.prog) w_51 3 v69 fun v70 w_52 =>
 kFa (cQ Try.prog) w_52 62 v6 2 fun v71 w_53 =>
 kLoad (cQ Try.prog) w_53 27 v71 fun v72 w_54 =>
 kEq (cQ Try.prog) w_54 .neq 3 (.tmp 70) (.tmp 72) v70 v72 fun v73 w_55 =>
 kDrew w_24 fun w_56 =>
 kIf v73 (
 R (.returned (.tuple #[(.int .i64 0), (.int .i64 120)])) w_56) (
 kD [] [] (J_1 [] w_56))) (
 kDrew w_24 fun w_57 =>
 kIf (.bool false) (
 R (.returned (.tuple #[(.int .i64 0), (.int .i64 120)])) w_57) (
 kD [] [] (J_1 [] w_57)))) (
 kDrew w_24 fun w_58 =>
 kIf (.bool false) (
 R (.returned (.tuple #[(.int .i64 0), (.int .i64 120)])) w_58) (
 kD [] [] (J_1 [] w_58))))) (fun cs_3 w_25 => ∀ ds_3 : List Value,
 kEq (cR Try.prog R) w_25 .eql 3 (.tmp 75) (.const (.int .i64 6)) (.int .i64 o) (.int .i64 6) fun v76 w_26 =>
 kIf v76 (
 kIa (cR Try.prog R) w_26 23 (.slice l ln lc) x10 fun v84 w_27 =>
 kLoad (cR Try.prog R) w_27 3 v84 fun v85 w_28 =>
 kEq (cR Try.prog R) w_28 .eql 3 (.tmp 85) (.const (.int .i64 1)) v85 (.int .i64 1) fun v86 w_29 =>
 kIf v86 (
 kIf (.bool true) (
 R (.returned (.tuple #[(.int .i64 0), (.int .i64 120)])) w_29) (
 kBin (cR Try.prog R) w_29 .add 3 x10 (.int .i64 1) fun v55 w_30 =>
 kD [] [] (N_1 [v55] w_30))) (
 kIa (cR Try.prog R) w_29 23 (.slice l ln lc) x10 fun v90 w_31 =>
 kLoad (cR Try.prog R) w_31 3 v90 fun v91 w_32 =>
 kEq (cR Try.prog R) w_32 .eql 3 (.tmp 91) (.const (.int .i64 2)) v91 (.int .i64 2) fun v92 w_33 =>
 kIf v92 (
 R (.returned (.tuple #[(.int .i64 0), (.int .i64 120)])) w_33) (
 kBin (cR Try.prog R) w_33 .add 3 x10 (.int .i64 1) fun v55_1 w_34 =>
 kD [] [] (N_1 [v55_1] w_34)))) (
 kEq (cR Try.prog R) w_26 .eql 3 (.tmp 78) (.const (.int .i64 19)) (.int .i64 o) (.int .i64 19) fun v79 w_35 =>
 kIf v79 (
 kIa (cR Try.prog R) w_35 23 (.slice l ln lc) x10 fun v84_1 w_36 =>
 kLoad (cR Try.prog R) w_36 3 v84_1 fun v85_1 w_37 =>
 kEq (cR Try.prog R) w_37 .eql 3 (.tmp 85) (.const (.int .i64 1)) v85_1 (.int .i64 1) fun v86_1 w_38 =>
 kIf v86_1 (
 kIf (.bool true) (
 R (.returned (.tuple #[(.int .i64 0), (.int .i64 120)])) w_38) (
 kBin (cR Try.prog R) w_38 .add 3 x10 (.int .i64 1) fun v55_2 w_39 =>
 kD [] [] (N_1 [v55_2] w_39))) (
 kIa (cR Try.prog R) w_38 23 (.slice l ln lc) x10 fun v90_1 w_40 =>
 kLoad (cR Try.prog R) w_40 3 v90_1 fun v91_1 w_41 =>
 kEq (cR Try.prog R) w_41 .eql 3 (.tmp 91) (.const (.int .i64 2)) v91_1 (.int .i64 2) fun v92_1 w_42 =>
 kIf v92_1 (
 R (.returned (.tuple #[(.int .i64 0), (.int .i64 120)])) w_42) (
 kBin (cR Try.prog R) w_42 .add 3 x10 (.int .i64 1) fun v55_3 w_43 =>
 kD [] [] (N_1 [v55_3] w_43)))) (
 kIf (.bool false) (
 R (.returned (.tuple #[(.int .i64 0), (.int .i64 120)])) w_35) (
 kBin (cR Try.prog R) w_35 .add 3 x10 (.int .i64 1) fun v55_4 w_44 =>
 kD [] [] (N_1 [v55_4] w_44)))))) (
 kJn (fun J_2 =>
 kBin (cR Try.prog R) w_24 .geq 3 (.int .i64 o) (.int .i64 6) fun v96 w_64 =>
 kIf v96 (
 kBin (cR Try.prog R) w_64 .leq 3 (.int .i64 o) (.int .i64 12) fun v99 w_65 =>
 kIf v99 (
 kEq (cR Try.prog R) w_65 .neq 3 (.tmp 102) (.const (.int .i64 0)) v43 (.int .i64 0) fun v103 w_66 =>
 kIf v103 (
 kEq (cR Try.prog R) w_66 .neq 3 (.tmp 106) (.const (.int .i64 0)) v49 (.int .i64 0) fun v107 w_67 =>
 kIf v107 (
 kEq (cR Try.prog R) w_67 .neq 3 (.tmp 110) (.tmp 111) v43 v49 fun v112 w_68 =>
 kIf v112 (
 R (.returned (.tuple #[(.int .i64 0), (.int .i64 120)])) w_68) (
 kD [] [] (J_2 [] w_68))) (
 kIf (.bool false) (
 R (.returned (.tuple #[(.int .i64 0), (.int .i64 120)])) w_67) (
 kD [] [] (J_2 [] w_67)))) (
 kIf (.bool false) (
 R (.returned (.tuple #[(.int .i64 0), (.int .i64 120)])) w_66) (
 kD [] [] (J_2 [] w_66)))) (
 kIf (.bool false) (
 R (.returned (.tuple #[(.int .i64 0), (.int .i64 120)])) w_65) (
 kD [] [] (J_2 [] w_65)))) (
 kIf (.bool false) (
 R (.returned (.tuple #[(.int .i64 0), (.int .i64 120)])) w_64) (
 kD [] [] (J_2 [] w_64)))) (fun cs_4 w_59 => ∀ ds_4 : List Value,
 kEq (cR Try.prog R) w_59 .eql 3 (.tmp 114) (.const (.int .i64 6)) (.int .i64 o) (.int .i64 6) fun v115 w_60 =>
 kIf v115 (
 kBlt (cR Try.prog R) w_60 .max #[3, 3] 3 #[false, false] #[v43, v49] fun v118 w_61 =>
 R (.returned (.tuple #[v118, (.int .i64 0)])) w_61) (
 kFa (cR Try.prog R) w_60 62 v6 3 fun v119 w_62 =>
 kLoad (cR Try.prog R) w_62 27 v119 fun v120 w_63 =>
 R (.returned (.tuple #[v120, (.int .i64 0)])) w_63)))) (cs_2.getD 0 undef))) (cs_1.getD 0 undef))
theorem c29 (o : Int) (l : Option Addr) (ln : Nat) (lc : Nat) (R : Ending → World → Prop) (w : World) (h : vc29 o l ln lc R w) : Calls Try.prog 29 #[(.int .i64 o), (.slice l ln lc)] w R :=
  calls_of_vc (A := { loops := [(1000016, []), (1000020, []), (2, [10]), (0, [7]), (1000004, [])], pars := [] }) (Eq.mpr (show FnVc Try.prog { loops := [(1000016, []), (1000020, []), (2, [10]), (0, [7]), (1000004, [])], pars := [] } 121 29 [(.int .i64 o), (.slice l ln lc)] R w = vc29 o l ln lc R w by kernel_rfl) h)

/-- loupe/sum.Ops -/
def vc30  (R : Ending → World → Prop) (w : World) : Prop :=
 R (.returned (.func (.func 75) #[] #[])) w
theorem c30  (R : Ending → World → Prop) (w : World) (h : vc30  R w) : Calls Try.prog 30 #[] w R :=
  calls_of_vc (A := { loops := [], pars := [] }) (Eq.mpr (show FnVc Try.prog { loops := [], pars := [] } 1 30 [] R w = vc30  R w by kernel_rfl) h)

/-- loupe/louperef02.Info -/
def vc31 (o : Int) (R : Ending → World → Prop) (w : World) : Prop :=
 kAlloc (cR Try.prog R) w 62 fun v2 w_1 =>
 kJn (fun J =>
 kBin (cR Try.prog R) w_1 .lss 3 (.int .i64 o) (.int .i64 1) fun v6 w_62 =>
 kIf v6 (
 kIf (.bool true) (
 kBuild (cR Try.prog R) w_62 62 #[] fun v11 w_63 =>
 kStore (cR Try.prog R) w_63 62 v2 v11 fun w_64 =>
 RetK Try.prog [.cell v2 62] R w_64) (
 kD [] [] (J [] w_62))) (
 kBin (cR Try.prog R) w_62 .gtr 3 (.int .i64 o) (.int .i64 20) fun v9 w_65 =>
 kIf v9 (
 kBuild (cR Try.prog R) w_65 62 #[] fun v11_1 w_66 =>
 kStore (cR Try.prog R) w_66 62 v2 v11_1 fun w_67 =>
 RetK Try.prog [.cell v2 62] R w_67) (
 kD [] [] (J [] w_65)))) (fun cs w_2 => ∀ ds : List Value,
 kBuildS (cR Try.prog R) w_2 119 21 #[(0, (.string ⟨#[]⟩)), (1, (.string ⟨#[43]⟩)), (2, (.string ⟨#[45]⟩)), (3, (.string ⟨#[42]⟩)), (4, (.string ⟨#[47]⟩)), (5, (.string ⟨#[37]⟩)), (6, (.string ⟨#[124, 124]⟩)), (7, (.string ⟨#[61]⟩)), (8, (.string ⟨#[60, 62]⟩)), (9, (.string ⟨#[60]⟩)), (10, (.string ⟨#[60, 61]⟩)), (11, (.string ⟨#[62]⟩)), (12, (.string ⟨#[62, 61]⟩)), (13, (.string ⟨#[97, 110, 100]⟩)), (14, (.string ⟨#[111, 114]⟩)), (15, (.string ⟨#[45]⟩)), (16, (.string ⟨#[110, 111, 116]⟩)), (17, (.string ⟨#[105, 115, 32, 110, 117, 108, 108]⟩)), (18, (.string ⟨#[105, 115, 32, 110, 111, 116, 32, 110, 117, 108, 108]⟩)), (19, (.string ⟨#[108, 101, 110, 103, 116, 104]⟩)), (20, (.string ⟨#[97, 98, 115]⟩))] fun v12 w_3 =>
 kIa (cR Try.prog R) w_3 119 v12 (.int .i64 o) fun v14 w_4 =>
 kLoad (cR Try.prog R) w_4 9 v14 fun v15 w_5 =>
 kBuild (cR Try.prog R) w_5 62 #[(0, v15), (1, (.int .i64 2)), (3, (.int .i64 1))] fun v17 w_6 =>
 kAlloc (cR Try.prog R) w_6 62 fun v4 w_7 =>
 kStore (cR Try.prog R) w_7 62 v4 v17 fun w_8 =>
 kBin (cR Try.prog R) w_8 .leq 3 (.int .i64 o) (.int .i64 5) fun v20 w_9 =>
 kIf v20 (
 kFa (cR Try.prog R) w_9 62 v4 2 fun v21 w_10 =>
 kStore (cR Try.prog R) w_10 27 v21 (.int .i64 2) fun w_11 =>
 kFa (cR Try.prog R) w_11 62 v4 3 fun v22 w_12 =>
 kStore (cR Try.prog R) w_12 27 v22 (.int .i64 2) fun w_13 =>
 kLoad (cR Try.prog R) w_13 62 v4 fun v63 w_14 =>
 kStore (cR Try.prog R) w_14 62 v2 v63 fun w_15 =>
 RetK Try.prog [.cell v2 62] R w_15) (
 kEq (cR Try.prog R) w_9 .eql 3 (.tmp 24) (.const (.int .i64 6)) (.int .i64 o) (.int .i64 6) fun v25 w_16 =>
 kIf v25 (
 kFa (cR Try.prog R) w_16 62 v4 3 fun v26 w_17 =>
 kStore (cR Try.prog R) w_17 27 v26 (.int .i64 0) fun w_18 =>
 kLoad (cR Try.prog R) w_18 62 v4 fun v63_1 w_19 =>
 kStore (cR Try.prog R) w_19 62 v2 v63_1 fun w_20 =>
 RetK Try.prog [.cell v2 62] R w_20) (
 kJn (fun J_1 =>
 kEq (cR Try.prog R) w_16 .eql 3 (.tmp 28) (.const (.int .i64 13)) (.int .i64 o) (.int .i64 13) fun v29 w_60 =>
 kIf v29 (
 kD [] [] (J_1 [(.bool true)] w_60)) (
 kEq (cR Try.prog R) w_60 .eql 3 (.tmp 31) (.const (.int .i64 14)) (.int .i64 o) (.int .i64 14) fun v32 w_61 =>
 kD [] [] (J_1 [v32] w_61))) (fun cs_1 w_21 => ∀ ds_1 : List Value,
 (fun j27 =>
 kIf j27 (
 kFa (cR Try.prog R) w_21 62 v4 2 fun v34 w_22 =>
 kStore (cR Try.prog R) w_22 27 v34 (.int .i64 1) fun w_23 =>
 kLoad (cR Try.prog R) w_23 62 v4 fun v63_2 w_24 =>
 kStore (cR Try.prog R) w_24 62 v2 v63_2 fun w_25 =>
 RetK Try.prog [.cell v2 62] R w_25) (
 kJn (fun J_2 =>
 kEq (cR Try.prog R) w_21 .eql 3 (.tmp 36) (.const (.int .i64 15)) (.int .i64 o) (.int .i64 15) fun v37 w_58 =>
 kIf v37 (
 kD [] [] (J_2 [(.bool true)] w_58)) (
 kEq (cR Try.prog R) w_58 .eql 3 (.tmp 39) (.const (.int .i64 20)) (.int .i64 o) (.int .i64 20) fun v40 w_59 =>
 kD [] [] (J_2 [v40] w_59))) (fun cs_2 w_26 => ∀ ds_2 : List Value,
 (fun j35 =>
 kIf j35 (
 kFa (cR Try.prog R) w_26 62 v4 1 fun v42 w_27 =>
 kStore (cR Try.prog R) w_27 3 v42 (.int .i64 1) fun w_28 =>
 kFa (cR Try.prog R) w_28 62 v4 2 fun v43 w_29 =>
 kStore (cR Try.prog R) w_29 27 v43 (.int .i64 2) fun w_30 =>
 kFa (cR Try.prog R) w_30 62 v4 3 fun v44 w_31 =>
 kStore (cR Try.prog R) w_31 27 v44 (.int .i64 2) fun w_32 =>
 kLoad (cR Try.prog R) w_32 62 v4 fun v63_3 w_33 =>
 kStore (cR Try.prog R) w_33 62 v2 v63_3 fun w_34 =>
 RetK Try.prog [.cell v2 62] R w_34) (
 kEq (cR Try.prog R) w_26 .eql 3 (.tmp 46) (.const (.int .i64 16)) (.int .i64 o) (.int .i64 16) fun v47 w_35 =>
 kIf v47 (
 kFa (cR Try.prog R) w_35 62 v4 1 fun v48 w_36 =>
 kStore (cR Try.prog R) w_36 3 v48 (.int .i64 1) fun w_37 =>
 kFa (cR Try.prog R) w_37 62 v4 2 fun v49 w_38 =>
 kStore (cR Try.prog R) w_38 27 v49 (.int .i64 1) fun w_39 =>
 kLoad (cR Try.prog R) w_39 62 v4 fun v63_4 w_40 =>
 kStore (cR Try.prog R) w_40 62 v2 v63_4 fun w_41 =>
 RetK Try.prog [.cell v2 62] R w_41) (
 kJn (fun J_3 =>
 kEq (cR Try.prog R) w_35 .eql 3 (.tmp 51) (.const (.int .i64 17)) (.int .i64 o) (.int .i64 17) fun v52 w_56 =>
 kIf v52 (
 kD [] [] (J_3 [(.bool true)] w_56)) (
 kEq (cR Try.prog R) w_56 .eql 3 (.tmp 54) (.const (.int .i64 18)) (.int .i64 o) (.int .i64 18) fun v55 w_57 =>
 kD [] [] (J_3 [v55] w_57))) (fun cs_3 w_42 => ∀ ds_3 : List Value,
 (fun j50 =>
 kIf j50 (
 kFa (cR Try.prog R) w_42 62 v4 1 fun v57 w_43 =>
 kStore (cR Try.prog R) w_43 3 v57 (.int .i64 1) fun w_44 =>
 kLoad (cR Try.prog R) w_44 62 v4 fun v63_5 w_45 =>
 kStore (cR Try.prog R) w_45 62 v2 v63_5 fun w_46 =>
 RetK Try.prog [.cell v2 62] R w_46) (
 kEq (cR Try.prog R) w_42 .eql 3 (.tmp 59) (.const (.int .i64 19)) (.int .i64 o) (.int .i64 19) fun v60 w_47 =>
 kIf v60 (
 kFa (cR Try.prog R) w_47 62 v4 1 fun v61 w_48 =>
 kStore (cR Try.prog R) w_48 3 v61 (.int .i64 1) fun w_49 =>
 kFa (cR Try.prog R) w_49 62 v4 3 fun v62 w_50 =>
 kStore (cR Try.prog R) w_50 27 v62 (.int .i64 2) fun w_51 =>
 kLoad (cR Try.prog R) w_51 62 v4 fun v63_6 w_52 =>
 kStore (cR Try.prog R) w_52 62 v2 v63_6 fun w_53 =>
 RetK Try.prog [.cell v2 62] R w_53) (
 kLoad (cR Try.prog R) w_47 62 v4 fun v63_7 w_54 =>
 kStore (cR Try.prog R) w_54 62 v2 v63_7 fun w_55 =>
 RetK Try.prog [.cell v2 62] R w_55))) (cs_3.getD 0 undef))))) (cs_2.getD 0 undef)))) (cs_1.getD 0 undef)))))
theorem c31 (o : Int) (R : Ending → World → Prop) (w : World) (h : vc31 o R w) : Calls Try.prog 31 #[(.int .i64 o)] w R :=
  calls_of_vc (A := { loops := [(1000016, [50]), (1000012, [35]), (1000010, [27]), (1000003, [])], pars := [] }) (Eq.mpr (show FnVc Try.prog { loops := [(1000016, [50]), (1000012, [35]), (1000010, [27]), (1000003, [])], pars := [] } 64 31 [(.int .i64 o)] R w = vc31 o R w by kernel_rfl) h)

/-- loupe/loupelaw11.of -/
def vc32 (n : Int) (R : Ending → World → Prop) (w : World) : Prop :=
 kAlloc (cR Try.prog R) w 49 fun v2 w_1 =>
 kBuild (cR Try.prog R) w_1 49 #[(0, (.int .i64 2)), (1, (.int .i64 n))] fun v4 w_2 =>
 kStore (cR Try.prog R) w_2 49 v2 v4 fun w_3 =>
 RetK Try.prog [.cell v2 49] R w_3
theorem c32 (n : Int) (R : Ending → World → Prop) (w : World) (h : vc32 n R w) : Calls Try.prog 32 #[(.int .i64 n)] w R :=
  calls_of_vc (A := { loops := [], pars := [] }) (Eq.mpr (show FnVc Try.prog { loops := [], pars := [] } 5 32 [(.int .i64 n)] R w = vc32 n R w by kernel_rfl) h)

/-- loupe/row.Width -/
def vc33 (row : Option Addr) (rown : Nat) (rowc : Nat) (R : Ending → World → Prop) (w : World) : Prop :=
 kCall (cR Try.prog R) w 18 #[(.slice row rown rowc)] fun v7 w_1 =>
 kExt v7 0 fun v8 =>
 kExt v7 1 fun v9 =>
 kBlt (cR Try.prog R) w_1 .len #[38] 3 #[false] #[v8] fun v11 w_2 =>
 R (.returned v11) w_2
theorem c33 (row : Option Addr) (rown : Nat) (rowc : Nat) (R : Ending → World → Prop) (w : World) (h : vc33 row rown rowc R w) : Calls Try.prog 33 #[(.slice row rown rowc)] w R :=
  calls_of_vc (A := { loops := [], pars := [] }) (Eq.mpr (show FnVc Try.prog { loops := [], pars := [] } 12 33 [(.slice row rown rowc)] R w = vc33 row rown rowc R w by kernel_rfl) h)

/-- loupe/row.picked[loupe/api.Value] -/
def vc34 (l : Option Addr) (ln : Nat) (lc : Nat) (atA : Option Addr) (atAn : Nat) (atAc : Nat) (R : Ending → World → Prop) (w : World) : Prop :=
 kBlt (cR Try.prog R) w .len #[23] 3 #[false] #[(.slice atA atAn atAc)] fun v9 w_1 =>
 kLoopF [(.slice none 0 0), (.int .i64 0)] w_1 fun cs ds w_2 N =>
 (fun x4 x10 =>
 kBin (cR Try.prog R) w_2 .lss 3 x10 v9 fun v11 w_3 =>
 kIf v11 (
 kIa (cR Try.prog R) w_3 23 (.slice atA atAn atAc) x10 fun v12 w_4 =>
 kLoad (cR Try.prog R) w_4 3 v12 fun v13 w_5 =>
 kJn (fun J =>
 kBin (cR Try.prog R) w_5 .lss 3 v13 (.int .i64 0) fun v15 w_12 =>
 kIf v15 (
 kIf (.bool true) (
 R (.returned (.tuple #[(.slice none 0 0), (.bool false)])) w_12) (
 kD [] [] (J [x4] w_12))) (
 kBlt (cR Try.prog R) w_12 .len #[22] 3 #[false] #[(.slice l ln lc)] fun v19 w_13 =>
 kBin (cR Try.prog R) w_13 .geq 3 v13 v19 fun v20 w_14 =>
 kIf v20 (
 R (.returned (.tuple #[(.slice none 0 0), (.bool false)])) w_14) (
 kD [] [] (J [x4] w_14)))) (fun cs_1 w_6 => ∀ ds_1 : List Value,
 (fun j4 =>
 kIa (cR Try.prog R) w_6 22 (.slice l ln lc) v13 fun v25 w_7 =>
 kLoad (cR Try.prog R) w_7 49 v25 fun v26 w_8 =>
 kBuildS (cR Try.prog R) w_8 22 1 #[(0, v26)] fun v27 w_9 =>
 kBlt (cR Try.prog R) w_9 .append #[22, 22] 22 #[false, false] #[j4, v27] fun v28 w_10 =>
 kBin (cR Try.prog R) w_10 .add 3 x10 (.int .i64 1) fun v29 w_11 =>
 kD [] [] (N [v28, v29] w_11)) (cs_1.getD 0 undef))) (
 R (.returned (.tuple #[x4, (.bool true)])) w_3)) (cs.getD 0 undef) (cs.getD 1 undef)
theorem c34 (l : Option Addr) (ln : Nat) (lc : Nat) (atA : Option Addr) (atAn : Nat) (atAc : Nat) (R : Ending → World → Prop) (w : World) (h : vc34 l ln lc atA atAn atAc R w) : Calls Try.prog 34 #[(.slice l ln lc), (.slice atA atAn atAc)] w R :=
  calls_of_vc (A := { loops := [(1000006, [4]), (0, [4, 10])], pars := [] }) (Eq.mpr (show FnVc Try.prog { loops := [(1000006, [4]), (0, [4, 10])], pars := [] } 31 34 [(.slice l ln lc), (.slice atA atAn atAc)] R w = vc34 l ln lc atA atAn atAc R w by kernel_rfl) h)

/-- loupe/louperef10.Same -/
def vc35 (a : Option Addr) (an : Nat) (ac : Nat) (b : Option Addr) (bn : Nat) (bc : Nat) (R : Ending → World → Prop) (w : World) : Prop :=
 kCall (cR Try.prog R) w 76 #[(.slice a an ac), (.slice b bn bc)] fun v7 w_1 =>
 kEq (cR Try.prog R) w_1 .eql 3 (.tmp 7) (.const (.int .i64 0)) v7 (.int .i64 0) fun v8 w_2 =>
 R (.returned v8) w_2
theorem c35 (a : Option Addr) (an : Nat) (ac : Nat) (b : Option Addr) (bn : Nat) (bc : Nat) (R : Ending → World → Prop) (w : World) (h : vc35 a an ac b bn bc R w) : Calls Try.prog 35 #[(.slice a an ac), (.slice b bn bc)] w R :=
  calls_of_vc (A := { loops := [], pars := [] }) (Eq.mpr (show FnVc Try.prog { loops := [], pars := [] } 9 35 [(.slice a an ac), (.slice b bn bc)] R w = vc35 a an ac b bn bc R w by kernel_rfl) h)

/-- slices.EqualFunc[[]loupe/api.Value,[]loupe/api.Type,loupe/api.Value,loupe/api.Type] -/
def vc36 (s1 : Option Addr) (s1n : Nat) (s1c : Nat) (s2 : Option Addr) (s2n : Nat) (s2c : Nat) (eq : Value) (R : Ending → World → Prop) (w : World) : Prop :=
 kBlt (cR Try.prog R) w .len #[22] 3 #[false] #[(.slice s1 s1n s1c)] fun v11 w_1 =>
 kBlt (cR Try.prog R) w_1 .len #[24] 3 #[false] #[(.slice s2 s2n s2c)] fun v13 w_2 =>
 kEq (cR Try.prog R) w_2 .neq 3 (.tmp 11) (.tmp 13) v11 v13 fun v14 w_3 =>
 kIf v14 (
 R (.returned (.bool false)) w_3) (
 kBlt (cR Try.prog R) w_3 .len #[22] 3 #[false] #[(.slice s1 s1n s1c)] fun v16 w_4 =>
 kLoopF [(.int .i64 0)] w_4 fun cs ds w_5 N =>
 (fun x17 =>
 kBin (cR Try.prog R) w_5 .lss 3 x17 v16 fun v18 w_6 =>
 kIf v18 (
 kIa (cR Try.prog R) w_6 22 (.slice s1 s1n s1c) x17 fun v20 w_7 =>
 kLoad (cR Try.prog R) w_7 49 v20 fun v21 w_8 =>
 kAlloc (cR Try.prog R) w_8 49 fun v8 w_9 =>
 kStore (cR Try.prog R) w_9 49 v8 v21 fun w_10 =>
 kIa (cR Try.prog R) w_10 24 (.slice s2 s2n s2c) x17 fun v24 w_11 =>
 kLoad (cR Try.prog R) w_11 27 v24 fun v25 w_12 =>
 kLoad (cR Try.prog R) w_12 49 v8 fun v27 w_13 =>
 kCallV (cR Try.prog R) w_13 eq #[v27, v25] fun v29 w_14 =>
 kUn (cR Try.prog R) w_14 .not v29 fun v30 w_15 =>
 kIf v30 (
 R (.returned (.bool false)) w_15) (
 kBin (cR Try.prog R) w_15 .add 3 x17 (.int .i64 1) fun v31 w_16 =>
 kD [] [] (N [v31] w_16))) (
 R (.returned (.bool true)) w_6)) (cs.getD 0 undef))
theorem c36 (s1 : Option Addr) (s1n : Nat) (s1c : Nat) (s2 : Option Addr) (s2n : Nat) (s2c : Nat) (eq : Value) (R : Ending → World → Prop) (w : World) (h : vc36 s1 s1n s1c s2 s2n s2c eq R w) : Calls Try.prog 36 #[(.slice s1 s1n s1c), (.slice s2 s2n s2c), eq] w R :=
  calls_of_vc (A := { loops := [(0, [17])], pars := [] }) (Eq.mpr (show FnVc Try.prog { loops := [(0, [17])], pars := [] } 32 36 [(.slice s1 s1n s1c), (.slice s2 s2n s2c), eq] R w = vc36 s1 s1n s1c s2 s2n s2c eq R w by kernel_rfl) h)

/-- loupe/value.Is -/
def vc37 (v0 : Int) (v1 : Int) (v2 : ByteArray) (t : Int) (R : Ending → World → Prop) (w : World) : Prop :=
 kBox (cR Try.prog R) w 49 (.agg #[(.int .i64 v0), (.int .i64 v1), (.string v2)]) fun v2_1 w_1 =>
 kJn (fun J =>
 kBin (cR Try.prog R) w_1 .leq 27 (.int .i64 t) (.int .i64 0) fun v6 w_9 =>
 kIf v6 (
 kIf (.bool true) (
 R (.returned (.bool false)) w_9) (
 kD [] [] (J [] w_9))) (
 kBin (cR Try.prog R) w_9 .gtr 27 (.int .i64 t) (.int .i64 4) fun v9 w_10 =>
 kIf v9 (
 kIf (.bool true) (
 R (.returned (.bool false)) w_10) (
 kD [] [] (J [] w_10))) (
 kLoad (cR Try.prog R) w_10 49 v2_1 fun v12 w_11 =>
 kCall (cR Try.prog R) w_11 57 #[v12] fun v13 w_12 =>
 kEq (cR Try.prog R) w_12 .neq 28 (.tmp 13) (.const (.int .i64 0)) v13 (.int .i64 0) fun v14 w_13 =>
 kIf v14 (
 R (.returned (.bool false)) w_13) (
 kD [] [] (J [] w_13))))) (fun cs w_2 => ∀ ds : List Value,
 kFa (cR Try.prog R) w_2 49 v2_1 0 fun v16 w_3 =>
 kLoad (cR Try.prog R) w_3 47 v16 fun v17 w_4 =>
 kEq (cR Try.prog R) w_4 .eql 47 (.tmp 17) (.const (.int .i64 0)) v17 (.int .i64 0) fun v18 w_5 =>
 kIf v18 (
 R (.returned (.bool true)) w_5) (
 kFa (cR Try.prog R) w_5 49 v2_1 0 fun v20 w_6 =>
 kLoad (cR Try.prog R) w_6 47 v20 fun v21 w_7 =>
 kEq (cR Try.prog R) w_7 .eql 3 (.tmp 21) (.tmp 22) v21 (.int .i64 t) fun v23 w_8 =>
 R (.returned v23) w_8))
theorem c37 (v0 : Int) (v1 : Int) (v2 : ByteArray) (t : Int) (R : Ending → World → Prop) (w : World) (h : vc37 v0 v1 v2 t R w) : Calls Try.prog 37 #[(.agg #[(.int .i64 v0), (.int .i64 v1), (.string v2)]), (.int .i64 t)] w R :=
  calls_of_vc (A := { loops := [(1000003, [])], pars := [] }) (Eq.mpr (show FnVc Try.prog { loops := [(1000003, [])], pars := [] } 25 37 [(.agg #[(.int .i64 v0), (.int .i64 v1), (.string v2)]), (.int .i64 t)] R w = vc37 v0 v1 v2 t R w by kernel_rfl) h)

/-- loupe/louperef01.Is -/
def vc38 (v0 : Int) (v1 : Int) (v2 : ByteArray) (t : Int) (R : Ending → World → Prop) (w : World) : Prop :=
 kBox (cR Try.prog R) w 49 (.agg #[(.int .i64 v0), (.int .i64 v1), (.string v2)]) fun v2_1 w_1 =>
 kLoad (cR Try.prog R) w_1 49 v2_1 fun v5 w_2 =>
 kCall (cR Try.prog R) w_2 64 #[v5] fun v6 w_3 =>
 kEq (cR Try.prog R) w_3 .eql 3 (.tmp 6) (.const (.int .i64 0)) v6 (.int .i64 0) fun v7 w_4 =>
 kIf v7 (
 kBin (cR Try.prog R) w_4 .geq 3 (.int .i64 t) (.int .i64 1) fun v10 w_5 =>
 kIf v10 (
 kBin (cR Try.prog R) w_5 .leq 3 (.int .i64 t) (.int .i64 4) fun v14 w_6 =>
 kIf v14 (
 kFa (cR Try.prog R) w_6 49 v2_1 0 fun v17 w_7 =>
 kLoad (cR Try.prog R) w_7 47 v17 fun v18 w_8 =>
 kEq (cR Try.prog R) w_8 .eql 3 (.tmp 18) (.tmp 19) v18 (.int .i64 t) fun v20 w_9 =>
 kIf v20 (
 R (.returned (.bool true)) w_9) (
 kFa (cR Try.prog R) w_9 49 v2_1 0 fun v22 w_10 =>
 kLoad (cR Try.prog R) w_10 47 v22 fun v23 w_11 =>
 kEq (cR Try.prog R) w_11 .eql 3 (.tmp 23) (.const (.int .i64 0)) v23 (.int .i64 0) fun v24 w_12 =>
 R (.returned v24) w_12)) (
 R (.returned (.bool false)) w_6)) (
 R (.returned (.bool false)) w_5)) (
 R (.returned (.bool false)) w_4)
theorem c38 (v0 : Int) (v1 : Int) (v2 : ByteArray) (t : Int) (R : Ending → World → Prop) (w : World) (h : vc38 v0 v1 v2 t R w) : Calls Try.prog 38 #[(.agg #[(.int .i64 v0), (.int .i64 v1), (.string v2)]), (.int .i64 t)] w R :=
  calls_of_vc (A := { loops := [], pars := [] }) (Eq.mpr (show FnVc Try.prog { loops := [], pars := [] } 27 38 [(.agg #[(.int .i64 v0), (.int .i64 v1), (.string v2)]), (.int .i64 t)] R w = vc38 v0 v1 v2 t R w by kernel_rfl) h)

/-- loupe/row.Encode$1 -/
def vc40 (f0 : Value) (R : Ending → World → Prop) (w : World) : Prop :=
 kStore (cR Try.prog R) w 38 f0 (.slice none 0 0) fun w_1 =>
 R (.returned (.tuple #[])) w_1
theorem c40 (f0 : Value) (R : Ending → World → Prop) (w : World) (h : vc40 f0 R w) : Calls Try.prog 40 #[f0] w R :=
  calls_of_vc (A := { loops := [], pars := [] }) (Eq.mpr (show FnVc Try.prog { loops := [], pars := [] } 1 40 [f0] R w = vc40 f0 R w by kernel_rfl) h)

end Go.L
