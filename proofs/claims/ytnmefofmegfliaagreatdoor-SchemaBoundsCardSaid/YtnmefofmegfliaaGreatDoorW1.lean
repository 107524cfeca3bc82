/- The law's function and what it calls, walked: no condition but those that each states. -/
import Derived.Test.YtnmefofmegfliaaGreatDoorA1
import Derived.Test.YtnmefofmegfliaaGreatDoorProg
import Derived.Test.YtnmefofmegfliaaGreatDoorA2
import Derived.Laws.Slices
import Derived.Below
import Derived.Carry
import Derived.ChangeArms
import Derived.Deep.AppendLies
import Derived.Deep.MidRow
import Derived.Great.BuildSlice
import Derived.Laws.Build
import Derived.Laws.Tables
import Derived.ProofKit
import Derived.Tactics
import Derived.Tactics2
import Derived.WideMake
import Derived.Laws.Pointers
import Derived.Test.YtnmefofmegfliaaGreatDoorT0
import Derived.Test.YtnmefofmegfliaaGreatDoorE5
import Derived.Test.YtnmefofmegfliaaGreatDoorT3
import Derived.Test.YtnmefofmegfliaaGreatDoorB1
import Derived.Laws.Strings2
set_option linter.unusedVariables false
set_option linter.unusedSimpArgs false
set_option linter.unusedSectionVars false
namespace Go.L
open Go Go.RowKit Go.Proofs
set_option maxRecDepth 100000
set_option linter.unusedVariables false

/-- loupe/loupelaw21.SchemaBounds -/
def vc3 (things : Int) (columns : Int) (sources : Int) (R : Ending → World → Prop) (w : World) : Prop :=
 kJn (fun J =>
 kBin (cR Tryz.prog R) w .lss 3 (.int .i64 things) (.int .i64 1) fun v18 w_116 =>
 kIf v18 (
 kIf (.bool true) (
 kCall (cR Tryz.prog R) w_116 4 #[] fun v39 w_117 =>
 R (.returned v39) w_117) (
 kD [] [] (J [] w_116))) (
 kBin (cR Tryz.prog R) w_116 .gtr 3 (.int .i64 things) (.int .i64 70) fun v21 w_118 =>
 kIf v21 (
 kIf (.bool true) (
 kCall (cR Tryz.prog R) w_118 4 #[] fun v39_1 w_119 =>
 R (.returned v39_1) w_119) (
 kD [] [] (J [] w_118))) (
 kBin (cR Tryz.prog R) w_118 .lss 3 (.int .i64 columns) (.int .i64 1) fun v25 w_120 =>
 kIf v25 (
 kIf (.bool true) (
 kCall (cR Tryz.prog R) w_120 4 #[] fun v39_2 w_121 =>
 R (.returned v39_2) w_121) (
 kD [] [] (J [] w_120))) (
 kBin (cR Tryz.prog R) w_120 .gtr 3 (.int .i64 columns) (.int .i64 32) fun v29 w_122 =>
 kIf v29 (
 kIf (.bool true) (
 kCall (cR Tryz.prog R) w_122 4 #[] fun v39_3 w_123 =>
 R (.returned v39_3) w_123) (
 kD [] [] (J [] w_122))) (
 kBin (cR Tryz.prog R) w_122 .lss 3 (.int .i64 sources) (.int .i64 1) fun v33 w_124 =>
 kIf v33 (
 kIf (.bool true) (
 kCall (cR Tryz.prog R) w_124 4 #[] fun v39_4 w_125 =>
 R (.returned v39_4) w_125) (
 kD [] [] (J [] w_124))) (
 kBin (cR Tryz.prog R) w_124 .gtr 3 (.int .i64 sources) (.int .i64 5) fun v37 w_126 =>
 kIf v37 (
 kCall (cR Tryz.prog R) w_126 4 #[] fun v39_5 w_127 =>
 R (.returned v39_5) w_127) (
 kD [] [] (J [] w_126)))))))) (fun cs w_1 => ∀ ds : List Value,
 kCall (cR Tryz.prog R) w_1 5 #[] fun v40 w_2 =>
 kBuild (cR Tryz.prog R) w_2 61 #[(0, (.int .i64 3))] fun v41 w_3 =>
 kAlloc (cR Tryz.prog R) w_3 61 fun v9 w_4 =>
 kStore (cR Tryz.prog R) w_4 61 v9 v41 fun w_5 =>
 kLoopF [(.int .i64 0)] w_5 fun cs_1 ds_1 w_6 N =>
 (fun x10 =>
 kBin (cR Tryz.prog R) w_6 .lss 3 x10 (.int .i64 columns) fun v44 w_7 =>
 kIf v44 (
 kDrawn true (
 kDrawn true (
 kFa (cQ Tryz.prog) w_7 61 v9 3 fun v47 w_8 =>
 kFa (cQ Tryz.prog) w_8 52 v47 1 fun v48 w_9 =>
 kLoad (cQ Tryz.prog) w_9 49 v48 fun v49 w_10 =>
 kBin (cQ Tryz.prog) w_10 .rem 3 x10 (.int .i64 26) fun v52 w_11 =>
 kBin (cQ Tryz.prog) w_11 .rem 3 x10 (.int .i64 26) fun v54 w_12 =>
 kBin (cQ Tryz.prog) w_12 .add 3 v54 (.int .i64 1) fun v55 w_13 =>
 kSl (cQ Tryz.prog) w_13 9 (.string ⟨#[97, 98, 99, 100, 101, 102, 103, 104, 105, 106, 107, 108, 109, 110, 111, 112, 113, 114, 115, 116, 117, 118, 119, 120, 121, 122]⟩) (some v52) (some v55) none fun v56 w_14 =>
 kBin (cQ Tryz.prog) w_14 .add 9 (.string ⟨#[99]⟩) v56 fun v57 w_15 =>
 kBin (cQ Tryz.prog) w_15 .quo 3 x10 (.int .i64 26) fun v60 w_16 =>
 kBin (cQ Tryz.prog) w_16 .quo 3 x10 (.int .i64 26) fun v62 w_17 =>
 kBin (cQ Tryz.prog) w_17 .add 3 v62 (.int .i64 1) fun v63 w_18 =>
 kSl (cQ Tryz.prog) w_18 9 (.string ⟨#[97, 98, 99, 100, 101, 102, 103, 104, 105, 106, 107, 108, 109, 110, 111, 112, 113, 114, 115, 116, 117, 118, 119, 120, 121, 122]⟩) (some v60) (some v63) none fun v64 w_19 =>
 kBin (cQ Tryz.prog) w_19 .add 9 v57 v64 fun v65 w_20 =>
 kBuild (cQ Tryz.prog) w_20 67 #[(0, v65), (1, (.int .i64 2))] fun v66 w_21 =>
 kDrew w_21 fun w_22 =>
 (fun (c : Cx) =>
 kBuildS c w_22 49 1 #[(0, v66)] fun v67 w_23 =>
 kFa (cQ Tryz.prog) w_23 61 v9 3 fun v47_1 w_24 =>
 kSame v47_1 v47 (
 kFa (cQ Tryz.prog) w_23 52 v47 1 fun v48_1 w_25 =>
 kSame v48_1 v48 (
 kLoad (cQ Tryz.prog) w_23 49 v48 fun v49_1 w_26 =>
 kSame v49_1 v49 (
 kDrew w_23 fun w_27 =>
 kBlt c w_27 .append #[49, 49] 49 #[false, false] #[v49, v67] fun v68 w_28 =>
 kFa (cQ Tryz.prog) w_28 61 v9 3 fun v69 w_29 =>
 kFa (cQ Tryz.prog) w_29 52 v69 1 fun v70 w_30 =>
 kDrew w_30 fun w_31 =>
 kStore c w_31 49 v70 v68 fun w_32 =>
 kDrew w_32 fun w_33 =>
 kBin (cR Tryz.prog R) w_33 .add 3 x10 (.int .i64 1) fun v46 w_34 =>
 kD [] [] (N [v46] w_34))))) ⟨Tryz.prog, fun ch w => ∀ _ : List Value, R (.panicked ch) w, false⟩))) (
 kLoopF [(.int .i64 0)] w_7 fun cs_2 ds_2 w_35 N_1 =>
 (fun x11 =>
 kBin (cR Tryz.prog R) w_35 .lss 3 x11 (.int .i64 things) fun v73 w_36 =>
 kIf v73 (
 kDrawn true (
 kDrawn true (
 kBin (cQ Tryz.prog) w_36 .rem 3 x11 (.int .i64 26) fun v78 w_37 =>
 kBin (cQ Tryz.prog) w_37 .rem 3 x11 (.int .i64 26) fun v80 w_38 =>
 kBin (cQ Tryz.prog) w_38 .add 3 v80 (.int .i64 1) fun v81 w_39 =>
 kSl (cQ Tryz.prog) w_39 9 (.string ⟨#[97, 98, 99, 100, 101, 102, 103, 104, 105, 106, 107, 108, 109, 110, 111, 112, 113, 114, 115, 116, 117, 118, 119, 120, 121, 122]⟩) (some v78) (some v81) none fun v82 w_40 =>
 kBin (cQ Tryz.prog) w_40 .add 9 (.string ⟨#[116]⟩) v82 fun v83 w_41 =>
 kBin (cQ Tryz.prog) w_41 .quo 3 x11 (.int .i64 26) fun v86 w_42 =>
 kBin (cQ Tryz.prog) w_42 .quo 3 x11 (.int .i64 26) fun v88 w_43 =>
 kBin (cQ Tryz.prog) w_43 .add 3 v88 (.int .i64 1) fun v89 w_44 =>
 kSl (cQ Tryz.prog) w_44 9 (.string ⟨#[97, 98, 99, 100, 101, 102, 103, 104, 105, 106, 107, 108, 109, 110, 111, 112, 113, 114, 115, 116, 117, 118, 119, 120, 121, 122]⟩) (some v86) (some v89) none fun v90 w_45 =>
 kBin (cQ Tryz.prog) w_45 .add 9 v83 v90 fun v91 w_46 =>
 kFa (cQ Tryz.prog) w_46 61 v9 3 fun v92 w_47 =>
 kFa (cQ Tryz.prog) w_47 52 v92 0 fun v93 w_48 =>
 kDrew w_48 fun w_49 =>
 (fun (c_1 : Cx) =>
 kStore c_1 w_49 9 v93 v91 fun w_50 =>
 kDrew w_50 fun w_51 =>
 kLoad (cR Tryz.prog R) w_51 61 v9 fun v95 w_52 =>
 kCall (cR Tryz.prog R) w_52 7 #[v40, v95] fun v96 w_53 =>
 kCall (cR Tryz.prog R) w_53 6 #[v96] fun v97 w_54 =>
 kEq (cR Tryz.prog R) w_54 .eql 3 (.tmp 98) (.const (.int .i64 3)) v97 (.int .i64 3) fun v99 w_55 =>
 kBin (cR Tryz.prog R) w_55 .geq 3 x11 (.int .i64 60) fun v101 w_56 =>
 kEq (cR Tryz.prog R) w_56 .neq 4 (.tmp 99) (.tmp 101) v99 v101 fun v102 w_57 =>
 kIf v102 (
 kIf (.bool true) (
 R (.returned (.bool false)) w_57) (
 kBin (cR Tryz.prog R) w_57 .add 3 x11 (.int .i64 1) fun v75 w_58 =>
 kD [] [] (N_1 [v75] w_58))) (
 kBin (cR Tryz.prog R) w_57 .lss 3 x11 (.int .i64 60) fun v105 w_59 =>
 kIf v105 (
 kEq (cR Tryz.prog R) w_59 .neq 3 (.tmp 107) (.const (.int .i64 0)) v97 (.int .i64 0) fun v108 w_60 =>
 kIf v108 (
 R (.returned (.bool false)) w_60) (
 kBin (cR Tryz.prog R) w_60 .add 3 x11 (.int .i64 1) fun v75_1 w_61 =>
 kD [] [] (N_1 [v75_1] w_61))) (
 kIf (.bool false) (
 R (.returned (.bool false)) w_59) (
 kBin (cR Tryz.prog R) w_59 .add 3 x11 (.int .i64 1) fun v75_2 w_62 =>
 kD [] [] (N_1 [v75_2] w_62))))) ⟨Tryz.prog, fun ch w => ∀ _ : List Value, R (.panicked ch) w, false⟩))) (
 kBuild (cR Tryz.prog R) w_36 72 #[(0, (.bool true))] fun v111 w_63 =>
 kBuildS (cR Tryz.prog R) w_63 26 1 #[(0, v111)] fun v112 w_64 =>
 kBuild (cR Tryz.prog R) w_64 28 #[(0, (.string ⟨#[116, 97, 97]⟩)), (1, (.string ⟨#[120]⟩))] fun v113 w_65 =>
 kBuild (cR Tryz.prog R) w_65 40 #[(1, v112), (2, v113), (8, (.int .i64 (-1)))] fun v114 w_66 =>
 kAlloc (cR Tryz.prog R) w_66 40 fun v13 w_67 =>
 kStore (cR Tryz.prog R) w_67 40 v13 v114 fun w_68 =>
 kLoopF [(.int .i64 1)] w_68 fun cs_3 ds_3 w_69 N_2 =>
 (fun x14 =>
 kBin (cR Tryz.prog R) w_69 .lss 3 x14 (.int .i64 sources) fun v117 w_70 =>
 kIf v117 (
 kDrawn true (
 kDrawn true (
 kFa (cQ Tryz.prog) w_70 40 v13 3 fun v120 w_71 =>
 kLoad (cQ Tryz.prog) w_71 29 v120 fun v121 w_72 =>
 kBin (cQ Tryz.prog) w_72 .add 3 x14 (.int .i64 1) fun v125 w_73 =>
 kSl (cQ Tryz.prog) w_73 9 (.string ⟨#[97, 98, 99, 100, 101, 102, 103, 104, 105, 106, 107, 108, 109, 110, 111, 112, 113, 114, 115, 116, 117, 118, 119, 120, 121, 122]⟩) (some x14) (some v125) none fun v126 w_74 =>
 kBin (cQ Tryz.prog) w_74 .add 9 (.string ⟨#[120]⟩) v126 fun v127 w_75 =>
 kBuild (cQ Tryz.prog) w_75 28 #[(0, (.string ⟨#[116, 97, 97]⟩)), (1, v127)] fun v128 w_76 =>
 kBuild (cQ Tryz.prog) w_76 33 #[(0, (.int .i64 1)), (1, (.int .i64 1))] fun v129 w_77 =>
 kBuild (cQ Tryz.prog) w_77 37 #[(0, (.int .i64 1)), (1, v129)] fun v130 w_78 =>
 kBuild (cQ Tryz.prog) w_78 74 #[(0, v128), (1, v130)] fun v131 w_79 =>
 kDrew w_79 fun w_80 =>
 (fun (c_2 : Cx) =>
 kBuildS c_2 w_80 29 1 #[(0, v131)] fun v132 w_81 =>
 kFa (cQ Tryz.prog) w_81 40 v13 3 fun v120_1 w_82 =>
 kSame v120_1 v120 (
 kLoad (cQ Tryz.prog) w_81 29 v120 fun v121_1 w_83 =>
 kSame v121_1 v121 (
 kDrew w_81 fun w_84 =>
 kBlt c_2 w_84 .append #[29, 29] 29 #[false, false] #[v121, v132] fun v133 w_85 =>
 kDrew w_85 fun w_86 =>
 kFa (cR Tryz.prog R) w_86 40 v13 3 fun v134 w_87 =>
 kStore (cR Tryz.prog R) w_87 29 v134 v133 fun w_88 =>
 kBin (cR Tryz.prog R) w_88 .add 3 x14 (.int .i64 1) fun v119 w_89 =>
 kD [] [] (N_2 [v119] w_89)))) ⟨Tryz.prog, fun ch w => ∀ _ : List Value, R (.panicked ch) w, false⟩))) (
 kLoad (cR Tryz.prog R) w_70 40 v13 fun v137 w_90 =>
 kCall (cR Tryz.prog R) w_90 8 #[v40, v137] fun v138 w_91 =>
 kExt v138 0 fun v139 =>
 kExt v138 1 fun v140 =>
 kAlloc (cR Tryz.prog R) w_91 83 fun v15 w_92 =>
 kStore (cR Tryz.prog R) w_92 83 v15 v139 fun w_93 =>
 kBin (cR Tryz.prog R) w_93 .mul 3 (.int .i64 sources) (.int .i64 columns) fun v143 w_94 =>
 kBin (cR Tryz.prog R) w_94 .gtr 3 v143 (.int .i64 32) fun v144 w_95 =>
 kIf v144 (
 kCall (cR Tryz.prog R) w_95 6 #[v140] fun v146 w_96 =>
 kEq (cR Tryz.prog R) w_96 .eql 3 (.tmp 146) (.const (.int .i64 3)) v146 (.int .i64 3) fun v147 w_97 =>
 kIf v147 (
 kFa (cR Tryz.prog R) w_97 83 v15 5 fun v149 w_98 =>
 kLoad (cR Tryz.prog R) w_98 77 v149 fun v150 w_99 =>
 kBlt (cR Tryz.prog R) w_99 .len #[77] 3 #[false] #[v150] fun v151 w_100 =>
 kEq (cR Tryz.prog R) w_100 .eql 3 (.tmp 151) (.const (.int .i64 0)) v151 (.int .i64 0) fun v152 w_101 =>
 kIf v152 (
 kCall (cR Tryz.prog R) w_101 4 #[] fun v155 w_102 =>
 R (.returned v155) w_102) (
 R (.returned (.bool false)) w_101)) (
 R (.returned (.bool false)) w_97)) (
 kCall (cR Tryz.prog R) w_95 6 #[v140] fun v158 w_103 =>
 kEq (cR Tryz.prog R) w_103 .eql 3 (.tmp 158) (.const (.int .i64 0)) v158 (.int .i64 0) fun v159 w_104 =>
 kIf v159 (
 kFa (cR Tryz.prog R) w_104 83 v15 5 fun v161 w_105 =>
 kLoad (cR Tryz.prog R) w_105 77 v161 fun v162 w_106 =>
 kBlt (cR Tryz.prog R) w_106 .len #[77] 3 #[false] #[v162] fun v163 w_107 =>
 kBin (cR Tryz.prog R) w_107 .mul 3 (.int .i64 sources) (.int .i64 columns) fun v166 w_108 =>
 kEq (cR Tryz.prog R) w_108 .eql 3 (.tmp 163) (.tmp 166) v163 v166 fun v167 w_109 =>
 kIf v167 (
 kFa (cR Tryz.prog R) w_109 83 v15 1 fun v170 w_110 =>
 kLoad (cR Tryz.prog R) w_110 76 v170 fun v171 w_111 =>
 kBlt (cR Tryz.prog R) w_111 .len #[76] 3 #[false] #[v171] fun v172 w_112 =>
 kBin (cR Tryz.prog R) w_112 .mul 3 (.int .i64 sources) (.int .i64 columns) fun v175 w_113 =>
 kEq (cR Tryz.prog R) w_113 .eql 3 (.tmp 172) (.tmp 175) v172 v175 fun v176 w_114 =>
 kIf v176 (
 kCall (cR Tryz.prog R) w_114 4 #[] fun v179 w_115 =>
 R (.returned v179) w_115) (
 R (.returned (.bool false)) w_114)) (
 R (.returned (.bool false)) w_109)) (
 R (.returned (.bool false)) w_104)))) (cs_3.getD 0 undef))) (cs_2.getD 0 undef))) (cs_1.getD 0 undef))
theorem c3 (things : Int) (columns : Int) (sources : Int) (R : Ending → World → Prop) (w : World) (h : vc3 things columns sources R w) : Calls Tryz.prog 3 #[(.int .i64 things), (.int .i64 columns), (.int .i64 sources)] w R :=
  calls_of_vc (A := { loops := [(4, [14]), (2, [11]), (0, [10]), (1000003, [])], pars := [], chs := [(9, (.q 0 (.q 1 (.q 2 (.q 3 (.q 4 (.q 5 (.q 6 (.q 7 (.q 8 (.q 9 (.q 10 (.q 11 (.q 12 (.q 13 (.q 14 (.q 15 (.q 16 (.q 17 (.q 18 (.q 19 (.e 20 (.e 21 (.q 22 (.q 23 (.e 24 .done)))))))))))))))))))))))))), (13, (.q 0 (.q 1 (.q 2 (.q 3 (.q 4 (.q 5 (.q 6 (.q 7 (.q 8 (.q 9 (.q 10 (.q 11 (.q 12 (.q 13 (.q 14 (.q 15 (.q 16 (.q 17 (.e 18 .done)))))))))))))))))))), (21, (.q 0 (.q 1 (.q 2 (.q 3 (.q 4 (.q 5 (.q 6 (.q 7 (.q 8 (.q 9 (.q 10 (.q 11 (.e 12 (.e 13 .done)))))))))))))))] }) (Eq.mpr (show FnVc Tryz.prog { loops := [(4, [14]), (2, [11]), (0, [10]), (1000003, [])], pars := [], chs := [(9, (.q 0 (.q 1 (.q 2 (.q 3 (.q 4 (.q 5 (.q 6 (.q 7 (.q 8 (.q 9 (.q 10 (.q 11 (.q 12 (.q 13 (.q 14 (.q 15 (.q 16 (.q 17 (.q 18 (.q 19 (.e 20 (.e 21 (.q 22 (.q 23 (.e 24 .done)))))))))))))))))))))))))), (13, (.q 0 (.q 1 (.q 2 (.q 3 (.q 4 (.q 5 (.q 6 (.q 7 (.q 8 (.q 9 (.q 10 (.q 11 (.q 12 (.q 13 (.q 14 (.q 15 (.q 16 (.q 17 (.e 18 .done)))))))))))))))))))), (21, (.q 0 (.q 1 (.q 2 (.q 3 (.q 4 (.q 5 (.q 6 (.q 7 (.q 8 (.q 9 (.q 10 (.q 11 (.e 12 (.e 13 .done)))))))))))))))] } 181 3 [(.int .i64 things), (.int .i64 columns), (.int .i64 sources)] R w = vc3 things columns sources R w by kernel_rfl) h)

/-- loupe/schema.New -/
def vc5  (R : Ending → World → Prop) (w : World) : Prop :=
 kBuild (cR Tryz.prog R) w 96 #[(1, (.bool true))] fun v1 w_1 =>
 kBox (cR Tryz.prog R) w_1 96 v1 fun v2 w_2 =>
 R (.returned v2) w_2
theorem c5  (R : Ending → World → Prop) (w : World) (h : vc5  R w) : Calls Tryz.prog 5 #[] w R :=
  calls_of_vc (A := { loops := [], pars := [] }) (Eq.mpr (show FnVc Tryz.prog { loops := [], pars := [] } 3 5 [] R w = vc5  R w by kernel_rfl) h)

/-- loupe/loupelaw21.num -/
def vc6 (eA : Int) (R : Ending → World → Prop) (w : World) : Prop :=
 R (.returned (.int .i64 eA)) w
theorem c6 (eA : Int) (R : Ending → World → Prop) (w : World) (h : vc6 eA R w) : Calls Tryz.prog 6 #[(.int .i64 eA)] w R :=
  calls_of_vc (A := { loops := [], pars := [] }) (Eq.mpr (show FnVc Tryz.prog { loops := [], pars := [] } 4 6 [(.int .i64 eA)] R w = vc6 eA R w by kernel_rfl) h)

/-- (*loupe/schema.Schema).Do -/
def vc7 (s : Value) (x : Value) (R : Ending → World → Prop) (w : World) : Prop :=
 kBox (cR Tryz.prog R) w 61 x fun v3 w_1 =>
 kAlloc (cR Tryz.prog R) w_1 69 fun v4 w_2 =>
 (fun (c : Cx) =>
 kCall c w_2 15 #[s] fun v11 w_3 =>
 kUn c w_3 .not v11 fun v12 w_4 =>
 kCall c w_4 14 #[v12, (.int .i64 1)] fun v13 w_5 =>
 kLoad c w_5 61 v3 fun v14 w_6 =>
 kCall c w_6 16 #[v14] fun v15 w_7 =>
 kEq c w_7 .eql 69 (.tmp 15) (.const (.int .i64 0)) v15 (.int .i64 0) fun v16 w_8 =>
 kCall c w_8 14 #[v16, (.int .i64 2)] fun v17 w_9 =>
 kDrawn true (
 kDrawn true (
 kFa (cQ Tryz.prog) w_9 61 v3 0 fun v20 w_10 =>
 kLoad (cQ Tryz.prog) w_10 25 v20 fun v21 w_11 =>
 kDrew w_11 fun w_12 =>
 (fun (c_1 : Cx) =>
 kCall c_1 w_12 17 #[] fun v19 w_13 =>
 kFa (cQ Tryz.prog) w_13 61 v3 0 fun v20_1 w_14 =>
 kSame v20_1 v20 (
 kLoad (cQ Tryz.prog) w_13 25 v20 fun v21_1 w_15 =>
 kSame v21_1 v21 (
 kLook (cQ Tryz.prog) w_13 102 v19 v21 true fun v22 w_16 =>
 kExt v22 0 fun v23 =>
 kExt v22 1 fun v24 =>
 kDrew w_16 fun w_17 =>
 kIf v24 (
 kFa c w_17 61 v3 7 fun v29 w_18 =>
 kLoad c w_18 9 v29 fun v30 w_19 =>
 kCallV c w_19 v23 #[s, v30] fun v31 w_20 =>
 kNil c w_20 s fun v32 w_21 =>
 kFa c w_21 96 v32 0 fun v33 w_22 =>
 kStore c w_22 94 v33 v31 fun w_23 =>
 kStore c w_23 69 v4 (.int .i64 0) fun w_24 =>
 Lv Tryz.prog [.cell v4 69] R [{ target := .fn (.func 12) #[], args := #[v4, (.func (.func 13) #[] #[])] }] .returning w_24) (
 kDrawn true (
 kDrawn true (
 kJn (fun J =>
 kFa (cQ Tryz.prog) w_17 61 v3 0 fun v36 w_25 =>
 kLoad (cQ Tryz.prog) w_25 25 v36 fun v37 w_26 =>
 kBoth (
 kDrew w_26 fun w_27 =>
 kCall c_1 w_27 18 #[] fun v35 w_28 =>
 kFa (cQ Tryz.prog) w_28 61 v3 0 fun v36_1 w_29 =>
 kSame v36_1 v36 (
 kLoad (cQ Tryz.prog) w_28 25 v36 fun v37_1 w_30 =>
 kSame v37_1 v37 (
 kLook (cQ Tryz.prog) w_28 109 v35 v37 true fun v38 w_31 =>
 kExt v38 0 fun v39 =>
 kExt v38 1 fun v40 =>
 kDrew w_31 fun w_32 =>
 kAlloc c_1 w_32 107 fun v7 w_33 =>
 kFa (cQ Tryz.prog) w_33 61 v3 0 fun v36_2 w_34 =>
 kSame v36_2 v36 (
 kLoad (cQ Tryz.prog) w_33 25 v36 fun v37_2 w_35 =>
 kSame v37_2 v37 (
 kLook (cQ Tryz.prog) w_33 109 v35 v37 true fun v38_1 w_36 =>
 kSame v38_1 v38 (
 kDrew w_33 fun w_37 =>
 kStore c_1 w_37 107 v7 v39 fun w_38 =>
 kDrew w_38 fun w_39 => J [v35, v36, v37, v38, v38, v39, v40, v7, undef] w_39)))))) (
 kDrew w_26 fun w_40 =>
 kAlloc c_1 w_40 107 fun v7_1 w_41 =>
 kFa (cQ Tryz.prog) w_41 61 v3 0 fun v36_3 w_42 =>
 kSame v36_3 v36 (
 kLoad (cQ Tryz.prog) w_41 25 v36 fun v37_3 w_43 =>
 kSame v37_3 v37 (
 kDrew w_41 fun w_44 =>
 kCall c_1 w_44 18 #[] fun v35_1 w_45 =>
 kFa (cQ Tryz.prog) w_45 61 v3 0 fun v36_4 w_46 =>
 kSame v36_4 v36 (
 kLoad (cQ Tryz.prog) w_45 25 v36 fun v37_4 w_47 =>
 kSame v37_4 v37 (
 kLook (cQ Tryz.prog) w_45 109 v35_1 v37 true fun v38_2 w_48 =>
 kExt v38_2 0 fun v39_1 =>
 kExt v38_2 1 fun v40_1 =>
 kDrew w_48 fun w_49 =>
 kStore c_1 w_49 107 v7_1 v39_1 fun w_50 =>
 kDrew w_50 fun w_51 => J [v35_1, v36, v37, v38_2, v38_2, v39_1, v40_1, v7_1, undef] w_51)))))) (fun cs w_52 =>
 (fun g6 g7 =>
 (fun (c_2 : Cx) =>
 kCall c_2 w_52 14 #[g6, (.int .i64 2)] fun v42 w_53 =>
 kDrawn true (
 kDrawn true (
 kNil (cQ Tryz.prog) w_53 s fun v44 w_54 =>
 kFa (cQ Tryz.prog) w_54 96 v44 0 fun v45 w_55 =>
 kLoad (cQ Tryz.prog) w_55 94 v45 fun v46 w_56 =>
 kFa (cQ Tryz.prog) w_56 107 g7 0 fun v47 w_57 =>
 kLoad (cQ Tryz.prog) w_57 104 v47 fun v48 w_58 =>
 kFa (cQ Tryz.prog) w_58 107 g7 1 fun v49 w_59 =>
 kLoad (cQ Tryz.prog) w_59 105 v49 fun v50 w_60 =>
 kLoad (cQ Tryz.prog) w_60 61 v3 fun v51 w_61 =>
 kDrew w_61 fun w_62 =>
 (fun (c_3 : Cx) =>
 kCallV c_3 w_62 v50 #[v51] fun v52 w_63 =>
 kFa (cQ Tryz.prog) w_63 96 v44 0 fun v45_1 w_64 =>
 kSame v45_1 v45 (
 kLoad (cQ Tryz.prog) w_63 94 v45 fun v46_1 w_65 =>
 kSame v46_1 v46 (
 kFa (cQ Tryz.prog) w_63 107 g7 0 fun v47_1 w_66 =>
 kSame v47_1 v47 (
 kLoad (cQ Tryz.prog) w_63 104 v47 fun v48_1 w_67 =>
 kSame v48_1 v48 (
 kDrew w_63 fun w_68 =>
 kCall c_3 w_68 19 #[v46, v48, v52] fun v53 w_69 =>
 kBin (cQ Tryz.prog) w_69 .lss 3 v53 (.int .i64 0) fun v54 w_70 =>
 kDrew w_70 fun w_71 =>
 kCall c_3 w_71 14 #[v54, (.int .i64 310)] fun v55 w_72 =>
 kDrew w_72 fun w_73 =>
 kNil c_2 w_73 s fun v57 w_74 =>
 kFa c_2 w_74 96 v57 0 fun v58 w_75 =>
 kLoad c_2 w_75 94 v58 fun v59 w_76 =>
 kBlt c_2 w_76 .len #[94] 3 #[false] #[v59] fun v60 w_77 =>
 kBin c_2 w_77 .lss 3 v60 (.int .i64 60) fun v61 w_78 =>
 kCall c_2 w_78 14 #[v61, (.int .i64 3)] fun v62 w_79 =>
 kDrawn true (
 kDrawn true (
 kJn (fun J_1 =>
 kFa (cQ Tryz.prog) w_79 107 g7 2 fun v63 w_80 =>
 kLoad (cQ Tryz.prog) w_80 106 v63 fun v64 w_81 =>
 kLoad (cQ Tryz.prog) w_81 61 v3 fun v66 w_82 =>
 kBoth (
 kDrew w_82 fun w_83 =>
 kCall c_3 w_83 20 #[v66] fun v67 w_84 =>
 kFa (cQ Tryz.prog) w_84 107 g7 2 fun v63_1 w_85 =>
 kSame v63_1 v63 (
 kLoad (cQ Tryz.prog) w_84 106 v63 fun v64_1 w_86 =>
 kSame v64_1 v64 (
 kBoth (
 kDrew w_84 fun w_87 =>
 kCallV c_3 w_87 v64 #[s, v67] fun v68 w_88 =>
 kDrew w_88 fun w_89 =>
 kAlloc c_3 w_89 113 fun v9 w_90 =>
 kDrew w_90 fun w_91 => J_1 [v63, v64, s, v66, v67, v68, v9] w_91) (
 kDrew w_84 fun w_92 =>
 kAlloc c_3 w_92 113 fun v9_1 w_93 =>
 kFa (cQ Tryz.prog) w_93 107 g7 2 fun v63_2 w_94 =>
 kSame v63_2 v63 (
 kLoad (cQ Tryz.prog) w_93 106 v63 fun v64_2 w_95 =>
 kSame v64_2 v64 (
 kDrew w_93 fun w_96 =>
 kCallV c_3 w_96 v64 #[s, v67] fun v68_1 w_97 =>
 kDrew w_97 fun w_98 => J_1 [v63, v64, s, v66, v67, v68_1, v9_1] w_98)))))) (
 kDrew w_82 fun w_99 =>
 kAlloc c_3 w_99 113 fun v9_2 w_100 =>
 kFa (cQ Tryz.prog) w_100 107 g7 2 fun v63_3 w_101 =>
 kSame v63_3 v63 (
 kLoad (cQ Tryz.prog) w_100 106 v63 fun v64_3 w_102 =>
 kSame v64_3 v64 (
 kLoad (cQ Tryz.prog) w_100 61 v3 fun v66_1 w_103 =>
 kSame v66_1 v66 (
 kDrew w_100 fun w_104 =>
 kCall c_3 w_104 20 #[v66] fun v67_1 w_105 =>
 kFa (cQ Tryz.prog) w_105 107 g7 2 fun v63_4 w_106 =>
 kSame v63_4 v63 (
 kLoad (cQ Tryz.prog) w_105 106 v63 fun v64_4 w_107 =>
 kSame v64_4 v64 (
 kDrew w_105 fun w_108 =>
 kCallV c_3 w_108 v64 #[s, v67_1] fun v68_2 w_109 =>
 kDrew w_109 fun w_110 => J_1 [v63, v64, s, v66, v67_1, v68_2, v9_2] w_110))))))) (fun cs_1 w_111 =>
 (fun g5_1 g6_1 =>
 (fun (c_4 : Cx) =>
 kStore c_4 w_111 113 g6_1 g5_1 fun w_112 =>
 kDrawn true (
 kDrawn true (
 kFa (cQ Tryz.prog) w_112 107 g7 0 fun v69 w_113 =>
 kLoad (cQ Tryz.prog) w_113 104 v69 fun v70 w_114 =>
 kFa (cQ Tryz.prog) w_114 107 g7 1 fun v71 w_115 =>
 kLoad (cQ Tryz.prog) w_115 105 v71 fun v72 w_116 =>
 kLoad (cQ Tryz.prog) w_116 61 v3 fun v73 w_117 =>
 kFa (cQ Tryz.prog) w_117 113 g6_1 1 fun v75 w_118 =>
 kDrew w_118 fun w_119 =>
 (fun (c_5 : Cx) =>
 kCallV c_5 w_119 v72 #[v73] fun v74 w_120 =>
 kFa (cQ Tryz.prog) w_120 107 g7 0 fun v69_1 w_121 =>
 kSame v69_1 v69 (
 kLoad (cQ Tryz.prog) w_120 104 v69 fun v70_1 w_122 =>
 kSame v70_1 v70 (
 kFa (cQ Tryz.prog) w_120 113 g6_1 1 fun v75_1 w_123 =>
 kSame v75_1 v75 (
 kDrew w_120 fun w_124 =>
 kStore c_5 w_124 104 v75 v70 fun w_125 =>
 kDrew w_125 fun w_126 =>
 kFa c_4 w_126 113 g6_1 2 fun v76 w_127 =>
 kStore c_4 w_127 9 v76 v74 fun w_128 =>
 kDrawn true (
 kDrawn true (
 kJn (fun J_2 =>
 kNil (cQ Tryz.prog) w_128 s fun v79 w_129 =>
 kFa (cQ Tryz.prog) w_129 96 v79 0 fun v80 w_130 =>
 kLoad (cQ Tryz.prog) w_130 94 v80 fun v81 w_131 =>
 kLoad (cQ Tryz.prog) w_131 113 g6_1 fun v83 w_132 =>
 kBoth (
 kDrew w_132 fun w_133 =>
 kCall c_5 w_133 21 #[v81] fun v82 w_134 =>
 kLoad (cQ Tryz.prog) w_134 113 g6_1 fun v83_1 w_135 =>
 kSame v83_1 v83 (
 kDrew w_134 fun w_136 =>
 kBuildS c_5 w_136 94 1 #[(0, v83)] fun v84 w_137 =>
 kDrew w_137 fun w_138 =>
 kBlt c_5 w_138 .append #[94, 94] 94 #[false, false] #[v82, v84] fun v85 w_139 =>
 kNil (cQ Tryz.prog) w_139 s fun v86 w_140 =>
 kFa (cQ Tryz.prog) w_140 96 v86 0 fun v87 w_141 =>
 kDrew w_141 fun w_142 =>
 kStore c_5 w_142 94 v87 v85 fun w_143 =>
 kDrew w_143 fun w_144 => J_2 [s, s, v79, v80, v81, v82, v83, v84, v85, v86, v87, undef] w_144)) (
 kDrew w_132 fun w_145 =>
 kBuildS c_5 w_145 94 1 #[(0, v83)] fun v84_1 w_146 =>
 kFa (cQ Tryz.prog) w_146 96 v79 0 fun v80_1 w_147 =>
 kSame v80_1 v80 (
 kLoad (cQ Tryz.prog) w_146 94 v80 fun v81_1 w_148 =>
 kSame v81_1 v81 (
 kDrew w_146 fun w_149 =>
 kCall c_5 w_149 21 #[v81] fun v82_1 w_150 =>
 kDrew w_150 fun w_151 =>
 kBlt c_5 w_151 .append #[94, 94] 94 #[false, false] #[v82_1, v84_1] fun v85_1 w_152 =>
 kNil (cQ Tryz.prog) w_152 s fun v86_1 w_153 =>
 kFa (cQ Tryz.prog) w_153 96 v86_1 0 fun v87_1 w_154 =>
 kDrew w_154 fun w_155 =>
 kStore c_5 w_155 94 v87_1 v85_1 fun w_156 =>
 kDrew w_156 fun w_157 => J_2 [s, s, v79, v80, v81, v82_1, v83, v84_1, v85_1, v86_1, v87_1, undef] w_157)))) (fun cs_2 w_158 =>
 (fun (c_6 : Cx) =>
 kStore c_6 w_158 69 v4 (.int .i64 0) fun w_159 =>
 Lv Tryz.prog [.cell v4 69] R [{ target := .fn (.func 12) #[], args := #[v4, (.func (.func 13) #[] #[])] }] .returning w_159) ⟨Tryz.prog, fun ch w => Lv Tryz.prog [.cell v4 69] R [{ target := .fn (.func 12) #[], args := #[v4, (.func (.func 13) #[] #[])] }] (.panicking ch) w, false⟩))))))) ⟨Tryz.prog, fun ch w => ∀ _ : List Value, Lv Tryz.prog [.cell v4 69] R [{ target := .fn (.func 12) #[], args := #[v4, (.func (.func 13) #[] #[])] }] (.panicking ch) w, false⟩))) ⟨Tryz.prog, fun ch w => Lv Tryz.prog [.cell v4 69] R [{ target := .fn (.func 12) #[], args := #[v4, (.func (.func 13) #[] #[])] }] (.panicking ch) w, false⟩) (cs_1.getD 5 undef) (cs_1.getD 6 undef))))))))) ⟨Tryz.prog, fun ch w => ∀ _ : List Value, Lv Tryz.prog [.cell v4 69] R [{ target := .fn (.func 12) #[], args := #[v4, (.func (.func 13) #[] #[])] }] (.panicking ch) w, false⟩))) ⟨Tryz.prog, fun ch w => Lv Tryz.prog [.cell v4 69] R [{ target := .fn (.func 12) #[], args := #[v4, (.func (.func 13) #[] #[])] }] (.panicking ch) w, false⟩) (cs.getD 6 undef) (cs.getD 7 undef)))))))) ⟨Tryz.prog, fun ch w => ∀ _ : List Value, Lv Tryz.prog [.cell v4 69] R [{ target := .fn (.func 12) #[], args := #[v4, (.func (.func 13) #[] #[])] }] (.panicking ch) w, false⟩))) ⟨Tryz.prog, fun ch w => Lv Tryz.prog [.cell v4 69] R [{ target := .fn (.func 12) #[], args := #[v4, (.func (.func 13) #[] #[])] }] (.panicking ch) w, false⟩
theorem c7 (s : Value) (x : Value) (R : Ending → World → Prop) (w : World) (h : vc7 s x R w) : Calls Tryz.prog 7 #[s, x] w R :=
  calls_of_vc (A := { loops := [], pars := [], chs := [(4, (.q 1 (.q 2 (.e 0 (.q 3 (.q 4 (.q 5 (.q 6 (.q 7 .done))))))))), (8, (.q 1 (.q 2 (.or 0 (.q 3 (.q 4 (.q 5 (.q 6 (.e 7 (.e 8 .done)))))) (.e 7 (.e 0 (.q 3 (.q 4 (.q 5 (.q 6 (.e 8 .done))))))))))), (10, (.q 0 (.q 1 (.q 2 (.q 3 (.q 4 (.q 5 (.q 6 (.q 7 (.q 8 (.e 9 (.e 10 (.q 11 (.e 12 .done)))))))))))))), (12, (.q 0 (.q 1 (.q 2 (.q 3 (.or 4 (.or 5 (.e 6 .done) (.e 6 (.e 5 .done))) (.e 6 (.e 4 (.e 5 .done))))))))), (13, (.q 0 (.q 1 (.q 2 (.q 3 (.q 4 (.q 6 (.e 5 (.e 7 .done))))))))), (14, (.q 0 (.q 1 (.q 2 (.q 3 (.q 4 (.q 6 (.or 5 (.e 7 (.e 8 (.q 9 (.q 10 (.e 11 .done))))) (.e 7 (.e 5 (.e 8 (.q 9 (.q 10 (.e 11 .done))))))))))))))] }) (Eq.mpr (show FnVc Tryz.prog { loops := [], pars := [], chs := [(4, (.q 1 (.q 2 (.e 0 (.q 3 (.q 4 (.q 5 (.q 6 (.q 7 .done))))))))), (8, (.q 1 (.q 2 (.or 0 (.q 3 (.q 4 (.q 5 (.q 6 (.e 7 (.e 8 .done)))))) (.e 7 (.e 0 (.q 3 (.q 4 (.q 5 (.q 6 (.e 8 .done))))))))))), (10, (.q 0 (.q 1 (.q 2 (.q 3 (.q 4 (.q 5 (.q 6 (.q 7 (.q 8 (.e 9 (.e 10 (.q 11 (.e 12 .done)))))))))))))), (12, (.q 0 (.q 1 (.q 2 (.q 3 (.or 4 (.or 5 (.e 6 .done) (.e 6 (.e 5 .done))) (.e 6 (.e 4 (.e 5 .done))))))))), (13, (.q 0 (.q 1 (.q 2 (.q 3 (.q 4 (.q 6 (.e 5 (.e 7 .done))))))))), (14, (.q 0 (.q 1 (.q 2 (.q 3 (.q 4 (.q 6 (.or 5 (.e 7 (.e 8 (.q 9 (.q 10 (.e 11 .done))))) (.e 7 (.e 5 (.e 8 (.q 9 (.q 10 (.e 11 .done))))))))))))))] } 88 7 [s, x] R w = vc7 s x R w by kernel_rfl) h)

/-- loupe/schema.caught -/
def vc12 (eA : Value) (clear : Value) (R : Ending → World → Prop) (w : World) : Prop :=
 kBlt (cR Tryz.prog R) w .recover #[] 20 #[] #[] fun v5 w_1 =>
 kEq (cR Tryz.prog R) w_1 .neq 20 (.tmp 6) (.const .nilIface) v5 .nilIface fun v7 w_2 =>
 kIf v7 (
 kTA (cR Tryz.prog R) w_2 v5 20 69 false fun v10 w_3 =>
 kNil (cR Tryz.prog R) w_3 eA fun v11 w_4 =>
 kStore (cR Tryz.prog R) w_4 69 v11 v10 fun w_5 =>
 kCallV (cR Tryz.prog R) w_5 clear #[] fun v13 w_6 =>
 R (.returned (.tuple #[])) w_6) (
 R (.returned (.tuple #[])) w_2)
theorem c12 (eA : Value) (clear : Value) (R : Ending → World → Prop) (w : World) (h : vc12 eA clear R w) : Calls Tryz.prog 12 #[eA, clear] w R :=
  calls_of_vc (A := { loops := [], pars := [] }) (Eq.mpr (show FnVc Tryz.prog { loops := [], pars := [] } 14 12 [eA, clear] R w = vc12 eA clear R w by kernel_rfl) h)

/-- (*loupe/schema.Schema).Do$1 -/
def vc13  (R : Ending → World → Prop) (w : World) : Prop :=
 R (.returned (.tuple #[])) w
theorem c13  (R : Ending → World → Prop) (w : World) (h : vc13  R w) : Calls Tryz.prog 13 #[] w R :=
  calls_of_vc (A := { loops := [], pars := [] }) (Eq.mpr (show FnVc Tryz.prog { loops := [], pars := [] } 0 13 [] R w = vc13  R w by kernel_rfl) h)

/-- loupe/schema.must -/
def vc14 (fine : Bool) (eA : Int) (R : Ending → World → Prop) (w : World) : Prop :=
 kUn (cR Tryz.prog R) w .not (.bool fine) fun v5 w_1 =>
 kIf v5 (
 kMkI (cR Tryz.prog R) w_1 69 (.int .i64 eA) fun v7 w_2 =>
 kPanic (cR Tryz.prog R) w_2 v7) (
 R (.returned (.tuple #[])) w_1)
theorem c14 (fine : Bool) (eA : Int) (R : Ending → World → Prop) (w : World) (h : vc14 fine eA R w) : Calls Tryz.prog 14 #[(.bool fine), (.int .i64 eA)] w R :=
  calls_of_vc (A := { loops := [], pars := [] }) (Eq.mpr (show FnVc Tryz.prog { loops := [], pars := [] } 8 14 [(.bool fine), (.int .i64 eA)] R w = vc14 fine eA R w by kernel_rfl) h)

/-- (*loupe/schema.Schema).none -/
def vc15 (s : Value) (R : Ending → World → Prop) (w : World) : Prop :=
 kEq (cR Tryz.prog R) w .eql 23 (.tmp 3) (.const (.pointer none)) s (.pointer none) fun v4 w_1 =>
 kIf v4 (
 R (.returned (.bool true)) w_1) (
 kNil (cR Tryz.prog R) w_1 s fun v7 w_2 =>
 kFa (cR Tryz.prog R) w_2 96 v7 1 fun v8 w_3 =>
 kLoad (cR Tryz.prog R) w_3 4 v8 fun v9 w_4 =>
 kUn (cR Tryz.prog R) w_4 .not v9 fun v10 w_5 =>
 R (.returned v10) w_5)
theorem c15 (s : Value) (R : Ending → World → Prop) (w : World) (h : vc15 s R w) : Calls Tryz.prog 15 #[s] w R :=
  calls_of_vc (A := { loops := [], pars := [] }) (Eq.mpr (show FnVc Tryz.prog { loops := [], pars := [] } 12 15 [s] R w = vc15 s R w by kernel_rfl) h)

/-- loupe/schema.drops -/
def vc17  (R : Ending → World → Prop) (w : World) : Prop :=
 kMkMap (cR Tryz.prog R) w 102 none fun v1 w_1 =>
 kUpd (cR Tryz.prog R) w_1 102 v1 (.int .i64 7) (.func (.func 29) #[] #[]) fun w_2 =>
 kUpd (cR Tryz.prog R) w_2 102 v1 (.int .i64 9) (.func (.func 30) #[] #[]) fun w_3 =>
 kUpd (cR Tryz.prog R) w_3 102 v1 (.int .i64 8) (.func (.func 31) #[] #[]) fun w_4 =>
 kUpd (cR Tryz.prog R) w_4 102 v1 (.int .i64 10) (.func (.func 32) #[] #[]) fun w_5 =>
 R (.returned v1) w_5
theorem c17  (R : Ending → World → Prop) (w : World) (h : vc17  R w) : Calls Tryz.prog 17 #[] w R :=
  calls_of_vc (A := { loops := [], pars := [] }) (Eq.mpr (show FnVc Tryz.prog { loops := [], pars := [] } 3 17 [] R w = vc17  R w by kernel_rfl) h)

/-- loupe/schema.creates -/
def vc18  (R : Ending → World → Prop) (w : World) : Prop :=
 kMkMap (cR Tryz.prog R) w 109 none fun v1 w_1 =>
 kBuild (cR Tryz.prog R) w_1 107 #[(0, (.int .i64 0)), (1, (.func (.func 33) #[] #[])), (2, (.func (.func 34) #[] #[]))] fun v2 w_2 =>
 kUpd (cR Tryz.prog R) w_2 109 v1 (.int .i64 3) v2 fun w_3 =>
 kBuild (cR Tryz.prog R) w_3 107 #[(0, (.int .i64 0)), (1, (.func (.func 35) #[] #[])), (2, (.func (.func 36) #[] #[]))] fun v3 w_4 =>
 kUpd (cR Tryz.prog R) w_4 109 v1 (.int .i64 5) v3 fun w_5 =>
 kBuild (cR Tryz.prog R) w_5 107 #[(0, (.int .i64 1)), (1, (.func (.func 37) #[] #[])), (2, (.func (.func 38) #[] #[]))] fun v4 w_6 =>
 kUpd (cR Tryz.prog R) w_6 109 v1 (.int .i64 4) v4 fun w_7 =>
 kBuild (cR Tryz.prog R) w_7 107 #[(0, (.int .i64 2)), (1, (.func (.func 39) #[] #[])), (2, (.func (.func 40) #[] #[]))] fun v5 w_8 =>
 kUpd (cR Tryz.prog R) w_8 109 v1 (.int .i64 6) v5 fun w_9 =>
 R (.returned v1) w_9
theorem c18  (R : Ending → World → Prop) (w : World) (h : vc18  R w) : Calls Tryz.prog 18 #[] w R :=
  calls_of_vc (A := { loops := [], pars := [] }) (Eq.mpr (show FnVc Tryz.prog { loops := [], pars := [] } 7 18 [] R w = vc18  R w by kernel_rfl) h)

/-- (loupe/schema.things).at -/
def vc19 (l : Option Addr) (ln : Nat) (lc : Nat) (kA : Int) (name : ByteArray) (R : Ending → World → Prop) (w : World) : Prop :=
 kBox (cR Tryz.prog R) w 104 (.int .i64 kA) fun v4 w_1 =>
 kBox (cR Tryz.prog R) w_1 9 (.string name) fun v5 w_2 =>
 kCall (cR Tryz.prog R) w_2 41 #[(.slice l ln lc), (.func (.func 42) #[] #[v4, v5])] fun v9 w_3 =>
 R (.returned v9) w_3
theorem c19 (l : Option Addr) (ln : Nat) (lc : Nat) (kA : Int) (name : ByteArray) (R : Ending → World → Prop) (w : World) (h : vc19 l ln lc kA name R w) : Calls Tryz.prog 19 #[(.slice l ln lc), (.int .i64 kA), (.string name)] w R :=
  calls_of_vc (A := { loops := [], pars := [] }) (Eq.mpr (show FnVc Tryz.prog { loops := [], pars := [] } 10 19 [(.slice l ln lc), (.int .i64 kA), (.string name)] R w = vc19 l ln lc kA name R w by kernel_rfl) h)

/-- slices.Clone[loupe/schema.things,loupe/schema.thing] -/
def vc21 (s : Option Addr) (sn : Nat) (sc : Nat) (R : Ending → World → Prop) (w : World) : Prop :=
 kEq (cR Tryz.prog R) w .eql 94 (.tmp 3) (.const (.slice none 0 0)) (.slice s sn sc) (.slice none 0 0) fun v4 w_1 =>
 kIf v4 (
 R (.returned (.slice none 0 0)) w_1) (
 kBuildS (cR Tryz.prog R) w_1 94 0 #[] fun v5 w_2 =>
 kBlt (cR Tryz.prog R) w_2 .append #[94, 94] 94 #[false, false] #[v5, (.slice s sn sc)] fun v7 w_3 =>
 R (.returned v7) w_3)
theorem c21 (s : Option Addr) (sn : Nat) (sc : Nat) (R : Ending → World → Prop) (w : World) (h : vc21 s sn sc R w) : Calls Tryz.prog 21 #[(.slice s sn sc)] w R :=
  calls_of_vc (A := { loops := [], pars := [] }) (Eq.mpr (show FnVc Tryz.prog { loops := [], pars := [] } 8 21 [(.slice s sn sc)] R w = vc21 s sn sc R w by kernel_rfl) h)

/-- (*loupe/schema.Schema).fields -/
def vc26 (s : Value) (name : ByteArray) (asA : ByteArray) (R : Ending → World → Prop) (w : World) : Prop :=
 kNil (cR Tryz.prog R) w s fun v9 w_1 =>
 kFa (cR Tryz.prog R) w_1 96 v9 0 fun v10 w_2 =>
 kLoad (cR Tryz.prog R) w_2 94 v10 fun v11 w_3 =>
 kCall (cR Tryz.prog R) w_3 19 #[v11, (.int .i64 0), (.string name)] fun v13 w_4 =>
 kBin (cR Tryz.prog R) w_4 .geq 3 v13 (.int .i64 0) fun v15 w_5 =>
 kCall (cR Tryz.prog R) w_5 14 #[v15, (.int .i64 5)] fun v16 w_6 =>
 kNil (cR Tryz.prog R) w_6 s fun v18 w_7 =>
 kFa (cR Tryz.prog R) w_7 96 v18 0 fun v19 w_8 =>
 kLoad (cR Tryz.prog R) w_8 94 v19 fun v20 w_9 =>
 kIa (cR Tryz.prog R) w_9 94 v20 v13 fun v22 w_10 =>
 kFa (cR Tryz.prog R) w_10 113 v22 3 fun v23 w_11 =>
 kLoad (cR Tryz.prog R) w_11 76 v23 fun v24 w_12 =>
 kCall (cR Tryz.prog R) w_12 61 #[v24, (.string asA)] fun v26 w_13 =>
 R (.returned v26) w_13
theorem c26 (s : Value) (name : ByteArray) (asA : ByteArray) (R : Ending → World → Prop) (w : World) (h : vc26 s name asA R w) : Calls Tryz.prog 26 #[s, (.string name), (.string asA)] w R :=
  calls_of_vc (A := { loops := [], pars := [] }) (Eq.mpr (show FnVc Tryz.prog { loops := [], pars := [] } 27 26 [s, (.string name), (.string asA)] R w = vc26 s name asA R w by kernel_rfl) h)

/-- loupe/schema.creates$1 -/
def vc33 (x : Value) (R : Ending → World → Prop) (w : World) : Prop :=
 kBox (cR Tryz.prog R) w 61 x fun v1 w_1 =>
 kFa (cR Tryz.prog R) w_1 61 v1 3 fun v3 w_2 =>
 kFa (cR Tryz.prog R) w_2 52 v3 0 fun v4 w_3 =>
 kLoad (cR Tryz.prog R) w_3 9 v4 fun v5 w_4 =>
 R (.returned v5) w_4
theorem c33 (x : Value) (R : Ending → World → Prop) (w : World) (h : vc33 x R w) : Calls Tryz.prog 33 #[x] w R :=
  calls_of_vc (A := { loops := [], pars := [] }) (Eq.mpr (show FnVc Tryz.prog { loops := [], pars := [] } 6 33 [x] R w = vc33 x R w by kernel_rfl) h)

/-- slices.IndexFunc[loupe/schema.things,loupe/schema.thing] -/
def vc41 (s : Option Addr) (sn : Nat) (sc : Nat) (f : Value) (R : Ending → World → Prop) (w : World) : Prop :=
 kBlt (cR Tryz.prog R) w .len #[94] 3 #[false] #[(.slice s sn sc)] fun v7 w_1 =>
 kLoopF [(.int .i64 0)] w_1 fun cs ds w_2 N =>
 (fun x8 =>
 kBin (cR Tryz.prog R) w_2 .lss 3 x8 v7 fun v9 w_3 =>
 kIf v9 (
 kIa (cR Tryz.prog R) w_3 94 (.slice s sn sc) x8 fun v14 w_4 =>
 kLoad (cR Tryz.prog R) w_4 113 v14 fun v15 w_5 =>
 kCallV (cR Tryz.prog R) w_5 f #[v15] fun v16 w_6 =>
 kIf v16 (
 R (.returned x8) w_6) (
 kBin (cR Tryz.prog R) w_6 .add 3 x8 (.int .i64 1) fun v18 w_7 =>
 kD [] [] (N [v18] w_7))) (
 R (.returned (.int .i64 (-1))) w_3)) (cs.getD 0 undef)
theorem c41 (s : Option Addr) (sn : Nat) (sc : Nat) (f : Value) (R : Ending → World → Prop) (w : World) (h : vc41 s sn sc f R w) : Calls Tryz.prog 41 #[(.slice s sn sc), f] w R :=
  calls_of_vc (A := { loops := [(0, [8])], pars := [] }) (Eq.mpr (show FnVc Tryz.prog { loops := [(0, [8])], pars := [] } 19 41 [(.slice s sn sc), f] R w = vc41 s sn sc f R w by kernel_rfl) h)

/-- (loupe/schema.things).at$1 -/
def vc42 (t : Value) (f0 : Value) (f1 : Value) (R : Ending → World → Prop) (w : World) : Prop :=
 kBox (cR Tryz.prog R) w 113 t fun v3 w_1 =>
 kFa (cR Tryz.prog R) w_1 113 v3 1 fun v5 w_2 =>
 kLoad (cR Tryz.prog R) w_2 104 v5 fun v6 w_3 =>
 kLoad (cR Tryz.prog R) w_3 104 f0 fun v7 w_4 =>
 kEq (cR Tryz.prog R) w_4 .eql 104 (.tmp 6) (.tmp 7) v6 v7 fun v8 w_5 =>
 kIf v8 (
 kFa (cR Tryz.prog R) w_5 113 v3 2 fun v10 w_6 =>
 kLoad (cR Tryz.prog R) w_6 9 v10 fun v11 w_7 =>
 kLoad (cR Tryz.prog R) w_7 9 f1 fun v12 w_8 =>
 kEq (cR Tryz.prog R) w_8 .eql 9 (.tmp 11) (.tmp 12) v11 v12 fun v13 w_9 =>
 R (.returned v13) w_9) (
 R (.returned (.bool false)) w_5)
theorem c42 (t : Value) (f0 : Value) (f1 : Value) (R : Ending → World → Prop) (w : World) (h : vc42 t f0 f1 R w) : Calls Tryz.prog 42 #[t, f0, f1] w R :=
  calls_of_vc (A := { loops := [], pars := [] }) (Eq.mpr (show FnVc Tryz.prog { loops := [], pars := [] } 15 42 [t, f0, f1] R w = vc42 t f0 f1 R w by kernel_rfl) h)

/-- loupe/schema.called -/
def vc61 (l : Option Addr) (ln : Nat) (lc : Nat) (asA : ByteArray) (R : Ending → World → Prop) (w : World) : Prop :=
 kBox (cR Tryz.prog R) w 9 (.string asA) fun v3 w_1 =>
 kCall (cR Tryz.prog R) w_1 176 #[(.slice l ln lc), (.func (.func 177) #[] #[v3])] fun v7 w_2 =>
 R (.returned v7) w_2
theorem c61 (l : Option Addr) (ln : Nat) (lc : Nat) (asA : ByteArray) (R : Ending → World → Prop) (w : World) (h : vc61 l ln lc asA R w) : Calls Tryz.prog 61 #[(.slice l ln lc), (.string asA)] w R :=
  calls_of_vc (A := { loops := [], pars := [] }) (Eq.mpr (show FnVc Tryz.prog { loops := [], pars := [] } 8 61 [(.slice l ln lc), (.string asA)] R w = vc61 l ln lc asA R w by kernel_rfl) h)

/-- loupe/schema.some[loupe/api.Field,loupe/api.Field] -/
def vc176 (l : Option Addr) (ln : Nat) (lc : Nat) (tell : Value) (R : Ending → World → Prop) (w : World) : Prop :=
 kBlt (cR Tryz.prog R) w .len #[76] 3 #[false] #[(.slice l ln lc)] fun v8 w_1 =>
 kLoopF [(.slice none 0 0), (.int .i64 0)] w_1 fun cs ds w_2 N =>
 (fun x4 x9 =>
 kBin (cR Tryz.prog R) w_2 .lss 3 x9 v8 fun v10 w_3 =>
 kIf v10 (
 kIa (cR Tryz.prog R) w_3 76 (.slice l ln lc) x9 fun v11 w_4 =>
 kLoad (cR Tryz.prog R) w_4 92 v11 fun v12 w_5 =>
 kAlloc (cR Tryz.prog R) w_5 92 fun v6 w_6 =>
 kStore (cR Tryz.prog R) w_6 92 v6 v12 fun w_7 =>
 kLoad (cR Tryz.prog R) w_7 92 v6 fun v15 w_8 =>
 kCallV (cR Tryz.prog R) w_8 tell #[v15] fun v16 w_9 =>
 kBuildS (cR Tryz.prog R) w_9 76 1 #[(0, v16)] fun v17 w_10 =>
 kBlt (cR Tryz.prog R) w_10 .append #[76, 76] 76 #[false, false] #[x4, v17] fun v18 w_11 =>
 kBin (cR Tryz.prog R) w_11 .add 3 x9 (.int .i64 1) fun v19 w_12 =>
 kD [] [] (N [v18, v19] w_12)) (
 R (.returned x4) w_3)) (cs.getD 0 undef) (cs.getD 1 undef)
theorem c176 (l : Option Addr) (ln : Nat) (lc : Nat) (tell : Value) (R : Ending → World → Prop) (w : World) (h : vc176 l ln lc tell R w) : Calls Tryz.prog 176 #[(.slice l ln lc), tell] w R :=
  calls_of_vc (A := { loops := [(0, [4, 9])], pars := [] }) (Eq.mpr (show FnVc Tryz.prog { loops := [(0, [4, 9])], pars := [] } 21 176 [(.slice l ln lc), tell] R w = vc176 l ln lc tell R w by kernel_rfl) h)

/-- loupe/schema.called$1 -/
def vc177 (f0 : ByteArray) (f1 : ByteArray) (f2 : Int) (f0_1 : Value) (R : Ending → World → Prop) (w : World) : Prop :=
 kBox (cR Tryz.prog R) w 92 (.agg #[(.string f0), (.string f1), (.int .i64 f2)]) fun v2 w_1 =>
 kAlloc (cR Tryz.prog R) w_1 92 fun v3 w_2 =>
 kLoad (cR Tryz.prog R) w_2 9 f0_1 fun v4 w_3 =>
 kFa (cR Tryz.prog R) w_3 92 v2 0 fun v5 w_4 =>
 kStore (cR Tryz.prog R) w_4 9 v5 v4 fun w_5 =>
 kLoad (cR Tryz.prog R) w_5 92 v2 fun v6 w_6 =>
 kStore (cR Tryz.prog R) w_6 92 v3 v6 fun w_7 =>
 RetK Tryz.prog [.cell v3 92] R w_7
theorem c177 (f0 : ByteArray) (f1 : ByteArray) (f2 : Int) (f0_1 : Value) (R : Ending → World → Prop) (w : World) (h : vc177 f0 f1 f2 f0_1 R w) : Calls Tryz.prog 177 #[(.agg #[(.string f0), (.string f1), (.int .i64 f2)]), f0_1] w R :=
  calls_of_vc (A := { loops := [], pars := [] }) (Eq.mpr (show FnVc Tryz.prog { loops := [], pars := [] } 7 177 [(.agg #[(.string f0), (.string f1), (.int .i64 f2)]), f0_1] R w = vc177 f0 f1 f2 f0_1 R w by kernel_rfl) h)
end Go.L
namespace Go.L
open Go Go.RowKit Go.Proofs
set_option linter.unusedSimpArgs false
set_option linter.unusedVariables false

/-- Types of one cell. -/
def scal (t : TypeId) : Bool := t == 1 || t == 3 || t == 4 || t == 9 || t == 23 || t == 25 || t == 29 || t == 49 || t == 69 || t == 76 || t == 77 || t == 94 || t == 98 || t == 102 || t == 104 || t == 105 || t == 106 || t == 109 || t == 132 || t == 261
theorem scal_agg {t : TypeId} (h : scal t = true) (w : World) : (isAgg t).run Tryz.prog w = .ok false w := by
  simp only [scal, Bool.or_eq_true, beq_iff_eq] at h
  rcases h with (((((((((((((((((((rfl | rfl) | rfl) | rfl) | rfl) | rfl) | rfl) | rfl) | rfl) | rfl) | rfl) | rfl) | rfl) | rfl) | rfl) | rfl) | rfl) | rfl) | rfl) | rfl)
  · exact Tryz.isAgg1 w
  · exact Tryz.isAgg3 w
  · exact Tryz.isAgg4 w
  · exact Tryz.isAgg9 w
  · exact Tryz.isAgg23 w
  · exact Tryz.isAgg25 w
  · exact Tryz.isAgg29 w
  · exact Tryz.isAgg49 w
  · exact Tryz.isAgg69 w
  · exact Tryz.isAgg76 w
  · exact Tryz.isAgg77 w
  · exact Tryz.isAgg94 w
  · exact Tryz.isAgg98 w
  · exact Tryz.isAgg102 w
  · exact Tryz.isAgg104 w
  · exact Tryz.isAgg105 w
  · exact Tryz.isAgg106 w
  · exact Tryz.isAgg109 w
  · exact Tryz.isAgg132 w
  · exact Tryz.isAgg261 w
theorem scal_size {t : TypeId} (h : scal t = true) (w : World) : (sizeOf t).run Tryz.prog w = .ok 1 w := by
  simp only [scal, Bool.or_eq_true, beq_iff_eq] at h
  rcases h with (((((((((((((((((((rfl | rfl) | rfl) | rfl) | rfl) | rfl) | rfl) | rfl) | rfl) | rfl) | rfl) | rfl) | rfl) | rfl) | rfl) | rfl) | rfl) | rfl) | rfl) | rfl)
  · exact Tryz.sizeOf1 w
  · exact Tryz.sizeOf3 w
  · exact Tryz.sizeOf4 w
  · exact Tryz.sizeOf9 w
  · exact Tryz.sizeOf23 w
  · exact Tryz.sizeOf25 w
  · exact Tryz.sizeOf29 w
  · exact Tryz.sizeOf49 w
  · exact Tryz.sizeOf69 w
  · exact Tryz.sizeOf76 w
  · exact Tryz.sizeOf77 w
  · exact Tryz.sizeOf94 w
  · exact Tryz.sizeOf98 w
  · exact Tryz.sizeOf102 w
  · exact Tryz.sizeOf104 w
  · exact Tryz.sizeOf105 w
  · exact Tryz.sizeOf106 w
  · exact Tryz.sizeOf109 w
  · exact Tryz.sizeOf132 w
  · exact Tryz.sizeOf261 w
theorem xLen76 {X : Chain → World → Prop} {q : Bool} {w : World} {k : Value → World → Prop} {ty : TypeId} {o : Option Addr} {n cp : Nat} {cs : Array Bool} (h : k (.int .i64 n) w) : kBlt ⟨Tryz.prog, X, q⟩ w .len #[76] ty cs #[.slice o n cp] k := kLen_sl (c := ⟨Tryz.prog, X, q⟩) Tryz.underlying76 h
theorem xLen77 {X : Chain → World → Prop} {q : Bool} {w : World} {k : Value → World → Prop} {ty : TypeId} {o : Option Addr} {n cp : Nat} {cs : Array Bool} (h : k (.int .i64 n) w) : kBlt ⟨Tryz.prog, X, q⟩ w .len #[77] ty cs #[.slice o n cp] k := kLen_sl (c := ⟨Tryz.prog, X, q⟩) Tryz.underlying77 h
theorem xLen94 {X : Chain → World → Prop} {q : Bool} {w : World} {k : Value → World → Prop} {ty : TypeId} {o : Option Addr} {n cp : Nat} {cs : Array Bool} (h : k (.int .i64 n) w) : kBlt ⟨Tryz.prog, X, q⟩ w .len #[94] ty cs #[.slice o n cp] k := kLen_sl (c := ⟨Tryz.prog, X, q⟩) Tryz.underlying94 h
theorem xE26 (w : World) : Elt Tryz.prog 26 72 11 144 := ⟨Tryz.underlying26, ⟨Tryz.t72, _, info_of (Tryz.typeInfo72 w), rfl, rfl, rfl, rfl⟩, by omega, by omega⟩
theorem xE29 (w : World) : Elt Tryz.prog 29 74 10 136 := ⟨Tryz.underlying29, ⟨Tryz.t74, _, info_of (Tryz.typeInfo74 w), rfl, rfl, rfl, rfl⟩, by omega, by omega⟩
theorem xE49 (w : World) : Elt Tryz.prog 49 67 16 176 := ⟨Tryz.underlying49, ⟨Tryz.t67, _, info_of (Tryz.typeInfo67 w), rfl, rfl, rfl, rfl⟩, by omega, by omega⟩
theorem xIa76 {X : Chain → World → Prop} {q : Bool} {w : World} {k : Value → World → Prop} {b o n cp : Nat} {i : Nat} (hi : i < n) (h : k (.pointer (some ⟨b, o + i * 3, none⟩)) w) : kIa ⟨Tryz.prog, X, q⟩ w 76 (.slice (some ⟨b, o, none⟩) n cp) (.int .i64 i) k := kIa_sl (c := ⟨Tryz.prog, X, q⟩) Tryz.underlying76 Tryz.sizeOf92 hi h
theorem xIaz76 {X : Chain → World → Prop} {q : Bool} {w : World} {k : Value → World → Prop} {b o n cp : Nat} {z : Int} (h0 : 0 ≤ z) (h1 : z < n) (h : k (.pointer (some ⟨b, o + z.toNat * 3, none⟩)) w) : kIa ⟨Tryz.prog, X, q⟩ w 76 (.slice (some ⟨b, o, none⟩) n cp) (.int .i64 z) k := kIa_int (c := ⟨Tryz.prog, X, q⟩) Tryz.underlying76 Tryz.sizeOf92 h0 h1 h
theorem xE76 (w : World) : Elt Tryz.prog 76 92 3 40 := ⟨Tryz.underlying76, ⟨Tryz.t92, _, info_of (Tryz.typeInfo92 w), rfl, rfl, rfl, rfl⟩, by omega, by omega⟩
theorem xIa94 {X : Chain → World → Prop} {q : Bool} {w : World} {k : Value → World → Prop} {b o n cp : Nat} {i : Nat} (hi : i < n) (h : k (.pointer (some ⟨b, o + i * 174, none⟩)) w) : kIa ⟨Tryz.prog, X, q⟩ w 94 (.slice (some ⟨b, o, none⟩) n cp) (.int .i64 i) k := kIa_sl (c := ⟨Tryz.prog, X, q⟩) Tryz.underlying94 Tryz.sizeOf113 hi h
theorem xIaz94 {X : Chain → World → Prop} {q : Bool} {w : World} {k : Value → World → Prop} {b o n cp : Nat} {z : Int} (h0 : 0 ≤ z) (h1 : z < n) (h : k (.pointer (some ⟨b, o + z.toNat * 174, none⟩)) w) : kIa ⟨Tryz.prog, X, q⟩ w 94 (.slice (some ⟨b, o, none⟩) n cp) (.int .i64 z) k := kIa_int (c := ⟨Tryz.prog, X, q⟩) Tryz.underlying94 Tryz.sizeOf113 h0 h1 h
theorem xE94 (w : World) : Elt Tryz.prog 94 113 174 2624 := ⟨Tryz.underlying94, ⟨Tryz.t113, _, info_of (Tryz.typeInfo113 w), rfl, rfl, rfl, rfl⟩, by omega, by omega⟩
theorem xFa40_0 {X : Chain → World → Prop} {q : Bool} {w : World} {k : Value → World → Prop} {b o : Nat} (h : k (.pointer (some ⟨b, o, none⟩)) w) : kFa ⟨Tryz.prog, X, q⟩ w 40 (.pointer (some ⟨b, o, none⟩)) 0 k := kFa_i (c := ⟨Tryz.prog, X, q⟩) Tryz.underlying40 rfl (n := 0) Tryz.sizeOf4 h
theorem xFa40_1 {X : Chain → World → Prop} {q : Bool} {w : World} {k : Value → World → Prop} {b o : Nat} (h : k (.pointer (some ⟨b, o + 1, none⟩)) w) : kFa ⟨Tryz.prog, X, q⟩ w 40 (.pointer (some ⟨b, o, none⟩)) 1 k := kFa_i (c := ⟨Tryz.prog, X, q⟩) Tryz.underlying40 rfl (n := 0) Tryz.sizeOf26 h
theorem xFa40_2 {X : Chain → World → Prop} {q : Bool} {w : World} {k : Value → World → Prop} {b o : Nat} (h : k (.pointer (some ⟨b, o + 2, none⟩)) w) : kFa ⟨Tryz.prog, X, q⟩ w 40 (.pointer (some ⟨b, o, none⟩)) 2 k := kFa_i (c := ⟨Tryz.prog, X, q⟩) Tryz.underlying40 rfl (n := 1) Tryz.sizeOf28 h
theorem xFa40_3 {X : Chain → World → Prop} {q : Bool} {w : World} {k : Value → World → Prop} {b o : Nat} (h : k (.pointer (some ⟨b, o + 4, none⟩)) w) : kFa ⟨Tryz.prog, X, q⟩ w 40 (.pointer (some ⟨b, o, none⟩)) 3 k := kFa_i (c := ⟨Tryz.prog, X, q⟩) Tryz.underlying40 rfl (n := 0) Tryz.sizeOf29 h
theorem xFa40_4 {X : Chain → World → Prop} {q : Bool} {w : World} {k : Value → World → Prop} {b o : Nat} (h : k (.pointer (some ⟨b, o + 5, none⟩)) w) : kFa ⟨Tryz.prog, X, q⟩ w 40 (.pointer (some ⟨b, o, none⟩)) 4 k := kFa_i (c := ⟨Tryz.prog, X, q⟩) Tryz.underlying40 rfl (n := 7) Tryz.sizeOf37 h
theorem xFa40_5 {X : Chain → World → Prop} {q : Bool} {w : World} {k : Value → World → Prop} {b o : Nat} (h : k (.pointer (some ⟨b, o + 13, none⟩)) w) : kFa ⟨Tryz.prog, X, q⟩ w 40 (.pointer (some ⟨b, o, none⟩)) 5 k := kFa_i (c := ⟨Tryz.prog, X, q⟩) Tryz.underlying40 rfl (n := 0) Tryz.sizeOf35 h
theorem xFa40_6 {X : Chain → World → Prop} {q : Bool} {w : World} {k : Value → World → Prop} {b o : Nat} (h : k (.pointer (some ⟨b, o + 14, none⟩)) w) : kFa ⟨Tryz.prog, X, q⟩ w 40 (.pointer (some ⟨b, o, none⟩)) 6 k := kFa_i (c := ⟨Tryz.prog, X, q⟩) Tryz.underlying40 rfl (n := 7) Tryz.sizeOf37 h
theorem xFa40_7 {X : Chain → World → Prop} {q : Bool} {w : World} {k : Value → World → Prop} {b o : Nat} (h : k (.pointer (some ⟨b, o + 22, none⟩)) w) : kFa ⟨Tryz.prog, X, q⟩ w 40 (.pointer (some ⟨b, o, none⟩)) 7 k := kFa_i (c := ⟨Tryz.prog, X, q⟩) Tryz.underlying40 rfl (n := 0) Tryz.sizeOf38 h
theorem xFa40_8 {X : Chain → World → Prop} {q : Bool} {w : World} {k : Value → World → Prop} {b o : Nat} (h : k (.pointer (some ⟨b, o + 23, none⟩)) w) : kFa ⟨Tryz.prog, X, q⟩ w 40 (.pointer (some ⟨b, o, none⟩)) 8 k := kFa_i (c := ⟨Tryz.prog, X, q⟩) Tryz.underlying40 rfl (n := 0) Tryz.sizeOf2 h
theorem xFa52_0 {X : Chain → World → Prop} {q : Bool} {w : World} {k : Value → World → Prop} {b o : Nat} (h : k (.pointer (some ⟨b, o, none⟩)) w) : kFa ⟨Tryz.prog, X, q⟩ w 52 (.pointer (some ⟨b, o, none⟩)) 0 k := kFa_i (c := ⟨Tryz.prog, X, q⟩) Tryz.underlying52 rfl (n := 0) Tryz.sizeOf9 h
theorem xFa52_1 {X : Chain → World → Prop} {q : Bool} {w : World} {k : Value → World → Prop} {b o : Nat} (h : k (.pointer (some ⟨b, o + 1, none⟩)) w) : kFa ⟨Tryz.prog, X, q⟩ w 52 (.pointer (some ⟨b, o, none⟩)) 1 k := kFa_i (c := ⟨Tryz.prog, X, q⟩) Tryz.underlying52 rfl (n := 0) Tryz.sizeOf49 h
theorem xFa52_2 {X : Chain → World → Prop} {q : Bool} {w : World} {k : Value → World → Prop} {b o : Nat} (h : k (.pointer (some ⟨b, o + 2, none⟩)) w) : kFa ⟨Tryz.prog, X, q⟩ w 52 (.pointer (some ⟨b, o, none⟩)) 2 k := kFa_i (c := ⟨Tryz.prog, X, q⟩) Tryz.underlying52 rfl (n := 0) Tryz.sizeOf42 h
theorem xFa52_3 {X : Chain → World → Prop} {q : Bool} {w : World} {k : Value → World → Prop} {b o : Nat} (h : k (.pointer (some ⟨b, o + 3, none⟩)) w) : kFa ⟨Tryz.prog, X, q⟩ w 52 (.pointer (some ⟨b, o, none⟩)) 3 k := kFa_i (c := ⟨Tryz.prog, X, q⟩) Tryz.underlying52 rfl (n := 0) Tryz.sizeOf50 h
theorem xFa52_4 {X : Chain → World → Prop} {q : Bool} {w : World} {k : Value → World → Prop} {b o : Nat} (h : k (.pointer (some ⟨b, o + 4, none⟩)) w) : kFa ⟨Tryz.prog, X, q⟩ w 52 (.pointer (some ⟨b, o, none⟩)) 4 k := kFa_i (c := ⟨Tryz.prog, X, q⟩) Tryz.underlying52 rfl (n := 0) Tryz.sizeOf35 h
theorem xFa61_0 {X : Chain → World → Prop} {q : Bool} {w : World} {k : Value → World → Prop} {b o : Nat} (h : k (.pointer (some ⟨b, o, none⟩)) w) : kFa ⟨Tryz.prog, X, q⟩ w 61 (.pointer (some ⟨b, o, none⟩)) 0 k := kFa_i (c := ⟨Tryz.prog, X, q⟩) Tryz.underlying61 rfl (n := 0) Tryz.sizeOf25 h
theorem xFa61_1 {X : Chain → World → Prop} {q : Bool} {w : World} {k : Value → World → Prop} {b o : Nat} (h : k (.pointer (some ⟨b, o + 1, none⟩)) w) : kFa ⟨Tryz.prog, X, q⟩ w 61 (.pointer (some ⟨b, o, none⟩)) 1 k := kFa_i (c := ⟨Tryz.prog, X, q⟩) Tryz.underlying61 rfl (n := 23) Tryz.sizeOf40 h
theorem xFa61_2 {X : Chain → World → Prop} {q : Bool} {w : World} {k : Value → World → Prop} {b o : Nat} (h : k (.pointer (some ⟨b, o + 25, none⟩)) w) : kFa ⟨Tryz.prog, X, q⟩ w 61 (.pointer (some ⟨b, o, none⟩)) 2 k := kFa_i (c := ⟨Tryz.prog, X, q⟩) Tryz.underlying61 rfl (n := 52) Tryz.sizeOf48 h
theorem xFa61_3 {X : Chain → World → Prop} {q : Bool} {w : World} {k : Value → World → Prop} {b o : Nat} (h : k (.pointer (some ⟨b, o + 78, none⟩)) w) : kFa ⟨Tryz.prog, X, q⟩ w 61 (.pointer (some ⟨b, o, none⟩)) 3 k := kFa_i (c := ⟨Tryz.prog, X, q⟩) Tryz.underlying61 rfl (n := 4) Tryz.sizeOf52 h
theorem xFa61_4 {X : Chain → World → Prop} {q : Bool} {w : World} {k : Value → World → Prop} {b o : Nat} (h : k (.pointer (some ⟨b, o + 83, none⟩)) w) : kFa ⟨Tryz.prog, X, q⟩ w 61 (.pointer (some ⟨b, o, none⟩)) 4 k := kFa_i (c := ⟨Tryz.prog, X, q⟩) Tryz.underlying61 rfl (n := 3) Tryz.sizeOf54 h
theorem xFa61_5 {X : Chain → World → Prop} {q : Bool} {w : World} {k : Value → World → Prop} {b o : Nat} (h : k (.pointer (some ⟨b, o + 87, none⟩)) w) : kFa ⟨Tryz.prog, X, q⟩ w 61 (.pointer (some ⟨b, o, none⟩)) 5 k := kFa_i (c := ⟨Tryz.prog, X, q⟩) Tryz.underlying61 rfl (n := 26) Tryz.sizeOf57 h
theorem xFa61_6 {X : Chain → World → Prop} {q : Bool} {w : World} {k : Value → World → Prop} {b o : Nat} (h : k (.pointer (some ⟨b, o + 114, none⟩)) w) : kFa ⟨Tryz.prog, X, q⟩ w 61 (.pointer (some ⟨b, o, none⟩)) 6 k := kFa_i (c := ⟨Tryz.prog, X, q⟩) Tryz.underlying61 rfl (n := 55) Tryz.sizeOf59 h
theorem xFa61_7 {X : Chain → World → Prop} {q : Bool} {w : World} {k : Value → World → Prop} {b o : Nat} (h : k (.pointer (some ⟨b, o + 170, none⟩)) w) : kFa ⟨Tryz.prog, X, q⟩ w 61 (.pointer (some ⟨b, o, none⟩)) 7 k := kFa_i (c := ⟨Tryz.prog, X, q⟩) Tryz.underlying61 rfl (n := 0) Tryz.sizeOf9 h
theorem xFa83_0 {X : Chain → World → Prop} {q : Bool} {w : World} {k : Value → World → Prop} {b o : Nat} (h : k (.pointer (some ⟨b, o, none⟩)) w) : kFa ⟨Tryz.prog, X, q⟩ w 83 (.pointer (some ⟨b, o, none⟩)) 0 k := kFa_i (c := ⟨Tryz.prog, X, q⟩) Tryz.underlying83 rfl (n := 0) Tryz.sizeOf75 h
theorem xFa83_1 {X : Chain → World → Prop} {q : Bool} {w : World} {k : Value → World → Prop} {b o : Nat} (h : k (.pointer (some ⟨b, o + 1, none⟩)) w) : kFa ⟨Tryz.prog, X, q⟩ w 83 (.pointer (some ⟨b, o, none⟩)) 1 k := kFa_i (c := ⟨Tryz.prog, X, q⟩) Tryz.underlying83 rfl (n := 0) Tryz.sizeOf76 h
theorem xFa83_2 {X : Chain → World → Prop} {q : Bool} {w : World} {k : Value → World → Prop} {b o : Nat} (h : k (.pointer (some ⟨b, o + 2, none⟩)) w) : kFa ⟨Tryz.prog, X, q⟩ w 83 (.pointer (some ⟨b, o, none⟩)) 2 k := kFa_i (c := ⟨Tryz.prog, X, q⟩) Tryz.underlying83 rfl (n := 0) Tryz.sizeOf77 h
theorem xFa83_3 {X : Chain → World → Prop} {q : Bool} {w : World} {k : Value → World → Prop} {b o : Nat} (h : k (.pointer (some ⟨b, o + 3, none⟩)) w) : kFa ⟨Tryz.prog, X, q⟩ w 83 (.pointer (some ⟨b, o, none⟩)) 3 k := kFa_i (c := ⟨Tryz.prog, X, q⟩) Tryz.underlying83 rfl (n := 8) Tryz.sizeOf80 h
theorem xFa83_4 {X : Chain → World → Prop} {q : Bool} {w : World} {k : Value → World → Prop} {b o : Nat} (h : k (.pointer (some ⟨b, o + 12, none⟩)) w) : kFa ⟨Tryz.prog, X, q⟩ w 83 (.pointer (some ⟨b, o, none⟩)) 4 k := kFa_i (c := ⟨Tryz.prog, X, q⟩) Tryz.underlying83 rfl (n := 0) Tryz.sizeOf77 h
theorem xFa83_5 {X : Chain → World → Prop} {q : Bool} {w : World} {k : Value → World → Prop} {b o : Nat} (h : k (.pointer (some ⟨b, o + 13, none⟩)) w) : kFa ⟨Tryz.prog, X, q⟩ w 83 (.pointer (some ⟨b, o, none⟩)) 5 k := kFa_i (c := ⟨Tryz.prog, X, q⟩) Tryz.underlying83 rfl (n := 0) Tryz.sizeOf77 h
theorem xFa83_6 {X : Chain → World → Prop} {q : Bool} {w : World} {k : Value → World → Prop} {b o : Nat} (h : k (.pointer (some ⟨b, o + 14, none⟩)) w) : kFa ⟨Tryz.prog, X, q⟩ w 83 (.pointer (some ⟨b, o, none⟩)) 6 k := kFa_i (c := ⟨Tryz.prog, X, q⟩) Tryz.underlying83 rfl (n := 0) Tryz.sizeOf42 h
theorem xFa83_7 {X : Chain → World → Prop} {q : Bool} {w : World} {k : Value → World → Prop} {b o : Nat} (h : k (.pointer (some ⟨b, o + 15, none⟩)) w) : kFa ⟨Tryz.prog, X, q⟩ w 83 (.pointer (some ⟨b, o, none⟩)) 7 k := kFa_i (c := ⟨Tryz.prog, X, q⟩) Tryz.underlying83 rfl (n := 8) Tryz.sizeOf80 h
theorem xFa83_8 {X : Chain → World → Prop} {q : Bool} {w : World} {k : Value → World → Prop} {b o : Nat} (h : k (.pointer (some ⟨b, o + 24, none⟩)) w) : kFa ⟨Tryz.prog, X, q⟩ w 83 (.pointer (some ⟨b, o, none⟩)) 8 k := kFa_i (c := ⟨Tryz.prog, X, q⟩) Tryz.underlying83 rfl (n := 0) Tryz.sizeOf77 h
theorem xFa83_9 {X : Chain → World → Prop} {q : Bool} {w : World} {k : Value → World → Prop} {b o : Nat} (h : k (.pointer (some ⟨b, o + 25, none⟩)) w) : kFa ⟨Tryz.prog, X, q⟩ w 83 (.pointer (some ⟨b, o, none⟩)) 9 k := kFa_i (c := ⟨Tryz.prog, X, q⟩) Tryz.underlying83 rfl (n := 0) Tryz.sizeOf81 h
theorem xFa83_10 {X : Chain → World → Prop} {q : Bool} {w : World} {k : Value → World → Prop} {b o : Nat} (h : k (.pointer (some ⟨b, o + 26, none⟩)) w) : kFa ⟨Tryz.prog, X, q⟩ w 83 (.pointer (some ⟨b, o, none⟩)) 10 k := kFa_i (c := ⟨Tryz.prog, X, q⟩) Tryz.underlying83 rfl (n := 0) Tryz.sizeOf4 h
theorem xFa83_11 {X : Chain → World → Prop} {q : Bool} {w : World} {k : Value → World → Prop} {b o : Nat} (h : k (.pointer (some ⟨b, o + 27, none⟩)) w) : kFa ⟨Tryz.prog, X, q⟩ w 83 (.pointer (some ⟨b, o, none⟩)) 11 k := kFa_i (c := ⟨Tryz.prog, X, q⟩) Tryz.underlying83 rfl (n := 0) Tryz.sizeOf4 h
theorem xFa83_12 {X : Chain → World → Prop} {q : Bool} {w : World} {k : Value → World → Prop} {b o : Nat} (h : k (.pointer (some ⟨b, o + 28, none⟩)) w) : kFa ⟨Tryz.prog, X, q⟩ w 83 (.pointer (some ⟨b, o, none⟩)) 12 k := kFa_i (c := ⟨Tryz.prog, X, q⟩) Tryz.underlying83 rfl (n := 0) Tryz.sizeOf2 h
theorem xFa92_0 {X : Chain → World → Prop} {q : Bool} {w : World} {k : Value → World → Prop} {b o : Nat} (h : k (.pointer (some ⟨b, o, none⟩)) w) : kFa ⟨Tryz.prog, X, q⟩ w 92 (.pointer (some ⟨b, o, none⟩)) 0 k := kFa_i (c := ⟨Tryz.prog, X, q⟩) Tryz.underlying92 rfl (n := 0) Tryz.sizeOf9 h
theorem xFa92_1 {X : Chain → World → Prop} {q : Bool} {w : World} {k : Value → World → Prop} {b o : Nat} (h : k (.pointer (some ⟨b, o + 1, none⟩)) w) : kFa ⟨Tryz.prog, X, q⟩ w 92 (.pointer (some ⟨b, o, none⟩)) 1 k := kFa_i (c := ⟨Tryz.prog, X, q⟩) Tryz.underlying92 rfl (n := 0) Tryz.sizeOf9 h
theorem xFa92_2 {X : Chain → World → Prop} {q : Bool} {w : World} {k : Value → World → Prop} {b o : Nat} (h : k (.pointer (some ⟨b, o + 2, none⟩)) w) : kFa ⟨Tryz.prog, X, q⟩ w 92 (.pointer (some ⟨b, o, none⟩)) 2 k := kFa_i (c := ⟨Tryz.prog, X, q⟩) Tryz.underlying92 rfl (n := 0) Tryz.sizeOf62 h
theorem xFa96_0 {X : Chain → World → Prop} {q : Bool} {w : World} {k : Value → World → Prop} {b o : Nat} (h : k (.pointer (some ⟨b, o, none⟩)) w) : kFa ⟨Tryz.prog, X, q⟩ w 96 (.pointer (some ⟨b, o, none⟩)) 0 k := kFa_i (c := ⟨Tryz.prog, X, q⟩) Tryz.underlying96 rfl (n := 0) Tryz.sizeOf94 h
theorem xFa96_1 {X : Chain → World → Prop} {q : Bool} {w : World} {k : Value → World → Prop} {b o : Nat} (h : k (.pointer (some ⟨b, o + 1, none⟩)) w) : kFa ⟨Tryz.prog, X, q⟩ w 96 (.pointer (some ⟨b, o, none⟩)) 1 k := kFa_i (c := ⟨Tryz.prog, X, q⟩) Tryz.underlying96 rfl (n := 0) Tryz.sizeOf4 h
theorem xFa107_0 {X : Chain → World → Prop} {q : Bool} {w : World} {k : Value → World → Prop} {b o : Nat} (h : k (.pointer (some ⟨b, o, none⟩)) w) : kFa ⟨Tryz.prog, X, q⟩ w 107 (.pointer (some ⟨b, o, none⟩)) 0 k := kFa_i (c := ⟨Tryz.prog, X, q⟩) Tryz.underlying107 rfl (n := 0) Tryz.sizeOf104 h
theorem xFa107_1 {X : Chain → World → Prop} {q : Bool} {w : World} {k : Value → World → Prop} {b o : Nat} (h : k (.pointer (some ⟨b, o + 1, none⟩)) w) : kFa ⟨Tryz.prog, X, q⟩ w 107 (.pointer (some ⟨b, o, none⟩)) 1 k := kFa_i (c := ⟨Tryz.prog, X, q⟩) Tryz.underlying107 rfl (n := 0) Tryz.sizeOf105 h
theorem xFa107_2 {X : Chain → World → Prop} {q : Bool} {w : World} {k : Value → World → Prop} {b o : Nat} (h : k (.pointer (some ⟨b, o + 2, none⟩)) w) : kFa ⟨Tryz.prog, X, q⟩ w 107 (.pointer (some ⟨b, o, none⟩)) 2 k := kFa_i (c := ⟨Tryz.prog, X, q⟩) Tryz.underlying107 rfl (n := 0) Tryz.sizeOf106 h
theorem xFa113_0 {X : Chain → World → Prop} {q : Bool} {w : World} {k : Value → World → Prop} {b o : Nat} (h : k (.pointer (some ⟨b, o, none⟩)) w) : kFa ⟨Tryz.prog, X, q⟩ w 113 (.pointer (some ⟨b, o, none⟩)) 0 k := kFa_i (c := ⟨Tryz.prog, X, q⟩) Tryz.underlying113 rfl (n := 170) Tryz.sizeOf61 h
theorem xFa113_1 {X : Chain → World → Prop} {q : Bool} {w : World} {k : Value → World → Prop} {b o : Nat} (h : k (.pointer (some ⟨b, o + 171, none⟩)) w) : kFa ⟨Tryz.prog, X, q⟩ w 113 (.pointer (some ⟨b, o, none⟩)) 1 k := kFa_i (c := ⟨Tryz.prog, X, q⟩) Tryz.underlying113 rfl (n := 0) Tryz.sizeOf104 h
theorem xFa113_2 {X : Chain → World → Prop} {q : Bool} {w : World} {k : Value → World → Prop} {b o : Nat} (h : k (.pointer (some ⟨b, o + 172, none⟩)) w) : kFa ⟨Tryz.prog, X, q⟩ w 113 (.pointer (some ⟨b, o, none⟩)) 2 k := kFa_i (c := ⟨Tryz.prog, X, q⟩) Tryz.underlying113 rfl (n := 0) Tryz.sizeOf9 h
theorem xFa113_3 {X : Chain → World → Prop} {q : Bool} {w : World} {k : Value → World → Prop} {b o : Nat} (h : k (.pointer (some ⟨b, o + 173, none⟩)) w) : kFa ⟨Tryz.prog, X, q⟩ w 113 (.pointer (some ⟨b, o, none⟩)) 3 k := kFa_i (c := ⟨Tryz.prog, X, q⟩) Tryz.underlying113 rfl (n := 0) Tryz.sizeOf76 h
theorem xLdE40 {X : Chain → World → Prop} {q : Bool} {w : World} {k : Value → World → Prop} {b o : Nat} {v : Value} (hr : w.rangeAt b o v.cells.toList) (hv : Value.agg v.cells = v) (hs : v.cells.size = 24) (h : k v w) : kLoad ⟨Tryz.prog, X, q⟩ w 40 (.pointer (some ⟨b, o, none⟩)) k := kLoad_elt (c := ⟨Tryz.prog, X, q⟩) hr hv Tryz.underlying40 rfl Tryz.typeInfo40 hs.symm h
theorem xLdB40 {X : Chain → World → Prop} {q : Bool} {w : World} {k : Value → World → Prop} {w0 : World} {L : List Own} (hS : St w0 L w) (i : Nat) {b : Nat} {t : TypeId} {cs : Array Value} (hi : L[i]? = some (.bx b t cs)) (hn : cs.size = 24) (h : k (.agg cs) w) : kLoad ⟨Tryz.prog, X, q⟩ w 40 (.pointer (some ⟨b, 0, none⟩)) k := kLoadA_st (c := ⟨Tryz.prog, X, q⟩) hS i hi Tryz.underlying40 rfl Tryz.sizeOf40 hn.symm h
theorem xLdE61 {X : Chain → World → Prop} {q : Bool} {w : World} {k : Value → World → Prop} {b o : Nat} {v : Value} (hr : w.rangeAt b o v.cells.toList) (hv : Value.agg v.cells = v) (hs : v.cells.size = 171) (h : k v w) : kLoad ⟨Tryz.prog, X, q⟩ w 61 (.pointer (some ⟨b, o, none⟩)) k := kLoad_elt (c := ⟨Tryz.prog, X, q⟩) hr hv Tryz.underlying61 rfl Tryz.typeInfo61 hs.symm h
theorem xLdB61 {X : Chain → World → Prop} {q : Bool} {w : World} {k : Value → World → Prop} {w0 : World} {L : List Own} (hS : St w0 L w) (i : Nat) {b : Nat} {t : TypeId} {cs : Array Value} (hi : L[i]? = some (.bx b t cs)) (hn : cs.size = 171) (h : k (.agg cs) w) : kLoad ⟨Tryz.prog, X, q⟩ w 61 (.pointer (some ⟨b, 0, none⟩)) k := kLoadA_st (c := ⟨Tryz.prog, X, q⟩) hS i hi Tryz.underlying61 rfl Tryz.sizeOf61 hn.symm h
theorem xLdE83 {X : Chain → World → Prop} {q : Bool} {w : World} {k : Value → World → Prop} {b o : Nat} {v : Value} (hr : w.rangeAt b o v.cells.toList) (hv : Value.agg v.cells = v) (hs : v.cells.size = 29) (h : k v w) : kLoad ⟨Tryz.prog, X, q⟩ w 83 (.pointer (some ⟨b, o, none⟩)) k := kLoad_elt (c := ⟨Tryz.prog, X, q⟩) hr hv Tryz.underlying83 rfl Tryz.typeInfo83 hs.symm h
theorem xLdB83 {X : Chain → World → Prop} {q : Bool} {w : World} {k : Value → World → Prop} {w0 : World} {L : List Own} (hS : St w0 L w) (i : Nat) {b : Nat} {t : TypeId} {cs : Array Value} (hi : L[i]? = some (.bx b t cs)) (hn : cs.size = 29) (h : k (.agg cs) w) : kLoad ⟨Tryz.prog, X, q⟩ w 83 (.pointer (some ⟨b, 0, none⟩)) k := kLoadA_st (c := ⟨Tryz.prog, X, q⟩) hS i hi Tryz.underlying83 rfl Tryz.sizeOf83 hn.symm h
theorem xLdE92 {X : Chain → World → Prop} {q : Bool} {w : World} {k : Value → World → Prop} {b o : Nat} {v : Value} (hr : w.rangeAt b o v.cells.toList) (hv : Value.agg v.cells = v) (hs : v.cells.size = 3) (h : k v w) : kLoad ⟨Tryz.prog, X, q⟩ w 92 (.pointer (some ⟨b, o, none⟩)) k := kLoad_elt (c := ⟨Tryz.prog, X, q⟩) hr hv Tryz.underlying92 rfl Tryz.typeInfo92 hs.symm h
theorem xLdB92 {X : Chain → World → Prop} {q : Bool} {w : World} {k : Value → World → Prop} {w0 : World} {L : List Own} (hS : St w0 L w) (i : Nat) {b : Nat} {t : TypeId} {cs : Array Value} (hi : L[i]? = some (.bx b t cs)) (hn : cs.size = 3) (h : k (.agg cs) w) : kLoad ⟨Tryz.prog, X, q⟩ w 92 (.pointer (some ⟨b, 0, none⟩)) k := kLoadA_st (c := ⟨Tryz.prog, X, q⟩) hS i hi Tryz.underlying92 rfl Tryz.sizeOf92 hn.symm h
theorem xLdE107 {X : Chain → World → Prop} {q : Bool} {w : World} {k : Value → World → Prop} {b o : Nat} {v : Value} (hr : w.rangeAt b o v.cells.toList) (hv : Value.agg v.cells = v) (hs : v.cells.size = 3) (h : k v w) : kLoad ⟨Tryz.prog, X, q⟩ w 107 (.pointer (some ⟨b, o, none⟩)) k := kLoad_elt (c := ⟨Tryz.prog, X, q⟩) hr hv Tryz.underlying107 rfl Tryz.typeInfo107 hs.symm h
theorem xLdB107 {X : Chain → World → Prop} {q : Bool} {w : World} {k : Value → World → Prop} {w0 : World} {L : List Own} (hS : St w0 L w) (i : Nat) {b : Nat} {t : TypeId} {cs : Array Value} (hi : L[i]? = some (.bx b t cs)) (hn : cs.size = 3) (h : k (.agg cs) w) : kLoad ⟨Tryz.prog, X, q⟩ w 107 (.pointer (some ⟨b, 0, none⟩)) k := kLoadA_st (c := ⟨Tryz.prog, X, q⟩) hS i hi Tryz.underlying107 rfl Tryz.sizeOf107 hn.symm h
theorem xLdE113 {X : Chain → World → Prop} {q : Bool} {w : World} {k : Value → World → Prop} {b o : Nat} {v : Value} (hr : w.rangeAt b o v.cells.toList) (hv : Value.agg v.cells = v) (hs : v.cells.size = 174) (h : k v w) : kLoad ⟨Tryz.prog, X, q⟩ w 113 (.pointer (some ⟨b, o, none⟩)) k := kLoad_elt (c := ⟨Tryz.prog, X, q⟩) hr hv Tryz.underlying113 rfl Tryz.typeInfo113 hs.symm h
theorem xLdB113 {X : Chain → World → Prop} {q : Bool} {w : World} {k : Value → World → Prop} {w0 : World} {L : List Own} (hS : St w0 L w) (i : Nat) {b : Nat} {t : TypeId} {cs : Array Value} (hi : L[i]? = some (.bx b t cs)) (hn : cs.size = 174) (h : k (.agg cs) w) : kLoad ⟨Tryz.prog, X, q⟩ w 113 (.pointer (some ⟨b, 0, none⟩)) k := kLoadA_st (c := ⟨Tryz.prog, X, q⟩) hS i hi Tryz.underlying113 rfl Tryz.sizeOf113 hn.symm h
end Go.L
namespace Go.L
open Go Go.RowKit Go.Proofs
set_option linter.unusedSimpArgs false
set_option linter.unusedVariables false

def unit : Value := .tuple #[]
def pe (n : Int) (r : Bool) : PanicEntry := { v := .iface 69 (.int .i64 n), recovered := r }
theorem run_ta69 (v : Value) (w : World) : (Instr.typeAssert (.iface 69 v) 20 69 false).run Tryz.prog w = .ok v w := by
  simp [Instr.typeAssert, run_underlying Tryz.underlying69]
theorem caught_idle12 (p c : Value) (w : World) : CallsD Tryz.prog 12 #[p, c] .returning w fun e u' w' => e = .returned unit ∧ u' = .returning ∧ w' = w := by
  refine callsD_of_wpS Tryz.func12 rfl fun c₀ cs hu => ?_
  apply wpS_seq
  apply wpS_region
  simp [wpOpsS, go_sem, recoverD, hu, Tryz.ntmps12, Exit.thenS, Tryz.underlying20]
  apply wpS_seq
  apply wpS_region
  simp [wpOpsS, go_sem, recoverD, hu, Tryz.ntmps12, Exit.thenS, Tryz.underlying20]
  refine wpS_cond (t := false) (by simp [Act.eval, Array.replicate]) ?_
  simp only [Bool.false_eq_true, if_false]
  refine wpS_of_wp (wp_skip ?_)
  cases c₀
  simp_all [bodyPostS, results, Tryz.results12, unit]
theorem caught_panics12 (p : Addr) (x n : Int) (fc : FuncId) (caps : Array Value) (Rc : World → Prop) (w : World) (hc : w.cell? p = some (.int .i64 x)) (hz : w.frozen? p = false)
    (hf : ∀ args w, (callFunc fc args).run Tryz.prog w = .ok (.enter fc args) w) (hcl : Calls Tryz.prog fc caps (w.setCell p (.int .i64 n)) fun e w' => e = .returned unit ∧ Rc w') :
    CallsD Tryz.prog 12 #[.pointer (some p), .func (.func fc) #[] caps] (.panicking [pe n false]) w fun e u' w' =>
      e = .returned unit ∧ u' = .panicking [pe n true] ∧ Rc w' := by
  refine callsD_of_wpS Tryz.func12 rfl fun c₀ cs hu => ?_
  apply wpS_seq
  apply wpS_region
  simp [wpOpsS, go_sem, recoverD, hu, Tryz.ntmps12, Exit.thenS, Tryz.underlying20, pe]
  apply wpS_seq
  apply wpS_region
  simp [wpOpsS, go_sem, recoverD, hu, Tryz.ntmps12, Exit.thenS, Tryz.underlying20]
  refine wpS_cond (t := true) (by simp [Act.eval, Array.replicate]) ?_
  simp only [if_true]
  apply wpS_seq
  apply wpS_region
  simp [wpOpsS, go_sem, run_ta69, hc, hz, bodyPostS, results, Tryz.results12, Exit.thenS, Tryz.underlying69, Tryz.sizeOf69]
  apply wpS_region
  simp [wpOpsS, go_sem, hf, hc, hz, bodyPostS, results, Tryz.results12, Exit.thenS, Oper.upon]
  refine hcl.mono ?_
  rintro e w' ⟨rfl, h⟩
  exact ⟨rfl, h⟩
theorem conc69 : Tryz.prog.concrete 69 = true := by simp [Program.concrete, Tryz.underlying69]
theorem must14 (b : Bool) (n : Int) (w : World) (R : Ending → World → Prop) (h1 : b = true → R (.returned unit) w) (h2 : b = false → R (.panicked [pe n false]) w) : Calls Tryz.prog 14 #[.bool b, .int .i64 n] w R := by
  refine c14 _ _ _ _ ?_
  unfold vc14
  refine kUn_not (kIf_b (fun h => ?_) (fun h => ?_))
  · refine kMkI_c conc69 (kPanic_i ?_)
    exact h2 (by simpa using h)
  · exact h1 (by simpa using h)
theorem bytes_toList_inj {a b : ByteArray} : a.toList = b.toList ↔ a = b := by
  rw [ByteArray.toList_eq, ByteArray.toList_eq]
  obtain ⟨⟨x⟩⟩ := a
  obtain ⟨⟨y⟩⟩ := b
  simp
section
variable {c : Cx} {w : World} {k : Value → World → Prop} {t : TypeId}
theorem eqGuard_str (op : BinOp) (ox oy : Operand) (a : ByteArray) (v : Value) : eqGuard op t ox oy (.string a) v = pure () := by cases op <;> rfl
end
section
variable {c : Cx} {w : World} {k : Value → World → Prop} {t : TypeId}
theorem kEq_str {a b : ByteArray} {ox oy : Operand} (h : k (.bool (decide (a = b))) w) : kEq c w .eql t ox oy (.string a) (.string b) k :=
  ⟨kVal_pure (fun w' => by
    rw [eqGuard_str, binOp_string_eql]
    have : (a.toList == b.toList) = decide (a = b) := by
      by_cases hab : a = b
      · subst hab; simp
      · have : a.toList ≠ b.toList := fun h => hab (bytes_toList_inj.1 h)
        simp [this, hab]
    rw [this]; rfl) h⟩
end
section
variable {c : Cx} {w : World} {k : Value → World → Prop} {t : TypeId}
theorem kIf_eq {a b : Int} {A B : Prop} (h1 : a = b → A) (h2 : a ≠ b → B) : kIf (.bool (a == b)) A B :=
  kIf_b (fun h => h1 (by simpa using h)) (fun h => h2 (by simpa using h))
end
section
variable {c : Cx} {w : World} {k : Value → World → Prop} {t : TypeId}
theorem kIf_ne {a b : Int} {A B : Prop} (h1 : a ≠ b → A) (h2 : a = b → B) : kIf (.bool (a != b)) A B :=
  kIf_b (fun h => h1 (by simpa using h)) (fun h => h2 (by simpa using h))
end
theorem kLd {X : Chain → World → Prop} {q : Bool} {w0 w : World} {L : List Own} {k : Value → World → Prop} {t' : TypeId} (hS : St w0 L w) (i : Nat) {b : Nat} {t : TypeId} {cs : Array Value} (hi : L[i]? = some (.bx b t cs)) {off : Nat} {v : Value} (hv : cs[off]? = some v) (ht : scal t' = true) (h : k v w) :
    kLoad ⟨Tryz.prog, X, q⟩ w t' (.pointer (some ⟨b, off, none⟩)) k := kLoad_st (c := ⟨Tryz.prog, X, q⟩) hS i hi hv (scal_agg ht) h
theorem kSt {X : Chain → World → Prop} {w0 w : World} {L : List Own} {t' : TypeId} {k : World → Prop} (hS : St w0 L w) (i : Nat) {b : Nat} {t : TypeId} {cs : Array Value} (hi : L[i]? = some (.bx b t cs)) {off : Nat} (hoff : off < cs.size) {v : Value} (hv : v.cells = #[v]) (h1 : v.oneCell' = true) (ht : scal t' = true)
    (h : ∀ W, St w0 (L.set i (.bx b t (cs.setIfInBounds off v))) W → k W) : kStore ⟨Tryz.prog, X, false⟩ w t' (.pointer (some ⟨b, off, none⟩)) v k := kStore_st hS i hi hoff hv h1 (scal_size ht) h
theorem kLen9 {X : Chain → World → Prop} {q : Bool} {w : World} {k : Value → World → Prop} {ty : TypeId} {s : ByteArray} {cs : Array Bool} (h : k (.int .i64 s.size) w) : kBlt ⟨Tryz.prog, X, q⟩ w .len #[9] ty cs #[.string s] k := kLen_str (c := ⟨Tryz.prog, X, q⟩) Tryz.underlying9 h
theorem wrap_id {a : Int} (h0 : -9223372036854775808 ≤ a) (h1 : a ≤ 9223372036854775807) : IntKind.i64.wrap a = a := by
  simp [IntKind.wrap, IntKind.bits, IntKind.signed]; omega
theorem kCallV_i {P : Program} {X : Chain → World → Prop} {w : World} {f : FuncId} {args caps : Array Value} {k : Value → World → Prop} (hc : (callFunc f (args ++ caps)).run P w = .ok (.enter f (args ++ caps)) w)
    (h : Calls P f (args ++ caps) w (after k X)) : kCallV ⟨P, X, false⟩ w (.func (.func f) #[] caps) args k := ⟨by
  show kNext _ _ _
  have : (do let d ← Deferred.ofValue (.func (.func f) #[] caps) args; invoke d.target d.args : Sem Next).run P w = .ok (.enter f (args ++ caps)) w := by
    simp [Deferred.ofValue, invoke, hc]
  rw [this]; exact h⟩
section
variable {P : Program} {X : Chain → World → Prop} {w w0 : World} {L : List Own} {k : Value → World → Prop} {c : Cx}
theorem kMkMap_st {t : TypeId} (hS : St w0 L w) (h : ∀ b W, St w0 (L ++ [.ob b (.map #[] 0)]) W → k (.map (some b)) W) : kMkMap ⟨P, X, false⟩ w t none k :=
  ⟨kVal_do (run_makeMap_plain w t) (h _ _ (hS.push (World.grownBy_alloc w _ _) ⟨hS.size, World.alloc_heap_new w _⟩ (fun k hk => by cases hk; exact Nat.le_refl _)))⟩
end
section
variable {P : Program} {X : Chain → World → Prop} {w w0 : World} {L : List Own} {k : Value → World → Prop} {c : Cx}
theorem kUpd_st {k : World → Prop} {t kt et : TypeId} {d : TypeDesc} {key v : Value} (hS : St w0 L w) (i : Nat) {b clock : Nat} {es : Array MapEntry} (hi : L[i]? = some (.ob b (.map es clock))) (hm : P.underlying t = some (.map kt et)) (hk : P.underlying kt = some d)
    (hkey : MapKept.IsKey d key) (hf : Instr.findNow d key es.toList 0 = some none) (h : ∀ W, St w0 (L.set i (.ob b (.map (es.push { key, val := v, born := clock }) (clock + 1)))) W → k W) : kUpd ⟨P, X, false⟩ w t (.map (some b)) key v k := by
  have hg := hS.get i hi
  have hb : b < w.heap.size := (Array.getElem?_eq_some_iff.1 hg.2).1
  have hc : (Instr.checkKey false 10000 kt key).run P w = .ok () w := MapKept.run_checkKey hk hkey false 9999
  refine ⟨kUnit_do (w' := { w with heap := w.heap.setIfInBounds b (.map (es.push { key, val := v, born := clock }) (clock + 1)) }) ?_ (h _ (hS.set i hi ?_ ⟨hg.1, by simp [hb]⟩ (.inl rfl)))⟩
  · simp [Instr.mapUpdate, run_underlying hm, MapKept.run_getObj_map hg.2, hc, MapKept.run_findKey hk hf, MapKept.run_setObj_map _ hg.2, Result.andThen]
  · refine ⟨rfl, rfl, rfl, by simp, fun j hj hne => ?_⟩
    have : b ≠ j := fun e => hne (by rw [← e]; rfl)
    simp [Array.getElem?_setIfInBounds_ne this]
end
section
variable {P : Program} {X : Chain → World → Prop} {w w0 : World} {L : List Own} {k : Value → World → Prop} {c : Cx}
theorem kLook_map {t kt et : TypeId} {d : TypeDesc} {key v : Value} {b clock j : Nat} {es : Array MapEntry} (hb : w.heap[b]? = some (.map es clock)) (hm : c.P.underlying t = some (.map kt et)) (hk : c.P.underlying kt = some d)
    (hkey : MapKept.IsKey d key) (hf : Instr.findNow d key es.toList 0 = some (some (j, v))) (h : k v w) : kLook c w t (.map (some b)) key false k :=
  ⟨kVal_look (fun n => by
    have hg : (w.drewN n).heap[b]? = some (.map es clock) := hb
    have hc : ∀ e, (Instr.checkKey e 10000 kt key).run c.P (w.drewN n) = .ok () (w.drewN n) := fun e => MapKept.run_checkKey hk hkey e 9999
    simp [Instr.lookup, run_underlying hm, MapKept.run_getObj_map hg, hc, MapKept.run_findKey hk hf, Result.andThen]) h⟩
end
section
variable {c : Cx} {w : World} {k : Value → World → Prop}
/-- A look into a map, and whether it is there. -/
theorem kLook2_map {t kt et : TypeId} {d : TypeDesc} {key v : Value} {b clock j : Nat} {es : Array MapEntry} (hb : w.heap[b]? = some (.map es clock)) (hm : c.P.underlying t = some (.map kt et)) (hk : c.P.underlying kt = some d)
    (hkey : MapKept.IsKey d key) (hf : Instr.findNow d key es.toList 0 = some (some (j, v))) (h : k (.tuple #[v, .bool true]) w) : kLook c w t (.map (some b)) key true k :=
  ⟨kVal_look (fun n => by
    have hg : (w.drewN n).heap[b]? = some (.map es clock) := hb
    have hc : ∀ e, (Instr.checkKey e 10000 kt key).run c.P (w.drewN n) = .ok () (w.drewN n) := fun e => MapKept.run_checkKey hk hkey e 9999
    simp [Instr.lookup, run_underlying hm, MapKept.run_getObj_map hg, hc, MapKept.run_findKey hk hf, Result.andThen]) h⟩
end
theorem kDrawn_i {A : Prop} (h : A) : kDrawn true A := ⟨rfl, h⟩
theorem kDrew_st {w0 w : World} {L : List Own} {f : World → Prop} (hS : St w0 L w) (h : ∀ W, St w0 L W → f W) : kDrew w f := ⟨fun n => h _ (hS.drewN n)⟩
theorem kSame_i {v : Value} {A : Prop} (h : A) : kSame v v A := ⟨rfl, h⟩
theorem kBoth_i {A B : Prop} (h : A) (h' : B) : kBoth A B := ⟨h, h'⟩
theorem kJn_inv {f : (List Value → World → Prop) → Prop} {a : List Value → World → Prop} (I : List Value → World → Prop) (ha : ∀ cs W, I cs W → a cs W) (hf : ∀ J, (∀ cs W, I cs W → J cs W) → f J) : kJn f a := ⟨hf _ ha⟩
theorem RetK_cell {R : Ending → World → Prop} {w : World} {a : Addr} {t : TypeId} {v : Value} (ht : scal t = true) (hc : w.cell? a = some v) (h : R (.returned v) w) : RetK Tryz.prog [.cell (.pointer (some a)) t] R w :=
  ⟨v, by simp [resSem, asAddr, loadVar, scal_agg ht, hc], h⟩
theorem St.setCell {w0 w : World} {L : List Own} (hS : St w0 L w) (i : Nat) {b : Nat} {t : TypeId} {cs : Array Value} (hi : L[i]? = some (.bx b t cs)) (off : Nat) (v : Value) : St w0 (L.set i (.bx b t (cs.setIfInBounds off v))) (w.setCell ⟨b, off, none⟩ v) := by
  have hg := hS.get i hi
  have hheap : (w.setCell ⟨b, off, none⟩ v).heap[b]? = some (.cells (cs.setIfInBounds off v) t (0, 0)) := by
    simp [World.setCell, Array.getElem?_modify, hg.2]
  refine hS.set i hi ?_ ⟨hg.1, hheap⟩ (.inl rfl)
  refine ⟨rfl, rfl, rfl, by simp [World.setCell], fun k hk hne => ?_⟩
  exact Below.heap_setCell w ⟨b, off, none⟩ v k (fun e => hne (by rw [e]; rfl))
theorem St.unfrozen {w0 w : World} {L : List Own} (hS : St w0 L w) (i : Nat) {b : Nat} {t : TypeId} {cs : Array Value} (hi : L[i]? = some (.bx b t cs)) (off : Nat) : w.frozen? ⟨b, off, none⟩ = false := by
  simp [World.frozen?, (hS.get i hi).2]
theorem Lv_ret12 {p c : Value} {rs : List RV} {R : Ending → World → Prop} {w : World} (h : RetK Tryz.prog rs R w) : Lv Tryz.prog rs R [{ target := .fn (.func 12) #[], args := #[p, c] }] .returning w :=
  ⟨rfl, Tryz.call12, (caught_idle12 p c w).mono (by rintro e u' w' ⟨rfl, rfl, rfl⟩; exact h)⟩
theorem Lv_pan12 {w0 : World} {L : List Own} {rs : List RV} {R : Ending → World → Prop} {w : World} (hS : St w0 L w) (i : Nat) {b : Nat} {t : TypeId} {x n : Int} (hi : L[i]? = some (.bx b t #[.int .i64 x]))
    {fc : FuncId} {caps : Array Value} (Rc : World → Prop) (hf : ∀ args w, (callFunc fc args).run Tryz.prog w = .ok (.enter fc args) w)
    (hcl : ∀ W, St w0 (L.set i (.bx b t #[.int .i64 n])) W → Calls Tryz.prog fc caps W fun e w' => e = .returned unit ∧ Rc w') (h : ∀ W, Rc W → RetK Tryz.prog rs R W) :
    Lv Tryz.prog rs R [{ target := .fn (.func 12) #[], args := #[.pointer (some ⟨b, 0, none⟩), .func (.func fc) #[] caps] }] (.panicking [pe n false]) w :=
  ⟨rfl, Tryz.call12, (caught_panics12 ⟨b, 0, none⟩ x n fc caps Rc w (hS.cell i hi 0 rfl) (hS.unfrozen i hi 0) hf (hcl _ (hS.setCell i hi 0 _))).mono (by rintro e u' w' ⟨rfl, rfl, hR⟩; exact h _ hR)⟩
theorem kStoreAR {P : Program} {X : Chain → World → Prop} {w0 w : World} {L : List Own} {t' : TypeId} {k : World → Prop} {b : Nat} {t : TypeId} {cs cs' : Array Value} (hS : St w0 (L ++ [.bx b t cs]) w) (hsz : cs.size = cs'.size) (h1 : cs'.all (·.oneCell') = true) (hs : ∀ w, (sizeOf t').run P w = .ok cs'.size w)
    (h : ∀ W, St w0 (L ++ [.bx b t cs']) W → k W) : kStore ⟨P, X, false⟩ w t' (.pointer (some ⟨b, 0, none⟩)) (.agg cs') k := kStoreA_st hS L.length at_r hsz h1 hs (fun W hS => h W (by rwa [set_r] at hS))
theorem row_cells {base : Nat} {w : World} {e : TypeId} {sz n : Nat} {x : Value} {xs : List Value} (h : w.ownsRow base e sz x n xs) : x.cells = #[x] ∧ x.oneCell' = true := by
  rcases h.2 with ⟨rfl, _⟩ | ⟨g, cap, cur, rfl, _⟩ <;> exact ⟨rfl, rfl⟩
theorem kIf_nd {p : Prop} [Decidable p] {A B : Prop} (h1 : ¬ p → A) (h2 : p → B) : kIf (.bool (!decide p)) A B := by
  by_cases h : p
  · rw [decide_eq_true h]; exact kIf_f (h2 h)
  · rw [decide_eq_false h]; exact kIf_t (h1 h)
theorem kBox_f {P : Program} {X : Chain → World → Prop} {w w0 : World} {L : List Own} {k : Value → World → Prop} {t : TypeId} {v : Value} (hS : St w0 L w) (h : ∀ b W, St w0 (.bx b t v.cells :: L) W → k (.pointer (some ⟨b, 0, none⟩)) W) : kBox ⟨P, X, false⟩ w t v k := kBox_st hS fun b W hS => h b W hS.front
theorem kAlloc_f {P : Program} {X : Chain → World → Prop} {w w0 : World} {L : List Own} {k : Value → World → Prop} {t : TypeId} {z : Value} (hz : ∀ w, (zeroValue t).run P w = .ok z w) (hS : St w0 L w) (h : ∀ b W, St w0 (.bx b t z.cells :: L) W → k (.pointer (some ⟨b, 0, none⟩)) W) : kAlloc ⟨P, X, false⟩ w t k := kAlloc_st hz hS fun b W hS => h b W hS.front
end Go.L
namespace Go.L
open Go Go.RowKit Go.Proofs
set_option linter.unusedSimpArgs false
set_option linter.unusedVariables false
set_option maxRecDepth 20000


/-- A statement that makes a table: its name, its columns. -/
def stmtL (nm : ByteArray) (cl : Value) : List Value := [.int .i64 3, .bool false, .slice none 0 0, .string ⟨#[]⟩, .string ⟨#[]⟩, .slice none 0 0, .int .i64 0, .int .i64 0, .int .i64 0, .string ⟨#[]⟩, .string ⟨#[]⟩, .string ⟨#[]⟩, .int .i64 0, .slice none 0 0, .slice none 0 0, .int .i64 0, .int .i64 0, .int .i64 0, .string ⟨#[]⟩, .string ⟨#[]⟩, .string ⟨#[]⟩, .int .i64 0, .slice none 0 0, .slice none 0 0, .int .i64 0, .int .i64 0, .string ⟨#[]⟩, .string ⟨#[]⟩, .slice none 0 0, .slice none 0 0, .bool false, .bool false, .slice none 0 0, .string ⟨#[]⟩, .string ⟨#[]⟩, .slice none 0 0, .int .i64 0, .int .i64 0, .int .i64 0, .string ⟨#[]⟩, .string ⟨#[]⟩, .string ⟨#[]⟩, .int .i64 0, .slice none 0 0, .slice none 0 0, .int .i64 0, .int .i64 0, .int .i64 0, .string ⟨#[]⟩, .string ⟨#[]⟩, .string ⟨#[]⟩, .int .i64 0, .slice none 0 0, .slice none 0 0, .int .i64 0, .slice none 0 0, .int .i64 0, .slice none 0 0, .int .i64 0, .int .i64 0, .int .i64 0, .string ⟨#[]⟩, .string ⟨#[]⟩, .string ⟨#[]⟩, .int .i64 0, .slice none 0 0, .string ⟨#[]⟩, .string ⟨#[]⟩, .int .i64 0, .int .i64 0, .int .i64 0, .string ⟨#[]⟩, .string ⟨#[]⟩, .string ⟨#[]⟩, .int .i64 0, .slice none 0 0, .slice none 0 0, .slice none 0 0, .string nm, cl, .slice none 0 0, .slice none 0 0, .slice none 0 0, .string ⟨#[]⟩, .string ⟨#[]⟩, .slice none 0 0, .bool false, .string ⟨#[]⟩, .slice none 0 0, .bool false, .slice none 0 0, .string ⟨#[]⟩, .string ⟨#[]⟩, .slice none 0 0, .int .i64 0, .int .i64 0, .int .i64 0, .string ⟨#[]⟩, .string ⟨#[]⟩, .string ⟨#[]⟩, .int .i64 0, .slice none 0 0, .slice none 0 0, .int .i64 0, .int .i64 0, .int .i64 0, .string ⟨#[]⟩, .string ⟨#[]⟩, .string ⟨#[]⟩, .int .i64 0, .slice none 0 0, .slice none 0 0, .int .i64 0, .int .i64 0, .string ⟨#[]⟩, .int .i64 0, .string ⟨#[]⟩, .int .i64 0, .string ⟨#[]⟩, .string ⟨#[]⟩, .slice none 0 0, .slice none 0 0, .bool false, .bool false, .slice none 0 0, .string ⟨#[]⟩, .string ⟨#[]⟩, .slice none 0 0, .int .i64 0, .int .i64 0, .int .i64 0, .string ⟨#[]⟩, .string ⟨#[]⟩, .string ⟨#[]⟩, .int .i64 0, .slice none 0 0, .slice none 0 0, .int .i64 0, .int .i64 0, .int .i64 0, .string ⟨#[]⟩, .string ⟨#[]⟩, .string ⟨#[]⟩, .int .i64 0, .slice none 0 0, .slice none 0 0, .int .i64 0, .slice none 0 0, .int .i64 0, .slice none 0 0, .int .i64 0, .int .i64 0, .int .i64 0, .string ⟨#[]⟩, .string ⟨#[]⟩, .string ⟨#[]⟩, .int .i64 0, .slice none 0 0, .string ⟨#[]⟩, .string ⟨#[]⟩, .int .i64 0, .int .i64 0, .int .i64 0, .string ⟨#[]⟩, .string ⟨#[]⟩, .string ⟨#[]⟩, .int .i64 0, .slice none 0 0, .slice none 0 0, .slice none 0 0, .string ⟨#[]⟩]
theorem stmtL_len (nm : ByteArray) (cl : Value) : (stmtL nm cl).length = 171 := rfl
/-- A thing: of which stock, its name, its fields. -/
structure ThV (v : Value) (k : Int) (nm : ByteArray) (fl : Value) : Prop where
  of : ∃ cs : Array Value, v = .agg cs ∧ cs.size = 174 ∧ cs[171]? = some (.int .i64 k) ∧ cs[172]? = some (.string nm) ∧ cs[173]? = some fl ∧ ∀ u ∈ cs.toList, u.oneCell' = true
theorem ThV.size {v fl : Value} {k : Int} {nm : ByteArray} (h : ThV v k nm fl) : v.cells.size = 174 := by
  obtain ⟨cs, rfl, hs, _⟩ := h.of; exact hs
theorem ThV.one {v fl : Value} {k : Int} {nm : ByteArray} (h : ThV v k nm fl) : ∀ u ∈ v.cells.toList, u.oneCell' = true := by
  obtain ⟨cs, rfl, _, _, _, _, h⟩ := h.of; exact h
theorem none15 {w0 w : World} {L : List Own} (hS : St w0 L w) (i : Nat) {bs : Nat} {th : Value} (hi : L[i]? = some (.bx bs 96 #[th, .bool true])) (R : Ending → World → Prop) (h : R (.returned (.bool false)) w) : Calls Tryz.prog 15 #[.pointer (some ⟨bs, 0, none⟩)] w R := by
  refine c15 _ _ _ ?_
  unfold vc15
  refine ⟨kVal_pure (v := .bool false) (fun w' => by
    rw [eqGuard_at_pointer]; simp only [Sem.run_bind, Sem.run_pure, Result.andThen_ok]
    exact run_eql_pointer_nil w' 23 _ (by show Tryz.prog.underlying 23 = some (.pointer (Tryz.prog.pointee 23)); rw [show Tryz.prog.pointee 23 = 96 by simp [Program.pointee, Tryz.underlying23]]; exact Tryz.underlying23)) (kIf_f (kNil_p (xFa96_1 (kLd hS i hi rfl rfl (kUn_not h)))))⟩
theorem at42 {w0 w : World} {L : List Own} (hS : St w0 L w) (i j : Nat) {b0 b1 : Nat} {k k' : Int} {nm nm' : ByteArray} {t fl : Value} (h0 : L[i]? = some (.bx b0 104 #[.int .i64 k])) (h1 : L[j]? = some (.bx b1 9 #[.string nm])) (hT : ThV t k' nm' fl) (R : Ending → World → Prop)
    (h : ∀ W, St w0 L W → R (.returned (.bool (decide (k' = k ∧ nm' = nm)))) W) : Calls Tryz.prog 42 #[t, .pointer (some ⟨b0, 0, none⟩), .pointer (some ⟨b1, 0, none⟩)] w R := by
  refine c42 _ _ _ _ _ ?_
  unfold vc42
  obtain ⟨cs, rfl, hs, e1, e2, e3, _⟩ := hT.of
  refine kBox_st hS fun b3 W hS => ?_
  have e : (Value.agg cs).cells = cs := rfl
  rw [e] at hS
  have hf : St w0 L W := hS.init
  refine xFa113_1 (kLd hS _ at_r (by rw [Nat.zero_add]; exact e1) rfl (kLd hS i (at_l h0) rfl rfl (kEq_int (kIf_b (fun q => ?_) (fun q => ?_)))))
  · have q : k' = k := by simpa using q
    refine xFa113_2 (kLd hS _ at_r (by rw [Nat.zero_add]; exact e2) rfl (kLd hS j (at_l h1) rfl rfl (kEq_str ?_)))
    have := h W hf
    rwa [show decide (k' = k ∧ nm' = nm) = decide (nm' = nm) by simp [q]] at this
  · have q : ¬ k' = k := by simpa using q
    have := h W hf
    rwa [show decide (k' = k ∧ nm' = nm) = false by simp [q]] at this
/-- Things, as they read. -/
structure Ths (vs : List Value) (ts : List (Int × ByteArray)) : Prop where
  len : vs.length = ts.length
  of : ∀ (i : Nat) (t : Int × ByteArray), ts[i]? = some t → ∃ v fl, vs[i]? = some v ∧ ThV v t.1 t.2 fl
theorem Ths.size {vs : List Value} {ts : List (Int × ByteArray)} (h : Ths vs ts) : ∀ v ∈ vs, v.cells.size = 174 ∧ ∀ u ∈ v.cells.toList, u.oneCell' = true := by
  intro v hv
  obtain ⟨i, hi⟩ := List.mem_iff_getElem?.1 hv
  have hl : i < ts.length := by rw [← h.len]; exact (List.getElem?_eq_some_iff.1 hi).1
  obtain ⟨v', fl, hv', hT⟩ := h.of i ts[i] (by simp [hl])
  rw [hi] at hv'; cases hv'
  exact ⟨hT.size, hT.one⟩
theorem IndexFunc41 {w0 w : World} {L : List Own} (hS : St w0 L w) (i j : Nat) {b0 b1 n cp : Nat} {k : Int} {nm : ByteArray} {a : Option Addr} {vs : List Value} {ts : List (Int × ByteArray)} (h0 : L[i]? = some (.bx b0 104 #[.int .i64 k])) (h1 : L[j]? = some (.bx b1 9 #[.string nm]))
    (hr : ∀ V, St w0 L V → Sl V a 174 vs) (hT : Ths vs ts) (hn : ts.length = n) (hm : n ≤ 1000) (R : Ending → World → Prop)
    (hno : (∀ t ∈ ts, t ≠ (k, nm)) → ∀ W, St w0 L W → R (.returned (.int .i64 (-1))) W) (hyes : ∀ (x : Nat), ts[x]? = some (k, nm) → ∀ W, St w0 L W → R (.returned (.int .i64 x)) W) :
    Calls Tryz.prog 41 #[.slice a n cp, .func (.func 42) #[] #[.pointer (some ⟨b0, 0, none⟩), .pointer (some ⟨b1, 0, none⟩)]] w R := by
  refine c41 _ _ _ _ _ _ ?_
  unfold vc41
  refine xLen94 ?_
  refine ⟨⟨fun cs V => ∃ x : Nat, cs = [.int .i64 x] ∧ x ≤ n ∧ (∀ t ∈ ts.take x, t ≠ (k, nm)) ∧ St w0 L V, fun cs _ => n - (match cs with | [.int _ x] => x.toNat | _ => 0), ⟨0, rfl, Nat.zero_le _, by simp, hS⟩, ?_⟩⟩
  rintro cs ds V ⟨x, rfl, hx, hd, hS⟩
  dsimp only [List.getD_cons_zero]
  refine kBin_lss (kIf_d (fun e => ?_) (fun e => ?_))
  rotate_left
  · have hxe : x = ts.length := by omega
    rw [hxe, List.take_length] at hd
    exact hno hd V hS
  have hxl : x < n := by omega
  obtain ⟨v, fl, hv, hV⟩ := hT.of x ts[x] (by rw [List.getElem?_eq_getElem])
  have hsl := hr V hS
  obtain ⟨b, o, rfl, hb, hg⟩ := hsl.elem hv
  have hagg : Value.agg v.cells = v := by obtain ⟨cs, rfl, _⟩ := hV.of; rfl
  refine xIa94 hxl (xLdE113 hg hagg hV.size (kCallV_i (Tryz.call42 _ _) (at42 hS i j h0 h1 hV _ fun W hS => kIf_d (fun q => ?_) (fun q => ?_))))
  · refine hyes x ?_ W hS
    rw [List.getElem?_eq_getElem (by omega)]
    exact congrArg some (Prod.ext q.1 q.2)
  · refine kBin_add (kD_i ⟨⟨x + 1, ?_, hxl, fun t ht => ?_, hS⟩, ?_⟩)
    · rw [wrap_id (by omega) (by omega)]; rfl
    · rw [List.take_add_one, List.getElem?_eq_getElem (by omega)] at ht
      rcases List.mem_append.1 ht with ht | ht
      · exact hd t ht
      · simp at ht; subst ht
        exact fun hp => q (by rw [hp]; exact ⟨rfl, rfl⟩)
    · rw [wrap_id (by omega) (by omega)]; show n - ((x : Int) + 1).toNat < n - (x : Int).toNat; omega
theorem at19 {w0 w : World} {L : List Own} (hS : St w0 L w) {n cp : Nat} {k : Int} {nm : ByteArray} {a : Option Addr} {vs : List Value} {ts : List (Int × ByteArray)}
    (hr : ∀ V, St w0 L V → Sl V a 174 vs) (hT : Ths vs ts) (hn : ts.length = n) (hm : n ≤ 1000) (R : Ending → World → Prop)
    (hno : (∀ t ∈ ts, t ≠ (k, nm)) → ∀ W, St w0 L W → R (.returned (.int .i64 (-1))) W) (hyes : ∀ (x : Nat), ts[x]? = some (k, nm) → ∀ W, St w0 L W → R (.returned (.int .i64 x)) W) :
    Calls Tryz.prog 19 #[.slice a n cp, .int .i64 k, .string nm] w R := by
  refine c19 _ _ _ _ _ _ _ ?_
  unfold vc19
  refine kBox_st hS fun b0 W hS => kBox_st hS fun b1 W hS => ?_
  refine kCall_i (Tryz.call41 _ _) (IndexFunc41 hS L.length (L ++ [Own.bx b0 104 #[.int .i64 k]]).length (at_l at_r) at_r (fun V hV => hr V hV.init.init) hT hn hm _ (fun q W hS => ?_) (fun x q W hS => ?_))
  · exact hno q W hS.init.init
  · exact hyes x q W hS.init.init
/-- Things that are held, as they read. -/
theorem Ths.sl {vs : List Value} {ts : List (Int × ByteArray)} (hT : Ths vs ts) {w0 w : World} {L : List Own} (hS : St w0 L w) (r : Nat) {n cp : Nat} {a : Option Addr} (hr : L[r]? = some (.row (.slice a n cp) 113 174 n (flat vs))) (hn : ts.length = n) : Sl w a 174 vs := by
  obtain ⟨a', c', he, hsl⟩ := Sl.of_owns (fun v hv => (hT.size v hv).1) (show w.ownsRow w0.heap.size 113 174 (.slice a n cp) n (flat vs) from hS.get r hr) (by rw [hT.len, hn])
  cases he
  exact hsl
theorem Clone21 {w0 w : World} {L : List Own} (hS : St w0 L w) (r : Nat) {n cp : Nat} {a : Option Addr} {vs : List Value} {ts : List (Int × ByteArray)}
    (hr : L[r]? = some (.row (.slice a n cp) 113 174 n (flat vs))) (hT : Ths vs ts) (hn : ts.length = n) (hm : n ≤ 1000) (R : Ending → World → Prop)
    (h : ∀ x W, St w0 (L ++ [.row x 113 174 n (flat vs)]) W → R (.returned x) W) : Calls Tryz.prog 21 #[.slice a n cp] w R := by
  refine c21 _ _ _ _ _ ?_
  unfold vc21
  refine kEqNil (c := ⟨Tryz.prog, _, false⟩) Tryz.underlying94 ?_
  have hown : w.ownsRow w0.heap.size 113 174 (.slice a n cp) n (flat vs) := hS.get r hr
  have hvl : vs.length = n := by rw [hT.len, hn]
  cases a with
  | none =>
    have hvs : n = 0 := by
      rcases hown.2 with ⟨he, _⟩ | ⟨g, cap, cur, he, _⟩
      · cases he; rfl
      · cases he
    have : vs = [] := List.eq_nil_of_length_eq_zero (by omega)
    subst this
    subst hvs
    refine kIf_t (h _ w (hS.adopt (World.ownsRow_nil _ _ _ _) fun p hp => ?_))
    cases p.blk with
    | none => exact .inl rfl
    | some k => exact .inr (by simp [Own.blk, Value.ownBlock])
  | some ad =>
    refine kIf_f (kBuildS0 (xE94 w) hS fun x W hS => ?_)
    obtain ⟨a', c', he, hsl⟩ := Sl.of_owns (fun v hv => (hT.size v hv).1) (show W.ownsRow w0.heap.size 113 174 (.slice (some ad) n cp) n (flat vs) from hS.get r (at_l hr)) hvl
    cases he
    have hsrc := Src.of_sl hsl hvl.symm (by simp) (cp := cp) (n := n)
    refine kAppSrc_st (xE94 W) hS L.length at_r hsrc (m := n) hvl (fun v hv => (hT.size v hv).2) (by simp only [maxLen]; omega) (by omega) fun x' W hS => ?_
    rw [set_r, Nat.zero_add, List.nil_append] at hS
    exact h x' W hS
end Go.L
namespace Go.L
open Go Go.RowKit Go.Proofs
set_option linter.unusedSimpArgs false
set_option linter.unusedVariables false
set_option maxRecDepth 20000

theorem kLook2_none {P : Program} {X : Chain → World → Prop} {q : Bool} {w : World} {k : Value → World → Prop} {t kt et : TypeId} {d : TypeDesc} {key z : Value} {b clock : Nat} {es : Array MapEntry} (hb : w.heap[b]? = some (.map es clock)) (hm : P.underlying t = some (.map kt et)) (hk : P.underlying kt = some d)
    (hkey : MapKept.IsKey d key) (hf : Instr.findNow d key es.toList 0 = some none) (hz : ∀ w, (zeroValue et).run P w = .ok z w) (h : k (.tuple #[z, .bool false]) w) : kLook ⟨P, X, q⟩ w t (.map (some b)) key true k :=
  ⟨kVal_look (c := ⟨P, X, q⟩) (fun n => by
    have hg : (w.drewN n).heap[b]? = some (.map es clock) := hb
    have hc : ∀ e, (Instr.checkKey e 10000 kt key).run P (w.drewN n) = .ok () (w.drewN n) := fun e => MapKept.run_checkKey hk hkey e 9999
    simp [Instr.lookup, run_underlying hm, MapKept.run_getObj_map hg, hc, MapKept.run_findKey hk hf, Result.andThen, hz]) h⟩
/-- What statements drop, create. -/
def dropE : Array MapEntry := #[⟨.int .i64 7, .func (.func 29) #[] #[], 0⟩, ⟨.int .i64 9, .func (.func 30) #[] #[], 1⟩, ⟨.int .i64 8, .func (.func 31) #[] #[], 2⟩, ⟨.int .i64 10, .func (.func 32) #[] #[], 3⟩]
def crE (s : Int) (f g : Nat) : Value := .agg #[.int .i64 s, .func (.func f) #[] #[], .func (.func g) #[] #[]]
def creE : Array MapEntry := #[⟨.int .i64 3, crE 0 33 34, 0⟩, ⟨.int .i64 5, crE 0 35 36, 1⟩, ⟨.int .i64 4, crE 1 37 38, 2⟩, ⟨.int .i64 6, crE 2 39 40, 3⟩]
theorem drops17 {w0 w : World} {L : List Own} (hS : St w0 L w) (R : Ending → World → Prop) (h : ∀ b W, St w0 (.ob b (.map dropE 4) :: L) W → R (.returned (.map (some b))) W) : Calls Tryz.prog 17 #[] w R := by
  refine c17 _ _ ?_
  unfold vc17
  refine kMkMap_st hS fun b W hS => ?_
  have hS := hS.front
  refine kUpd_st hS 0 rfl Tryz.underlying102 Tryz.underlying25 rfl rfl fun W hS => ?_
  refine kUpd_st hS 0 rfl Tryz.underlying102 Tryz.underlying25 rfl rfl fun W hS => ?_
  refine kUpd_st hS 0 rfl Tryz.underlying102 Tryz.underlying25 rfl rfl fun W hS => ?_
  refine kUpd_st hS 0 rfl Tryz.underlying102 Tryz.underlying25 rfl rfl fun W hS => ?_
  exact h b W hS
theorem built107 (s : Int) (f g : Nat) : Tryz.prog.built 107 [(0, .int .i64 s), (1, .func (.func f) #[] #[]), (2, .func (.func g) #[] #[])] = some #[.int .i64 s, .func (.func f) #[] #[], .func (.func g) #[] #[]] := by kernel_rfl
theorem creates18 {w0 w : World} {L : List Own} (hS : St w0 L w) (R : Ending → World → Prop) (h : ∀ b W, St w0 (.ob b (.map creE 4) :: L) W → R (.returned (.map (some b))) W) : Calls Tryz.prog 18 #[] w R := by
  refine c18 _ _ ?_
  unfold vc18
  refine kMkMap_st hS fun b W hS => ?_
  have hS := hS.front
  refine kBuild_i (built107 _ _ _) (kUpd_st hS 0 rfl Tryz.underlying109 Tryz.underlying25 rfl rfl fun W hS => ?_)
  refine kBuild_i (built107 _ _ _) (kUpd_st hS 0 rfl Tryz.underlying109 Tryz.underlying25 rfl rfl fun W hS => ?_)
  refine kBuild_i (built107 _ _ _) (kUpd_st hS 0 rfl Tryz.underlying109 Tryz.underlying25 rfl rfl fun W hS => ?_)
  refine kBuild_i (built107 _ _ _) (kUpd_st hS 0 rfl Tryz.underlying109 Tryz.underlying25 rfl rfl fun W hS => ?_)
  exact h b W hS
theorem name33 (nm : ByteArray) (cl : Value) (w : World) (R : Ending → World → Prop) {w0 : World} {L : List Own} (hS : St w0 L w) (h : ∀ W, St w0 L W → R (.returned (.string nm)) W) : Calls Tryz.prog 33 #[.agg (stmtL nm cl).toArray] w R := by
  refine c33 _ _ _ ?_
  unfold vc33
  refine kBox_f hS fun b W hS => xFa61_3 (xFa52_0 (kLd hS 0 rfl (by rfl) rfl (h W hS.tail)))
theorem idle13 (w : World) (R : Ending → World → Prop) (h : R (.returned unit) w) : Calls Tryz.prog 13 #[] w R := by
  refine c13 _ _ ?_
  unfold vc13
  exact h
theorem num6 (e : Int) (w : World) (R : Ending → World → Prop) (h : R (.returned (.int .i64 e)) w) : Calls Tryz.prog 6 #[.int .i64 e] w R := by
  refine c6 _ _ _ ?_
  unfold vc6
  exact h
theorem built96 : Tryz.prog.built 96 [(1, .bool true)] = some #[.slice none 0 0, .bool true] := by kernel_rfl
theorem New5 {w0 w : World} {L : List Own} (hS : St w0 L w) (R : Ending → World → Prop) (h : ∀ b W, St w0 (.bx b 96 #[.slice none 0 0, .bool true] :: L) W → R (.returned (.pointer (some ⟨b, 0, none⟩))) W) : Calls Tryz.prog 5 #[] w R := by
  refine c5 _ _ ?_
  unfold vc5
  exact kBuild_i built96 (kBox_f hS fun b W hS => h b W hS)
end Go.L
namespace Go.L
open Go Go.RowKit Go.Proofs
set_option linter.unusedSimpArgs false
set_option linter.unusedVariables false
set_option maxRecDepth 20000

/-- The names of columns, of tables. -/
def colB (i : Nat) : ByteArray := ⟨#[99, UInt8.ofNat (97 + i % 26), UInt8.ofNat (97 + i / 26)]⟩
def tB (i : Nat) : ByteArray := ⟨#[116, UInt8.ofNat (97 + i % 26), UInt8.ofNat (97 + i / 26)]⟩
def colL (i : Nat) : List Value := [.string (colB i), .int .i64 2, .bool false, .bool false, .bool false, .int .i64 0, .int .i64 0, .int .i64 0, .string ⟨#[]⟩, .string ⟨#[]⟩, .string ⟨#[]⟩, .int .i64 0, .slice none 0 0, .string ⟨#[]⟩, .string ⟨#[]⟩, .int .i64 0]
def colsF (c : Nat) : List Value := (List.range c).flatMap colL
def fldL (sa : ByteArray) (i : Nat) : List Value := [.string sa, .string (colB i), .int .i64 2]
def fldsF (sa : ByteArray) (c : Nat) : List Value := (List.range c).flatMap (fldL sa)
/-- What is made of a table's statement. -/
def newL (nm : ByteArray) (cl fl : Value) : List Value := stmtL nm cl ++ [.int .i64 0, .string ⟨#[]⟩, fl]
def thL (nm : ByteArray) (cl fl : Value) : List Value := stmtL nm cl ++ [.int .i64 0, .string nm, fl]
/-- What an evaluation shows of a table's statement of so many columns. -/
structure Pieces (c : Nat) : Prop where
  check : ∀ {w0 w : World} {L : List Own} (i k : Nat) {a : Option Addr} {cp : Nat}, St w0 L w → k < 70 → L[i]? = some (.row (.slice a c cp) 67 16 c (colsF c)) → ∀ R : Ending → World → Prop,
    (∀ W, St w0 L W → R (.returned (.int .i64 0)) W) → Calls Tryz.prog 16 #[.agg (stmtL (tB k) (.slice a c cp)).toArray] w R
  cloned : ∀ {w0 w : World} {L : List Own} (i k : Nat) {a : Option Addr} {cp : Nat}, St w0 L w → k < 70 → L[i]? = some (.row (.slice a c cp) 67 16 c (colsF c)) → ∀ R : Ending → World → Prop,
    (∀ W a' cp', St w0 (.row (.slice a' c cp') 67 16 c (colsF c) :: L) W → R (.returned (.agg (stmtL (tB k) (.slice a' c cp')).toArray)) W) → Calls Tryz.prog 20 #[.agg (stmtL (tB k) (.slice a c cp)).toArray] w R
  newT : ∀ {w0 w : World} {L : List Own} (i k : Nat) {a : Option Addr} {cp bs : Nat}, St w0 L w → k < 70 → L[i]? = some (.row (.slice a c cp) 67 16 c (colsF c)) → ∀ R : Ending → World → Prop,
    (∀ W a' cp', St w0 (.row (.slice a' c cp') 92 3 c (fldsF ⟨#[]⟩ c) :: L) W → R (.returned (.agg (newL (tB k) (.slice a c cp) (.slice a' c cp')).toArray)) W) → Calls Tryz.prog 34 #[.pointer (some ⟨bs, 0, none⟩), .agg (stmtL (tB k) (.slice a c cp)).toArray] w R
theorem thL_th (nm : ByteArray) (a a' : Option Addr) (c cp c' cp' : Nat) : ThV (.agg (thL nm (.slice a c cp) (.slice a' c' cp')).toArray) 0 nm (.slice a' c' cp') :=
  ⟨_, rfl, rfl, rfl, rfl, rfl, fun u hu => List.all_eq_true.1 (show (thL nm (.slice a c cp) (.slice a' c' cp')).all (·.oneCell') = true from rfl) u hu⟩
theorem newL_set (nm : ByteArray) (cl fl : Value) : ((newL nm cl fl).toArray.setIfInBounds 171 (.int .i64 0)).setIfInBounds 172 (.string nm) = (thL nm cl fl).toArray := rfl
theorem newL_one (nm : ByteArray) (a a' : Option Addr) (c cp c' cp' : Nat) : (newL nm (.slice a c cp) (.slice a' c' cp')).toArray.all (·.oneCell') = true := by rw [List.all_toArray]; rfl
end Go.L
namespace Go.L
open Go Go.RowKit Go.Proofs
set_option linter.unusedSimpArgs false
set_option linter.unusedVariables false
set_option maxRecDepth 20000

theorem St.swap {w0 W : World} {L : List Own} {a b : Own} (h : St w0 (a :: b :: L) W) : St w0 (b :: a :: L) W := h.perm (List.Perm.swap b a L)
theorem St.mv {w0 W : World} {L : List Own} {a : Own} (h : St w0 (a :: L) W) (k : Nat) : St w0 (L.take k ++ a :: L.drop k) W :=
  h.perm (by have := (List.perm_middle (a := a) (l₁ := L.take k) (l₂ := L.drop k)).symm; rwa [List.take_append_drop] at this)
theorem St.rm {w0 W : World} {L : List Own} (h : St w0 L W) (k : Nat) : St w0 (L.take k ++ L.drop (k + 1)) W := by
  refine h.sub ?_
  conv => rhs; rw [← List.take_append_drop k L]
  exact List.Sublist.append (List.Sublist.refl _) (by rw [← List.drop_drop]; exact List.drop_sublist _ _)
/-- What stands between two calls of Do: the schema, its things, the columns. -/
abbrev DoL (bs n c : Nat) (ta : Option Addr) (tc : Nat) (xs : List Value) (a : Option Addr) (cp : Nat) (M : List Own) : List Own :=
  .bx bs 96 #[.slice ta n tc, .bool true] :: .row (.slice ta n tc) 113 174 n xs :: .row (.slice a c cp) 67 16 c (colsF c) :: M
theorem Do7 {c : Nat} (pc : Pieces c) {w0 w : World} {M : List Own} {bs n k tc cp : Nat} {ta a : Option Addr} {vs : List Value} {ts : List (Int × ByteArray)}
    (hS : St w0 (DoL bs n c ta tc (flat vs) a cp M) w) (hT : Ths vs ts) (hn : ts.length = n) (hn60 : n ≤ 60) (hk : k < 70) (hnew : ∀ t ∈ ts, t ≠ (0, tB k)) (R : Ending → World → Prop)
    (h1 : n < 60 → ∀ W ta' tc' a' c' fa fc, St w0 (.row (.slice fa c fc) 92 3 c (fldsF ⟨#[]⟩ c) :: DoL bs (n + 1) c ta' tc' (flat (vs ++ [.agg (thL (tB k) (.slice a' c c') (.slice fa c fc)).toArray])) a cp M) W → R (.returned (.int .i64 0)) W)
    (h2 : n = 60 → ∀ W, St w0 (DoL bs n c ta tc (flat vs) a cp M) W → R (.returned (.int .i64 3)) W) :
    Calls Tryz.prog 7 #[.pointer (some ⟨bs, 0, none⟩), .agg (stmtL (tB k) (.slice a c cp)).toArray] w R := by
  refine c7 _ _ _ _ ?_
  unfold vc7
  refine kBox_f hS fun b3 W hS => kAlloc_f Tryz.zeroValue69 hS fun b4 W hS => ?_
  refine kCall_i (Tryz.call15 _ _) (none15 hS 2 rfl _ (kUn_not (kCall_i (Tryz.call14 _ _) (must14 _ _ _ _ (fun _ => ?_) (fun e => by cases e)))))
  refine xLdB61 hS 1 rfl rfl (kCall_i (Tryz.call16 _ _) (pc.check 4 k hS hk rfl _ fun W hS => kEq_int (kCall_i (Tryz.call14 _ _) (must14 _ _ _ _ (fun _ => ?_) (fun e => absurd e (by decide))))))
  refine kDrawn_i (kDrawn_i (xFa61_0 (kLd hS 1 rfl (by rfl) rfl (kDrew_st hS fun W hS => kCall_i (Tryz.call17 _ _) (drops17 hS _ fun bm W hS => ?_)))))
  refine xFa61_0 (kSame_i (kLd hS 2 rfl (by rfl) rfl (kSame_i (kLook2_none (hS.get 0 rfl).2 Tryz.underlying102 Tryz.underlying25 rfl rfl Tryz.zeroValue100 (kExt_0 (kExt_1 (kDrew_st hS fun W hS => kIf_f ?_)))))))
  have hS := hS.tail
  refine kDrawn_i (kDrawn_i (kJn_inv (fun cs V => ∃ b7, cs.getD 6 undef = .bool true ∧ cs.getD 7 undef = .pointer (some ⟨b7, 0, none⟩) ∧
    St w0 (.bx b7 107 #[.int .i64 0, .func (.func 33) #[] #[], .func (.func 34) #[] #[]] :: .bx b4 69 #[.int .i64 0] :: .bx b3 61 (stmtL (tB k) (.slice a c cp)).toArray :: DoL bs n c ta tc (flat vs) a cp M) V) ?_ ?_))
  rotate_left
  · intro J hJ
    refine xFa61_0 (kLd hS 1 rfl (by rfl) rfl (kBoth_i ?_ ?_))
    · refine kDrew_st hS fun W hS => kCall_i (Tryz.call18 _ _) (creates18 hS _ fun bm W hS => ?_)
      refine xFa61_0 (kSame_i (kLd hS 2 rfl (by rfl) rfl (kSame_i (kLook2_map (hS.get 0 rfl).2 Tryz.underlying109 Tryz.underlying25 rfl rfl (kExt_0 (kExt_1 (kDrew_st hS fun W hS => kAlloc_f Tryz.zeroValue107 hS fun b7 W hS => ?_)))))))
      refine xFa61_0 (kSame_i (kLd hS 3 rfl (by rfl) rfl (kSame_i (kLook2_map (hS.get 1 rfl).2 Tryz.underlying109 Tryz.underlying25 rfl rfl (kSame_i (kDrew_st hS fun W hS => ?_))))))
      refine kStoreA_st hS 0 rfl rfl (by simp [Value.oneCell']) Tryz.sizeOf107 fun W hS => kDrew_st hS fun W hS => hJ _ _ ⟨b7, rfl, rfl, hS.rm 1⟩
    · refine kDrew_st hS fun W hS => kAlloc_f Tryz.zeroValue107 hS fun b7 W hS => ?_
      refine xFa61_0 (kSame_i (kLd hS 2 rfl (by rfl) rfl (kSame_i (kDrew_st hS fun W hS => kCall_i (Tryz.call18 _ _) (creates18 hS _ fun bm W hS => ?_)))))
      refine xFa61_0 (kSame_i (kLd hS 3 rfl (by rfl) rfl (kSame_i (kLook2_map (hS.get 0 rfl).2 Tryz.underlying109 Tryz.underlying25 rfl rfl (kExt_0 (kExt_1 (kDrew_st hS fun W hS => ?_)))))))
      refine kStoreA_st hS 1 rfl rfl (by simp [Value.oneCell']) Tryz.sizeOf107 fun W hS => kDrew_st hS fun W hS => hJ _ _ ⟨b7, rfl, rfl, hS.rm 0⟩
  rintro cs V ⟨b7, e6, e7, hS⟩
  rw [e6, e7]
  refine kCall_i (Tryz.call14 _ _) (must14 _ _ _ _ (fun _ => ?_) (fun e => by cases e))
  refine kDrawn_i (kDrawn_i (kNil_p (xFa96_0 (kLd hS 3 rfl rfl rfl (xFa107_0 (kLd hS 0 rfl rfl rfl (xFa107_1 (kLd hS 0 rfl rfl rfl (xLdB61 hS 2 rfl rfl (kDrew_st hS fun W hS => ?_))))))))))
  refine kCallV_i (Tryz.call33 _ _) (name33 _ _ _ _ hS fun W hS => ?_)
  refine xFa96_0 (kSame_i (kLd hS 3 rfl rfl rfl (kSame_i (xFa107_0 (kSame_i (kLd hS 0 rfl rfl rfl (kSame_i (kDrew_st hS fun W hS => ?_))))))))
  refine kCall_i (Tryz.call19 _ _) (at19 hS (fun V hV => hT.sl hV 4 rfl hn) hT hn (by omega) _ (fun _ W hS => ?_) (fun x hx => absurd rfl (hnew _ (List.mem_of_getElem? hx))))
  refine kBin_lss (kDrew_st hS fun W hS => kCall_i (Tryz.call14 _ _) (must14 _ _ _ _ (fun _ => ?_) (fun e => absurd e (by decide))))
  refine kDrew_st hS fun W hS => kNil_p (xFa96_0 (kLd hS 3 rfl rfl rfl (xLen94 (kBin_lss (kCall_i (Tryz.call14 _ _) (must14 _ _ _ _ (fun e => ?_) (fun e => ?_)))))))
  rotate_left
  · have hn : n = 60 := by
      have : ¬ ((n : Int) < 60) := by simpa using e
      omega
    refine Lv_pan12 hS 1 rfl (fun W => St w0 (.bx b7 107 #[.int .i64 0, .func (.func 33) #[] #[], .func (.func 34) #[] #[]] :: .bx b4 69 #[.int .i64 3] :: .bx b3 61 (stmtL (tB k) (.slice a c cp)).toArray :: DoL bs n c ta tc (flat vs) a cp M) W) Tryz.call13 (fun W hS => idle13 W _ ⟨rfl, hS⟩) (fun W hS => RetK_cell rfl (hS.cell 1 rfl 0 rfl) (h2 hn W hS.tail.tail.tail))
  have hn6 : n < 60 := by
    have : (n : Int) < 60 := by simpa using e
    omega
  have h1 := h1 hn6
  refine kDrawn_i (kDrawn_i (kJn_inv (fun cs V => ∃ b9 a' cp' fa fc, cs.getD 5 undef = .agg (newL (tB k) (.slice a' c cp') (.slice fa c fc)).toArray ∧ cs.getD 6 undef = .pointer (some ⟨b9, 0, none⟩) ∧
    St w0 (.bx b9 113 Tryz.zeroCells113 :: .row (.slice fa c fc) 92 3 c (fldsF ⟨#[]⟩ c) :: .bx b7 107 #[.int .i64 0, .func (.func 33) #[] #[], .func (.func 34) #[] #[]] :: .bx b4 69 #[.int .i64 0] :: .bx b3 61 (stmtL (tB k) (.slice a c cp)).toArray :: DoL bs n c ta tc (flat vs) a cp M) V) ?_ ?_))
  rotate_left
  · intro J hJ
    refine xFa107_2 (kLd hS 0 rfl rfl rfl (xLdB61 hS 2 rfl rfl (kBoth_i ?_ ?_)))
    · refine kDrew_st hS fun W hS => kCall_i (Tryz.call20 _ _) (pc.cloned 5 k hS hk rfl _ fun W a' cp' hS => xFa107_2 (kSame_i (kLd hS 1 rfl rfl rfl (kSame_i (kBoth_i ?_ ?_)))))
      · refine kDrew_st hS fun W hS => kCallV_i (Tryz.call34 _ _) (pc.newT 0 k hS hk rfl _ fun W fa fc hS => kDrew_st hS fun W hS => kAlloc_f Tryz.zeroValue113 hS fun b9 W hS => kDrew_st hS fun W hS => ?_)
        exact hJ _ _ ⟨b9, a', cp', fa, fc, rfl, rfl, hS.rm 2⟩
      · refine kDrew_st hS fun W hS => kAlloc_f Tryz.zeroValue113 hS fun b9 W hS => xFa107_2 (kSame_i (kLd hS 2 rfl rfl rfl (kSame_i (kDrew_st hS fun W hS => ?_))))
        refine kCallV_i (Tryz.call34 _ _) (pc.newT 1 k hS hk rfl _ fun W fa fc hS => kDrew_st hS fun W hS => ?_)
        exact hJ _ _ ⟨b9, a', cp', fa, fc, rfl, rfl, (hS.rm 2).swap⟩
    · refine kDrew_st hS fun W hS => kAlloc_f Tryz.zeroValue113 hS fun b9 W hS => xFa107_2 (kSame_i (kLd hS 1 rfl rfl rfl (kSame_i (xLdB61 hS 3 rfl rfl (kSame_i (kDrew_st hS fun W hS => ?_))))))
      refine kCall_i (Tryz.call20 _ _) (pc.cloned 6 k hS hk rfl _ fun W a' cp' hS => xFa107_2 (kSame_i (kLd hS 2 rfl rfl rfl (kSame_i (kDrew_st hS fun W hS => ?_)))))
      refine kCallV_i (Tryz.call34 _ _) (pc.newT 0 k hS hk rfl _ fun W fa fc hS => kDrew_st hS fun W hS => ?_)
      exact hJ _ _ ⟨b9, a', cp', fa, fc, rfl, rfl, (hS.rm 1).swap⟩
  rintro cs V ⟨b9, a', cp', fa, fc, e5, e6, hS⟩
  rw [e5, e6]
  refine kStoreA_st hS 0 rfl rfl (newL_one _ _ _ _ _ _ _) Tryz.sizeOf113 fun W hS => ?_
  refine kDrawn_i (kDrawn_i (xFa107_0 (kLd hS 2 rfl rfl rfl (xFa107_1 (kLd hS 2 rfl rfl rfl (xLdB61 hS 4 rfl rfl (xFa113_1 (kDrew_st hS fun W hS => ?_))))))))
  refine kCallV_i (Tryz.call33 _ _) (name33 _ _ _ _ hS fun W hS => ?_)
  refine xFa107_0 (kSame_i (kLd hS 2 rfl rfl rfl (kSame_i (xFa113_1 (kSame_i (kDrew_st hS fun W hS => ?_))))))
  refine kSt hS 0 rfl (by exact Nat.le_of_ble_eq_true rfl) rfl rfl rfl fun W hS => kDrew_st hS fun W hS => ?_
  refine xFa113_2 (kSt hS 0 rfl (by exact Nat.le_of_ble_eq_true rfl) rfl rfl rfl fun W hS => ?_)
  have hS : St w0 (.bx b9 113 (thL (tB k) (.slice a' c cp') (.slice fa c fc)).toArray :: .row (.slice fa c fc) 92 3 c (fldsF ⟨#[]⟩ c) :: .bx b7 107 #[.int .i64 0, .func (.func 33) #[] #[], .func (.func 34) #[] #[]] :: .bx b4 69 #[.int .i64 0] :: .bx b3 61 (stmtL (tB k) (.slice a c cp)).toArray :: DoL bs n c ta tc (flat vs) a cp M) W := hS
  have hth := thL_th (tB k) a' fa c cp' c fc
  have hvl : vs.length = n := by rw [hT.len, hn]
  have hfl : flat (vs ++ [.agg (thL (tB k) (.slice a' c cp') (.slice fa c fc)).toArray]) = flat vs ++ (thL (tB k) (.slice a' c cp') (.slice fa c fc)) := by
    simp [flat, Value.cells]
  have hone : ∀ u ∈ thL (tB k) (.slice a' c cp') (.slice fa c fc), u.oneCell' = true := fun u hu => hth.one u (by simpa [Value.cells] using hu)
  refine kDrawn_i (kDrawn_i (kJn_inv (fun cs V => ∃ ta' tc', St w0 (.bx b4 69 #[.int .i64 0] :: .row (.slice fa c fc) 92 3 c (fldsF ⟨#[]⟩ c) :: DoL bs (n + 1) c ta' tc' (flat (vs ++ [.agg (thL (tB k) (.slice a' c cp') (.slice fa c fc)).toArray])) a cp M) V) ?_ ?_))
  · rintro cs V ⟨ta', tc', hS⟩
    refine kSt hS 0 rfl (by exact Nat.le_of_ble_eq_true rfl) rfl rfl rfl fun W hS => ?_
    exact Lv_ret12 (RetK_cell rfl (hS.cell 0 rfl 0 rfl) (h1 W ta' tc' a' cp' fa fc hS.tail))
  intro J hJ
  refine kNil_p (xFa96_0 (kLd hS 5 rfl rfl rfl (xLdB113 hS 0 rfl rfl (kBoth_i ?_ ?_))))
  · refine kDrew_st hS fun W hS => kCall_i (Tryz.call21 _ _) (Clone21 hS 6 rfl hT hn (by omega) _ fun x W hS => ?_)
    have hS := hS.front
    refine xLdB113 hS 1 rfl rfl (kSame_i (kDrew_st hS fun W hS => ?_))
    refine kBuildS_st (xE94 W) hS [.agg (thL (tB k) (.slice a' c cp') (.slice fa c fc)).toArray] rfl rfl (by omega) (by omega) (fun v hv => by rw [List.mem_singleton.1 hv]; exact hth.size) fun y W hS => ?_
    have hS := hS.front
    refine kDrew_st hS fun W hS => ?_
    refine kAppRow_st (xE94 W) hS 1 0 rfl rfl (fun u hu => hone u (by simpa [flat, Value.cells] using hu)) (by simp only [maxLen]; omega) (by omega) fun x' W hS => ?_
    have hS := hS.tail
    obtain ⟨ta', tc', rfl, _⟩ := Sl.of_owns (sz := 174) (vs := vs ++ [.agg (thL (tB k) (.slice a' c cp') (.slice fa c fc)).toArray]) (fun v hv => by
      rcases List.mem_append.1 hv with hv | hv
      · exact (hT.size v hv).1
      · rw [List.mem_singleton.1 hv]; exact hth.size) (show W.ownsRow w0.heap.size 113 174 x' (n + 1) (flat (vs ++ [_])) from by
        have := hS.get 0 rfl
        rw [hfl]
        simpa [flat, Value.cells, Own.holds] using this) (by simp [hvl])
    refine kNil_p (xFa96_0 (kDrew_st hS fun W hS => ?_))
    refine kSt hS 6 rfl (by simp) rfl rfl rfl fun W hS => kDrew_st hS fun W hS => hJ _ _ ⟨ta', tc', ?_⟩
    have hS := ((((hS.mv 6).rm 7).rm 4).rm 2).rm 0
    have e1 : flat (vs ++ [.agg (thL (tB k) (.slice a' c cp') (.slice fa c fc)).toArray]) = flat vs ++ flat [.agg (thL (tB k) (.slice a' c cp') (.slice fa c fc)).toArray] := by simp [flat]
    rw [e1]
    exact hS.swap
  · refine kDrew_st hS fun W hS => kBuildS_st (xE94 W) hS [.agg (thL (tB k) (.slice a' c cp') (.slice fa c fc)).toArray] rfl rfl (by omega) (by omega) (fun v hv => by rw [List.mem_singleton.1 hv]; exact hth.size) fun y W hS => ?_
    have hS := hS.front
    refine xFa96_0 (kSame_i (kLd hS 6 rfl rfl rfl (kSame_i (kDrew_st hS fun W hS => kCall_i (Tryz.call21 _ _) (Clone21 hS 7 rfl hT hn (by omega) _ fun x W hS => ?_)))))
    have hS := hS.front
    refine kDrew_st hS fun W hS => ?_
    refine kAppRow_st (xE94 W) hS 0 1 rfl rfl (fun u hu => hone u (by simpa [flat, Value.cells] using hu)) (by simp only [maxLen]; omega) (by omega) fun x' W hS => ?_
    have hS := hS.rm 1
    obtain ⟨ta', tc', rfl, _⟩ := Sl.of_owns (sz := 174) (vs := vs ++ [.agg (thL (tB k) (.slice a' c cp') (.slice fa c fc)).toArray]) (fun v hv => by
      rcases List.mem_append.1 hv with hv | hv
      · exact (hT.size v hv).1
      · rw [List.mem_singleton.1 hv]; exact hth.size) (show W.ownsRow w0.heap.size 113 174 x' (n + 1) (flat (vs ++ [_])) from by
        have := hS.get 0 rfl
        rw [hfl]
        simpa [flat, Value.cells, Own.holds] using this) (by simp [hvl])
    refine kNil_p (xFa96_0 (kDrew_st hS fun W hS => ?_))
    refine kSt hS 6 rfl (by simp) rfl rfl rfl fun W hS => kDrew_st hS fun W hS => hJ _ _ ⟨ta', tc', ?_⟩
    have hS := ((((hS.mv 6).rm 7).rm 4).rm 2).rm 0
    have e1 : flat (vs ++ [.agg (thL (tB k) (.slice a' c cp') (.slice fa c fc)).toArray]) = flat vs ++ flat [.agg (thL (tB k) (.slice a' c cp') (.slice fa c fc)).toArray] := by simp [flat]
    rw [e1]
    exact hS.swap
end Go.L
namespace Go.L
open Go Go.RowKit Go.Proofs
set_option linter.unusedSimpArgs false
set_option linter.unusedVariables false
set_option maxRecDepth 20000

/-- Fields. -/
abbrev FD := ByteArray × ByteArray × Int
def fV (f : FD) : Value := .agg #[.string f.1, .string f.2.1, .int .i64 f.2.2]
def setT (sa : ByteArray) (f : FD) : FD := (sa, f.2)
theorem fV_size (l : List FD) : ∀ v ∈ l.map fV, v.cells.size = 3 := by
  intro v hv; obtain ⟨p, _, rfl⟩ := List.mem_map.1 hv; rfl
theorem RetK_agg92 {R : Ending → World → Prop} {w w0 : World} {L : List Own} (hS : St w0 L w) (i : Nat) {b : Nat} {cs : Array Value} (hi : L[i]? = some (.bx b 92 cs)) (hn : cs.size = 3) (h : R (.returned (.agg cs)) w) : RetK Tryz.prog [.cell (.pointer (some ⟨b, 0, none⟩)) 92] R w := by
  refine ⟨.agg cs, ?_, h⟩
  have := run_loadVar_row (P := Tryz.prog) w b 92 92 cs (0, 0) _ (hS.get i hi).2 Tryz.underlying92 rfl (by rw [info_of (Tryz.typeInfo92 w), hn]; rfl)
  simp [resSem, asAddr, this]
theorem called177 {w0 w : World} {L : List Own} (hS : St w0 L w) (i : Nat) {b0 : Nat} {sa : ByteArray} (hi : L[i]? = some (.bx b0 9 #[.string sa])) (f : FD) (R : Ending → World → Prop) (h : ∀ W, St w0 L W → R (.returned (fV (setT sa f))) W) :
    Calls Tryz.prog 177 #[fV f, .pointer (some ⟨b0, 0, none⟩)] w R := by
  obtain ⟨f0, f1, f2⟩ := f
  refine c177 _ _ _ _ _ _ ?_
  unfold vc177
  refine kBox_f hS fun b2 W hS => kAlloc_f Tryz.zeroValue92 hS fun b3 W hS => ?_
  have hS : St w0 (.bx b3 92 #[.string ⟨#[]⟩, .string ⟨#[]⟩, .int .i64 0] :: .bx b2 92 #[.string f0, .string f1, .int .i64 f2] :: L) W := hS
  refine kLd hS (i + 2) hi rfl rfl (xFa92_0 (kSt hS 1 rfl (by simp) rfl rfl rfl fun W hS => ?_))
  have hS : St w0 (.bx b3 92 #[.string ⟨#[]⟩, .string ⟨#[]⟩, .int .i64 0] :: .bx b2 92 #[.string sa, .string f1, .int .i64 f2] :: L) W := hS
  refine xLdB92 hS 1 rfl rfl (kStoreA_st hS 0 rfl rfl (by simp [Value.oneCell']) Tryz.sizeOf92 fun W hS => ?_)
  exact RetK_agg92 hS 0 rfl rfl (h W hS.tail.tail)
theorem some176 {w0 w : World} {L : List Own} (hS : St w0 L w) (j : Nat) {b0 lc : Nat} {l : Option Addr} {sa : ByteArray} (hj : L[j]? = some (.bx b0 9 #[.string sa])) (fs : List FD) (hl : Sl w0 l 3 (fs.map fV)) (hn : fs.length ≤ 1000) (R : Ending → World → Prop)
    (h : ∀ x W, St w0 (L ++ [.row x 92 3 fs.length (flat ((fs.map (setT sa)).map fV))]) W → R (.returned x) W) : Calls Tryz.prog 176 #[.slice l fs.length lc, .func (.func 177) #[] #[.pointer (some ⟨b0, 0, none⟩)]] w R := by
  refine c176 _ _ _ _ _ _ ?_
  unfold vc176
  have hS := hS.adopt (o := .row (.slice none 0 0) 92 3 0 []) (World.ownsRow_nil _ _ _ _) (fun p hp => by
    cases hpb : p.blk with
    | none => exact .inl rfl
    | some k => exact .inr (by simp [Own.blk, Value.ownBlock]))
  refine xLen76 ?_
  refine ⟨⟨fun cs V => ∃ (i : Nat) (x : Value), cs = [x, .int .i64 i] ∧ i ≤ fs.length ∧ St w0 (L ++ [.row x 92 3 i (flat (((fs.take i).map (setT sa)).map fV))]) V, fun cs _ => fs.length - (match cs with | [_, .int _ x] => x.toNat | _ => 0), ⟨0, _, rfl, Nat.zero_le _, hS⟩, ?_⟩⟩
  rintro cs ds V ⟨i, x, rfl, hi, hS⟩
  dsimp only [List.getD_cons_zero, List.getD_cons_succ]
  refine kBin_lss (kIf_d (fun e => ?_) (fun e => ?_))
  rotate_left
  · have hxe : i = fs.length := by omega
    subst hxe
    rw [List.take_length] at hS
    exact h x V hS
  have hil : i < fs.length := by omega
  have hv : (fs.map fV)[i]? = some (fV fs[i]) := by simp [hil]
  obtain ⟨b, o, rfl, hb, hg⟩ := (hl.below hS.below).elem hv
  refine xIa76 hil (xLdE92 hg rfl rfl (kAlloc_st Tryz.zeroValue92 hS fun b6 W hS => kStoreAR (cs' := #[.string fs[i].1, .string fs[i].2.1, .int .i64 fs[i].2.2]) hS rfl (by simp [Value.oneCell']) Tryz.sizeOf92 fun W hS => ?_))
  refine xLdB92 hS _ at_r rfl (kCallV_i (Tryz.call177 _ _) (called177 hS j (at_l (at_l hj)) fs[i] _ fun W hS => ?_))
  have hS := hS.init
  refine kApp1_st (xE76 W) hS L.length at_r rfl (by simp [fV, Value.cells, Value.oneCell']) (by simp only [maxLen]; omega) (by omega) fun x' W hS => ?_
  rw [set_r] at hS
  have e1 : flat (((fs.take (i + 1)).map (setT sa)).map fV) = flat (((fs.take i).map (setT sa)).map fV) ++ (fV (setT sa fs[i])).cells.toList := by
    rw [List.take_succ_eq_append_getElem hil]; simp only [List.map_append, List.map_cons, List.map_nil, flat, List.flatMap_append, List.flatMap_cons, List.flatMap_nil, List.append_nil]
  refine kBin_add (kD_i ⟨⟨i + 1, x', ?_, hil, by rw [e1]; exact hS⟩, ?_⟩)
  · rw [wrap_id (by omega) (by omega)]; rfl
  · rw [wrap_id (by omega) (by omega)]; show fs.length - ((i : Int) + 1).toNat < fs.length - (i : Int).toNat; omega
theorem called61 {w : World} {l : Option Addr} {lc : Nat} (sa : ByteArray) (fs : List FD) (hl : Sl w l 3 (fs.map fV)) (hn : fs.length ≤ 1000) (R : Ending → World → Prop)
    (h : ∀ x W, St w [.row x 92 3 fs.length (flat ((fs.map (setT sa)).map fV))] W → R (.returned x) W) : Calls Tryz.prog 61 #[.slice l fs.length lc, .string sa] w R := by
  refine c61 _ _ _ _ _ _ ?_
  unfold vc61
  refine kBox_f (St.start w) fun b0 W hS => kCall_i (Tryz.call176 _ _) (some176 hS 0 rfl fs hl hn _ fun x W hS => h x W hS.tail)
/-- A table's fields, called so: of a schema that lies outside of what is at hand. -/
theorem fields26 {w : World} {bs n tc fc : Nat} {ta fa : Option Addr} {v : Value} {vs : List Value} {ts : List (Int × ByteArray)} {nm sa : ByteArray} {fs : List FD}
    (hb : w.heap[bs]? = some (.cells #[.slice ta n tc, .bool true] 96 (0, 0))) (hsl : Sl w ta 174 vs) (hT : Ths vs ts) (hn : ts.length = n) (hm : n ≤ 1000) (h0 : ∀ x : Nat, ts[x]? = some (0, nm) → x = 0) (hn0 : ts[0]? = some (0, nm))
    (hv : vs[0]? = some v) (hV : ThV v 0 nm (.slice fa fs.length fc)) (hf : Sl w fa 3 (fs.map fV)) (hl : fs.length ≤ 1000) (R : Ending → World → Prop)
    (h : ∀ x W, St w [.row x 92 3 fs.length (flat ((fs.map (setT sa)).map fV))] W → R (.returned x) W) : Calls Tryz.prog 26 #[.pointer (some ⟨bs, 0, none⟩), .string nm, .string sa] w R := by
  refine c26 _ _ _ _ _ ?_
  unfold vc26
  have hbl : bs < w.heap.size := (Array.getElem?_eq_some_iff.1 hb).1
  have cell : ∀ {W : World}, Below w.heap.size w W → W.cell? ⟨bs, 0, none⟩ = some (.slice ta n tc) := fun {W} hB => by
    rw [cell_of_row W bs 0 #[.slice ta n tc, .bool true] 96 (0, 0) (by rw [hB.block bs hbl]; exact hb)]; rfl
  refine kNil_p (xFa96_0 (kLoad_cell (c := ⟨Tryz.prog, _, false⟩) (scal_agg rfl) (cell (Below.refl _ _)) (kCall_i (Tryz.call19 _ _) (at19 (St.start w) (fun V hV => hsl.below hV.below) hT hn hm _ (fun q => absurd rfl (q _ (List.mem_of_getElem? hn0))) (fun x hx W hS => ?_)))))
  cases h0 x hx
  refine kBin_geq (kCall_i (Tryz.call14 _ _) (must14 _ _ _ _ (fun _ => ?_) (fun e => absurd e (by decide))))
  obtain ⟨b, o, rfl, hbb, hg⟩ := (hsl.below hS.below).elem hv
  have hpos : 0 < n := by rw [← hn]; exact (List.getElem?_eq_some_iff.1 hn0).1
  obtain ⟨cs, rfl, hcs, _, _, e3, _⟩ := hV.of
  refine kNil_p (xFa96_0 (kLoad_cell (c := ⟨Tryz.prog, _, false⟩) (scal_agg rfl) (cell hS.below) (xIa94 hpos (xFa113_3 (kLoad_cell (c := ⟨Tryz.prog, _, false⟩) (scal_agg rfl) (hg 173 _ (by show cs.toList[173]? = _; rw [Array.getElem?_toList]; exact e3)) (kCall_i (Tryz.call61 _ _) (called61 sa fs (hf.below hS.below) hl _ fun x W2 hS2 => ?_)))))))
  refine h x W2 ?_
  have hB : Below w.heap.size w W2 := ⟨hS2.below.os.trans hS.below.os, hS2.below.tape.trans hS.below.tape, hS2.below.output.trans hS.below.output, Nat.le_trans hS.below.size hS2.below.size, fun k hk => by rw [hS2.below.block k (Nat.lt_of_lt_of_le hk hS.below.size)]; exact hS.below.block k hk⟩
  exact St.ofPw hB (fun o ho => Own.rebase (hS2.all o ho) hS.below.size) hS2.pw
end Go.L

set_option maxRecDepth 100000
namespace Go.L.Ev
open Go Go.RowKit Go.Proofs
set_option linter.unusedVariables false
set_option linter.unusedSimpArgs false

theorem nmN_eq (a j : Nat) : nmN a j = a + 256 * (97 + j % 26 + 256 * (97 + j / 26)) := rfl
theorem str_nm (a j : Nat) (ha : a < 256) (hj : j < 676) : strOf (nmN a j) 3 = ⟨#[UInt8.ofNat a, UInt8.ofNat (97 + j % 26), UInt8.ofNat (97 + j / 26)]⟩ := by
  rw [nmN_eq]
  have e1 : (a + 256 * (97 + j % 26 + 256 * (97 + j / 26))) % 256 = a := by omega
  have e2 : (a + 256 * (97 + j % 26 + 256 * (97 + j / 26))) / 256 = 97 + j % 26 + 256 * (97 + j / 26) := by omega
  have e3 : (97 + j % 26 + 256 * (97 + j / 26)) % 256 = 97 + j % 26 := by omega
  have e4 : (97 + j % 26 + 256 * (97 + j / 26)) / 256 = 97 + j / 26 := by omega
  have e5 : (97 + j / 26) % 256 = 97 + j / 26 := by omega
  simp only [strOf, bytesOf, e1, e2, e3, e4, e5]
theorem str_col (j : Nat) (hj : j < 676) : strOf (nmN 99 j) 3 = colB j := str_nm 99 j (by omega) hj
theorem str_tab (j : Nat) (hj : j < 676) : strOf (nmN 116 j) 3 = tB j := str_nm 116 j (by omega) hj
theorem txO_tab (k : Nat) : txO k = tB (k % 70) := str_tab (k % 70) (by omega)
theorem natL_eq (n : Nat) (κ : Nat → List RV) : natL n κ = κ n := by cases n <;> rfl
section
variable [Ext] {δ : Pl}
theorem dec_i {k : IntKind} {n : Int} : dec δ (.int k n) = some (.int k n) := by simp [dec]
theorem dec_b {b : Bool} : dec δ (.bool b) = some (.bool b) := by simp [dec]
theorem dec_n : dec δ .nils = some (.slice none 0 0) := by simp [dec]
theorem dec_e : dec δ (.str 0 0) = some (.string ⟨#[]⟩) := str_dec fun _ => rfl
theorem dec_s {n l : Nat} {s : ByteArray} (hl : l ≠ 0) (h : strOf n l = s) : dec δ (.str n l) = some (.string s) := by rw [str_dec fun e => absurd e hl, h]
theorem dec_o {i k u : Nat} (h : δ (i + 1) = some (k, u)) : dec δ (.str (i + 1) 0) = some (.string (tB (k % 70))) := by
  simp [dec, h, txO_tab]
theorem dec_sl {i b cp c : Nat} (h : δ i = some (b, cp)) (hc : c ≤ cp) : dec δ (.slc i 0 0 c) = some (.slice (some ⟨b, 0, none⟩) c cp) := by
  simp [dec, h, hc]
theorem decL_colC (j : Nat) (hj : j < 676) : decL δ (colC j) = some (colL j) := by
  rw [colC, natL_eq, colT]
  repeat' (first | exact decL_nil | refine decL_cons ?_ ?_)
  all_goals first | exact dec_s (by omega) (str_col j hj) | exact dec_i | exact dec_b | exact dec_e | exact dec_n
theorem decL_colsC : ∀ (c : Nat), c ≤ 32 → decL δ (colsC c) = some (colsF c)
  | 0, _ => decL_nil
  | c + 1, h => by
    have h1 := decL_append (decL_colsC c (by omega)) (decL_colC (δ := δ) c (by omega))
    have e : colsF (c + 1) = colsF c ++ colL c := by simp [colsF, List.range_succ]
    rw [e]; exact h1
theorem decL_xA {i k u b cp c : Nat} (h1 : δ 1 = some (k, u)) (hi : δ i = some (b, cp)) (hc : c ≤ cp) : decL δ (xA i c) = some (stmtL (tB (k % 70)) (.slice (some ⟨b, 0, none⟩) c cp)) := by
  unfold xA
  repeat' (first | exact decL_nil | refine decL_cons ?_ ?_)
  all_goals first | exact dec_i | exact dec_b | exact dec_n | exact dec_e | exact dec_o h1 | exact dec_sl hi hc
theorem decL_fldC {s l : Nat} {t : ByteArray} (hs : dec δ (.str s l) = some (.string t)) (j : Nat) (hj : j < 676) : decL δ (fldC s l j) = some (fldL t j) := by
  rw [fldC, natL_eq, fldT]
  exact decL_cons hs (decL_cons (dec_s (by omega) (str_col j hj)) (decL_cons dec_i decL_nil))
theorem decL_fldsC {s l : Nat} {t : ByteArray} (hs : dec δ (.str s l) = some (.string t)) : ∀ (c : Nat), c ≤ 32 → decL δ (fldsC s l c) = some (fldsF t c)
  | 0, _ => decL_nil
  | c + 1, h => by
    have h1 := decL_append (decL_fldsC hs c (by omega)) (decL_fldC hs c (by omega))
    have e : fldsF t (c + 1) = fldsF t c ++ fldL t c := by simp [fldsF, List.range_succ]
    rw [e]; exact h1
end
section
variable [Ext]
theorem colsK_eq : ∀ (c : Nat) (acc : List RV) (κ : List RV → Bool), colsK c acc κ = κ (colsC c ++ acc)
  | 0, acc, κ => rfl
  | c + 1, acc, κ => by
    rw [show colsK (c + 1) acc κ = natF (nmN 99 c) (fun m => colsK c (colT m ++ acc) κ) from rfl, natF_eq, colsK_eq c, show colsC (c + 1) = colsC c ++ colC c from rfl, List.append_assoc, colC, natL_eq]
theorem fldsK_eq' (s l : Nat) : ∀ (c : Nat) (acc : List RV) (κ : List RV → Bool), fldsK s l c acc κ = κ (fldsC s l c ++ acc)
  | 0, acc, κ => rfl
  | c + 1, acc, κ => by
    rw [show fldsK s l (c + 1) acc κ = natF (nmN 99 c) (fun m => fldsK s l c (fldT s l m ++ acc) κ) from rfl, natF_eq, fldsK_eq' s l c, show fldsC s l (c + 1) = fldsC s l c ++ fldC s l c from rfl, List.append_assoc, fldC, natL_eq]
theorem fldsK_eq (s l c : Nat) (κ : List RV → Bool) : fldsK s l c [] κ = κ (fldsC s l c) := by rw [fldsK_eq', List.append_nil]
/-! ### Names -/
theorem nmsP_inv {a s : Nat} : ∀ {n : Nat}, nmsP a s n = true → ∀ j, j < n → nmP (nmN a (s + j)) = true
  | 0, _, j, hj => by omega
  | n + 1, h, j, hj => by
    obtain ⟨h1, h2⟩ := iff_t (show iff (natF (nmN a (Nat.add s n)) nmP) (nmsP a s n) false = true from h)
    rw [natF_eq] at h1
    by_cases e : j = n
    · subst e; exact h1
    · exact nmsP_inv h2 j (by omega)
theorem nm_tab (k : Nat) (hk : k < 70) : nmP (nmN 116 k) = true := by
  have : k = 10 * (k / 10) + k % 10 := by omega
  have h1 : k % 10 < 10 := by omega
  have h2 : k / 10 = 0 ∨ k / 10 = 1 ∨ k / 10 = 2 ∨ k / 10 = 3 ∨ k / 10 = 4 ∨ k / 10 = 5 ∨ k / 10 = 6 := by omega
  rw [this]
  rcases h2 with e | e | e | e | e | e | e <;> rw [e]
  · exact nmsP_inv nm116_0 _ h1
  · exact nmsP_inv nm116_10 _ h1
  · exact nmsP_inv nm116_20 _ h1
  · exact nmsP_inv nm116_30 _ h1
  · exact nmsP_inv nm116_40 _ h1
  · exact nmsP_inv nm116_50 _ h1
  · exact nmsP_inv nm116_60 _ h1
theorem nm_col (k : Nat) (hk : k < 32) : nmP (nmN 99 k) = true := by
  have : k = 10 * (k / 10) + k % 10 := by omega
  have h1 : k % 10 < 10 := by omega
  have h2 : k / 10 = 0 ∨ k / 10 = 1 ∨ k / 10 = 2 ∨ k / 10 = 3 := by omega
  rw [this]
  rcases h2 with e | e | e | e <;> rw [e]
  · exact nmsP_inv nm99_0 _ h1
  · exact nmsP_inv nm99_10 _ h1
  · exact nmsP_inv nm99_20 _ h1
  · exact nmsP_inv nm99_30 _ (by omega)
theorem colNs_mem : ∀ (n m : Nat), m ∈ (@Nat.rec (fun _ => List Nat) [] (fun j ih => nmN 99 j :: ih) n : List Nat) → ∃ j, j < n ∧ m = nmN 99 j
  | 0, m, h => by cases h
  | n + 1, m, h => by
    rcases List.mem_cons.1 (show m ∈ nmN 99 n :: (@Nat.rec (fun _ => List Nat) [] (fun j ih => nmN 99 j :: ih) n : List Nat) from h) with e | h
    · exact ⟨n, by omega, e⟩
    · obtain ⟨j, h1, h2⟩ := colNs_mem n m h; exact ⟨j, by omega, h2⟩
theorem name_ok (m : Nat) (hm : nmP m = true) (W : World) (hx : Ext.ok W fun _ => True) :
    Calls Tryz.prog 78 #[.string (strOf m 3)] W fun e W' => e = .returned (.bool true) ∧ W'.os = W.os ∧ W'.tape = W.tape ∧ W'.output = W.output ∧ W.heap.size ≤ W'.heap.size ∧ ∀ b, b < W.heap.size → W'.heap[b]? = W.heap[b]? :=
  true_ofA (run_ok pg ov0_ok 1000) (a := [.str m 3]) (vs := [.string (strOf m 3)]) hm (decL_cons (dec_s (by omega) rfl) decL_nil) W hx
theorem orcName_ok : ∀ args h k, orcName args h k = true → ∃ r h', k r h' = true ∧ FnR Tryz.prog 78 args h r h' := by
  intro args h k ho
  obtain ⟨hl, h1⟩ := iff_t ho
  obtain ⟨v, hv, h2⟩ := nthK_inv h1
  have hl := lenIs_inv hl
  obtain ⟨m, n, rfl, h3⟩ := rvStrQ_inv h2
  have ha : args = [.str m n] := by
    match args, hl, hv with
    | [a], _, hv => simp at hv; rw [hv]
  subst ha
  have key : k (.bool true) h = true ∧ ∀ δ vs, decL δ [.str m n] = some vs → ∃ z, nmP z = true ∧ vs = [.string (strOf z 3)] := by
    rcases iff_inv h3 with ⟨h4, h5⟩ | ⟨h4, h5⟩
    · obtain ⟨h6, h7⟩ := iff_t h5
      refine ⟨h7, fun δ vs hvs => ?_⟩
      cases Nat.eq_of_beq_eq_true h4
      have h6 := Nat.le_of_ble_eq_true h6
      obtain ⟨x, l, hx, hl, rfl⟩ := decL_cons_inv hvs
      rw [decL_nil] at hl; cases hl
      simp only [dec] at hx
      rw [if_pos (by first | exact ⟨rfl, by omega⟩ | exact ⟨trivial, by omega⟩), Option.map_eq_some_iff] at hx
      obtain ⟨p, _, rfl⟩ := hx
      exact ⟨nmN 116 (p.1 % 70), nm_tab _ (by omega), by rw [txO_tab, str_tab _ (by omega)]⟩
    · obtain ⟨h6, h7⟩ := iff_t h5
      obtain ⟨h8, h9⟩ := iff_t h7
      cases Nat.eq_of_beq_eq_true h6
      obtain ⟨j, hj, rfl⟩ := colNs_mem 32 m (memN_mem h8)
      refine ⟨h9, fun δ vs hvs => ?_⟩
      rw [decL_cons (dec_s (by omega) rfl) decL_nil] at hvs
      cases hvs
      exact ⟨_, nm_col j hj, rfl⟩
  refine ⟨_, h, key.1, Grow.refl h, Tryz.call78, fun F δ W vs hR hvs => ?_⟩
  obtain ⟨z, hz, rfl⟩ := key.2 δ vs hvs
  refine (name_ok z hz W (Ext.mono F.inv hR.ok.size fun b h1 h2 => ⟨hR.ok.block b h1 h2, trivial⟩)).mono ?_
  rintro e W' ⟨he, h1, h2, h3, h4, h5⟩
  exact ⟨δ, .bool true, Ex.refl h δ, by simp [dec], he, hR.kept h1 h2 h3 h4 h5⟩
theorem ovB_ok : OvS Tryz.prog ovB := ov0_ok.orc1 orcName_ok
/-- What an evaluation of a piece shows. -/
theorem piece_ok {c f : Nat} {a : List RV} {κ : List RV → RV → Hp → Bool} (hk : pieceC c f a κ = true) : ∃ r h' H, κ (colsC c) r h' = true ∧ H.next = 3 ∧ (∀ i, H.at i = if i = 2 then rowC c else .no) ∧ FnR Tryz.prog f a H r h' := by
  unfold pieceC at hk
  rw [colsK_eq, List.append_nil] at hk
  obtain ⟨H, h1, h2, h3⟩ := setsK_inv hk
  rcases (run_ok pg ovB_ok 1000).fn _ _ _ _ _ h1 with ⟨r, h', h4, h5⟩ | ⟨_, _, h4, _⟩
  · refine ⟨r, h', H, h4, h2, fun i => ?_, h5⟩
    rw [h3 i, Hp.pad_at]
    show (lkO [(2, rowC c)] i).getD .no = _
    by_cases e : i = 2
    · subst e; rfl
    · simp only [lkO]
      rw [if_neg (fun h => e h.symm), if_neg e]; rfl
  · cases h4
end
end Go.L.Ev
set_option maxRecDepth 100000
namespace Go.L.Ev
open Go Go.RowKit Go.Proofs
set_option linter.unusedVariables false
set_option linter.unusedSimpArgs false

/-- Where things lie for a piece: the schema, the name, the columns. -/
def dlP (bs k b cp : Nat) : Pl := fun i => if i = 0 then some (bs, 0) else if i = 1 then some (k, 0) else if i = 2 then some (b, cp) else none
theorem own_some {W : World} {base n cp : Nat} {e : TypeId} {sz : Nat} {a : Option Addr} {xs : List Value} (h : W.ownsRow base e sz (.slice a n cp) n xs) (hn : 1 ≤ n) : ∃ b, a = some ⟨b, 0, none⟩ := by
  rcases h.2 with ⟨h, _⟩ | ⟨g, cap, cur, h, _⟩
  · cases h; omega
  · cases h; exact ⟨_, rfl⟩
section
variable [Ext]
theorem piece_use (hall : ∀ w kp, Ext.ok w kp) {c f : Nat} {a : List RV} {κ : List RV → RV → Hp → Bool} (h1 : 1 ≤ c) (h2 : c ≤ 32) (hp : pieceC c f a κ = true) {w0 w : World} {L : List Own} (i k : Nat) {al : Option Addr} {cp bs : Nat} (hS : Go.L.St w0 L w)
    (hL : L[i]? = some (.row (.slice al c cp) 67 16 c (colsF c))) {vs : List Value} (hvs : ∀ b, al = some ⟨b, 0, none⟩ → c ≤ cp → decL (dlP bs k b cp) a = some vs) (hsame : ∀ r h', κ (colsC c) r h' = true → h'.at 2 = rowC c) (R : Ending → World → Prop)
    (hR : ∀ r h' δ' x W b, al = some ⟨b, 0, none⟩ → c ≤ cp → κ (colsC c) r h' = true → dec δ' r = some x → δ' 1 = some (k, 0) → δ' 2 = some (b, cp) → Go.L.St w0 L W →
      (∀ j b' c' n e sz cs, h'.at j = .row e sz n cs → 2 < j → δ' j = some (b', c') → ∃ vs', decL δ' cs = some vs' ∧ Go.L.St w0 (.row (.slice (some ⟨b', 0, none⟩) n c') e sz n vs' :: L) W) → R (.returned x) W) : Calls Tryz.prog f vs.toArray w R := by
  have hown : w.ownsRow w0.heap.size 67 16 (.slice al c cp) c (colsF c) := hS.get i hL
  obtain ⟨b, rfl⟩ := own_some hown h1
  have hle := (own_ge hown).2.2
  obtain ⟨r, h', H, hκ, hn, hat, hF⟩ := piece_ok hp
  have two : ∀ i', H.at i' ≠ .no → i' = 2 := fun i' hi => by
    by_cases e : i' = 2
    · exact e
    · rw [hat i', if_neg e] at hi; exact absurd rfl hi
  have E : Emb L H (dlP bs k b cp) (fun _ => i) := ⟨fun i' hi => by
      cases two i' hi
      exact ⟨b, cp, 67, 16, c, colsC c, colsF c, by rw [hat 2, if_pos rfl]; rfl, hL, rfl, decL_colsC c h2⟩, fun i' j' hi hj _ => by rw [two i' hi, two j' hj]⟩
  have hf : ∀ i', H.next ≤ i' → dlP bs k b cp i' = none ∧ H.at i' = .no := fun i' hi => by
    rw [hn] at hi
    refine ⟨?_, by rw [hat i', if_neg (by omega)]⟩
    unfold dlP
    rw [if_neg (by omega), if_neg (by omega), if_neg (by omega)]
  have hlt : ∀ i', H.at i' ≠ .no → i' < H.next := fun i' hi => by rw [two i' hi, hn]; omega
  have hsm : ∀ i', H.at i' ≠ .no → h'.at i' = H.at i' := fun i' hi => by rw [two i' hi, hsame r h' hκ, hat 2, if_pos rfl]
  refine (hF.2.2 _ _ w vs (E.rel hS hf (hall _ _)) (hvs b rfl hle)).mono ?_
  rintro en W ⟨δ', x, hX, hx, rfl, hRel⟩
  refine hR r h' δ' x W b rfl hle hκ hx (by rw [hX.old 1 (by omega)]; rfl) (by rw [hX.old 2 (by omega)]; rfl) (E.back hS (hall _ _) hX hlt hsm hRel) fun j b' c' n e sz cs hj h2j hb => ?_
  exact E.made hS (hall _ _) hX hlt hsm hRel hj (by rw [hat j, if_neg (by omega)]) hb
end
theorem pieces_of (c : Nat) (h1 : 1 ≤ c) (h2 : c ≤ 32) (hk : chkP c = true) (hc : cloP c = true) (hn : newP c = true) : Pieces c := by
  letI : Ext := ext0
  have hall : ∀ w kp, Ext.ok w kp := fun _ _ => trivial
  have hm : ∀ {k : Nat}, k < 70 → k % 70 = k := fun h => Nat.mod_eq_of_lt h
  refine ⟨?_, ?_, ?_⟩
  · intro w0 w L i k a cp hS hk70 hL R hR
    refine piece_use hall h1 h2 hk (vs := [_]) (bs := 0) i k hS hL (fun b ha hle => ?_) (fun r h' hκ => ?_) R (fun r h' δ' x W b ha hle hκ hx _ _ hS' _ => ?_)
    · subst ha
      have := decL_xA (δ := dlP 0 k b cp) (i := 2) rfl rfl hle
      rw [hm hk70] at this
      exact decL_cons (by simp only [dec, this]) decL_nil
    · exact ((allK_inv (iff_t hκ).2).2 _ (List.mem_cons_self ..)).1
    · have e := rvEq_inv _ _ (iff_t hκ).1
      subst e
      rw [dec_int hx]
      exact hR W hS'
  · intro w0 w L i k a cp hS hk70 hL R hR
    have inv : ∀ r h', (rvAgg r fun l => nthK l 79 fun v => rvSlc v fun j _ _ _ => iff (Nat.blt 2 j) (iff (rvEqL l (xA j c)) (allK h' [(2, .row 67 16 c (colsC c)), (j, .row 67 16 c (colsC c))] true) false) false) = true → ∃ j, r = .agg (xA j c) ∧ 2 < j ∧ h'.at 2 = rowC c ∧ h'.at j = rowC c := by
      intro r h' hκ
      obtain ⟨l, rfl, g1⟩ := rvAgg_inv hκ
      obtain ⟨v, _, g2⟩ := nthK_inv g1
      obtain ⟨j, o, ce, n, rfl, g3⟩ := rvSlc_inv g2
      obtain ⟨g4, g5⟩ := iff_t g3
      obtain ⟨g6, g7⟩ := iff_t g5
      have e := rvEqL_inv _ _ g6
      subst e
      have g8 := (allK_inv g7).2
      exact ⟨j, rfl, Nat.le_of_ble_eq_true g4, (g8 _ (List.mem_cons_self ..)).1, (g8 _ (List.mem_cons_of_mem _ (List.mem_cons_self ..))).1⟩
    refine piece_use hall h1 h2 hc (vs := [_]) (bs := 0) i k hS hL (fun b ha hle => ?_) (fun r h' hκ => ?_) R (fun r h' δ' x W b ha hle hκ hx d1 d2 hS' hmk => ?_)
    · subst ha
      have := decL_xA (δ := dlP 0 k b cp) (i := 2) rfl rfl hle
      rw [hm hk70] at this
      exact decL_cons (by simp only [dec, this]) decL_nil
    · obtain ⟨j, _, _, g, _⟩ := inv r h' hκ
      exact g
    · obtain ⟨j, rfl, hj, _, hat⟩ := inv r h' hκ
      obtain ⟨xs, hxs, rfl⟩ := dec_agg hx
      have hsl : ∃ u, dec δ' (.slc j 0 0 c) = some u := by
        have : ∀ (l : List RV) (ys : List Value) (v : RV), decL δ' l = some ys → v ∈ l → ∃ u, dec δ' v = some u := by
          intro l
          induction l with
          | nil => intro ys v _ hv; cases hv
          | cons a l ih =>
            intro ys v h hv
            obtain ⟨x, y, hx, hy, rfl⟩ := decL_cons_inv h
            rcases List.mem_cons.1 hv with rfl | hv
            · exact ⟨x, hx⟩
            · exact ih y v hy hv
        exact this _ _ _ hxs (List.mem_of_getElem? (i := 79) rfl)
      obtain ⟨u, hu⟩ := hsl
      obtain ⟨b', c', hb', hle', rfl⟩ := dec_slc hu
      rw [Nat.zero_add] at hle'
      have e2 := decL_xA (i := j) d1 hb' hle'
      rw [hm hk70] at e2
      rw [e2] at hxs; cases hxs
      obtain ⟨vs', hv', hS2⟩ := hmk j b' c' c 67 16 (colsC c) hat hj hb'
      rw [decL_colsC c h2] at hv'; cases hv'
      exact hR W _ c' hS2
  · intro w0 w L i k a cp bs hS hk70 hL R hR
    have inv : ∀ r h', (rvAgg r fun l => nthK l 173 fun v => rvSlc v fun j _ _ _ => iff (Nat.blt 2 j) (iff (rvEqL l (newA 2 j c)) (fldsK 0 0 c [] fun fl => allK h' [(2, .row 67 16 c (colsC c)), (j, .row 92 3 c fl)] true) false) false) = true → ∃ j, r = .agg (newA 2 j c) ∧ 2 < j ∧ h'.at 2 = rowC c ∧ h'.at j = rowF 0 0 c := by
      intro r h' hκ
      obtain ⟨l, rfl, g1⟩ := rvAgg_inv hκ
      obtain ⟨v, _, g2⟩ := nthK_inv g1
      obtain ⟨j, o, ce, n, rfl, g3⟩ := rvSlc_inv g2
      obtain ⟨g4, g5⟩ := iff_t g3
      obtain ⟨g6, g7⟩ := iff_t g5
      have e := rvEqL_inv _ _ g6
      subst e
      rw [fldsK_eq] at g7
      have g8 := (allK_inv g7).2
      exact ⟨j, rfl, Nat.le_of_ble_eq_true g4, (g8 _ (List.mem_cons_self ..)).1, (g8 _ (List.mem_cons_of_mem _ (List.mem_cons_self ..))).1⟩
    refine piece_use hall h1 h2 hn (vs := [_, _]) (bs := bs) i k hS hL (fun b ha hle => ?_) (fun r h' hκ => ?_) R (fun r h' δ' x W b ha hle hκ hx d1 d2 hS' hmk => ?_)
    · subst ha
      have := decL_xA (δ := dlP bs k b cp) (i := 2) rfl rfl hle
      rw [hm hk70] at this
      exact decL_cons (by simp [dec, dlP]) (decL_cons (by simp only [dec, this]) decL_nil)
    · obtain ⟨j, _, _, g, _⟩ := inv r h' hκ
      exact g
    · subst ha
      obtain ⟨j, rfl, hj, _, hat⟩ := inv r h' hκ
      obtain ⟨xs, hxs, rfl⟩ := dec_agg hx
      have e2 := decL_xA (i := 2) d1 d2 hle
      rw [hm hk70] at e2
      have hsl : ∃ b' c', δ' j = some (b', c') ∧ c ≤ c' ∧ xs = newL (tB k) (.slice (some ⟨b, 0, none⟩) c cp) (.slice (some ⟨b', 0, none⟩) c c') := by
        obtain ⟨b', c', hO⟩ : ∃ b' c', δ' j = some (b', c') := by
          cases hd : δ' j with
          | some p => exact ⟨p.1, p.2, rfl⟩
          | none =>
            have : ∀ (l m : List RV), decL δ' m = none → decL δ' (l ++ m) = none := by
              intro l m hm
              induction l with
              | nil => exact hm
              | cons a l ih => simp only [List.cons_append, decL, ih]; cases dec δ' a <;> rfl
            have e3 : decL δ' (newA 2 j c) = none := this (xA 2 c) _ (by simp [decL, dec, hd])
            rw [e3] at hxs; cases hxs
        by_cases hle' : c ≤ c'
        · have e3 := decL_append e2 (decL_cons (dec_i (δ := δ') (k := .i64) (n := 0)) (decL_cons (dec_e (δ := δ')) (decL_cons (dec_sl hO hle') decL_nil)))
          have e4 : decL δ' (newA 2 j c) = _ := e3
          rw [e4] at hxs; cases hxs
          exact ⟨b', c', hO, hle', rfl⟩
        · exfalso
          have : ∀ (l m : List RV), decL δ' m = none → decL δ' (l ++ m) = none := by
            intro l m hm
            induction l with
            | nil => exact hm
            | cons a l ih => simp only [List.cons_append, decL, ih]; cases dec δ' a <;> rfl
          have e3 : decL δ' (newA 2 j c) = none := this (xA 2 c) _ (by simp [decL, dec, hO, hle'])
          rw [e3] at hxs; cases hxs
      obtain ⟨b', c', hb', hle', rfl⟩ := hsl
      obtain ⟨vs', hv', hS2⟩ := hmk j b' c' c 92 3 (fldsC 0 0 c) hat hj hb'
      rw [decL_fldsC dec_e c h2] at hv'; cases hv'
      exact hR W _ c' hS2
end Go.L.Ev
set_option maxRecDepth 100000
namespace Go.L
open Go Go.RowKit Go.Proofs
set_option linter.unusedVariables false
set_option linter.unusedSimpArgs false
/-- A query's parts. -/
def xB (i : Nat) : ByteArray := ⟨#[120, UInt8.ofNat (97 + i)]⟩
def itemL : List Value := [.bool true, .string ⟨#[]⟩, .int .i64 0, .int .i64 0, .int .i64 0, .string ⟨#[]⟩, .string ⟨#[]⟩, .string ⟨#[]⟩, .int .i64 0, .slice none 0 0, .string ⟨#[]⟩]
def joinL (i : Nat) : List Value := [.string (tB 0), .string (xB i), .int .i64 1, .int .i64 1, .int .i64 1, .string ⟨#[]⟩, .string ⟨#[]⟩, .string ⟨#[]⟩, .int .i64 0, .slice none 0 0]
def joinsL (m : Nat) : List Value := (List.range m).flatMap fun i => joinL (i + 1)
def queryL (iv jv : Value) : List Value := [.bool false, iv, .string (tB 0), .string ⟨#[120]⟩, jv, .int .i64 0, .int .i64 0, .int .i64 0, .string ⟨#[]⟩, .string ⟨#[]⟩, .string ⟨#[]⟩, .int .i64 0, .slice none 0 0, .slice none 0 0, .int .i64 0, .int .i64 0, .int .i64 0, .string ⟨#[]⟩, .string ⟨#[]⟩, .string ⟨#[]⟩, .int .i64 0, .slice none 0 0, .slice none 0 0, .int .i64 (-1)]
def fldsD (c : Nat) : List FD := (List.range c).map fun i => (⟨#[]⟩, colB i, 2)
theorem fldsD_len (c : Nat) : (fldsD c).length = c := by simp [fldsD]
theorem fldsD_flat (sa : ByteArray) (c : Nat) : flat (((fldsD c).map (setT sa)).map fV) = fldsF sa c := by
  simp [fldsD, flat, fldsF, List.map_map, List.flatMap_map, Function.comp_def, setT, fV, Value.cells]
  rfl
theorem fldsD_flat0 (c : Nat) : flat ((fldsD c).map fV) = fldsF ⟨#[]⟩ c := by
  simp [fldsD, flat, fldsF, List.map_map, List.flatMap_map, Function.comp_def, fV, Value.cells]
  rfl
theorem Sl.keep1 {w w' : World} {b sz : Nat} {vs : List Value} (h : Sl w (some ⟨b, 0, none⟩) sz vs) (hs : w.heap.size ≤ w'.heap.size) (hb : b < w.heap.size → w'.heap[b]? = w.heap[b]?) : Sl w' (some ⟨b, 0, none⟩) sz vs :=
  ⟨h.each, h.at_.imp id fun ⟨b', o, ha, hlt, hr⟩ => by
    cases ha
    exact ⟨b, 0, rfl, Nat.lt_of_lt_of_le hlt hs, rangeAt_keep hr (hb hlt)⟩⟩
theorem none15w {w : World} {bs : Nat} {th : Value} (hb : w.heap[bs]? = some (.cells #[th, .bool true] 96 (0, 0))) (R : Ending → World → Prop) (h : R (.returned (.bool false)) w) : Calls Tryz.prog 15 #[.pointer (some ⟨bs, 0, none⟩)] w R := by
  refine c15 _ _ _ ?_
  unfold vc15
  refine ⟨kVal_pure (v := .bool false) (fun w' => by
    rw [eqGuard_at_pointer]; simp only [Sem.run_bind, Sem.run_pure, Result.andThen_ok]
    exact run_eql_pointer_nil w' 23 _ (by show Tryz.prog.underlying 23 = some (.pointer (Tryz.prog.pointee 23)); rw [show Tryz.prog.pointee 23 = 96 by simp [Program.pointee, Tryz.underlying23]]; exact Tryz.underlying23)) (kIf_f (kNil_p (xFa96_1 (kLoad_cell (c := ⟨Tryz.prog, _, false⟩) (scal_agg rfl) (by rw [cell_of_row w bs (0 + 1) _ 96 (0, 0) hb]; rfl) (kUn_not (x := true) h)))))⟩
/-- What of a schema lies outside: its things, the first one's fields. -/
structure OutS (bs bt n tc bf : Nat) (vs fv : List Value) (w : World) (kp : Nat → Prop) : Prop where
  s : w.heap[bs]? = some (.cells #[.slice (some ⟨bt, 0, none⟩) n tc, .bool true] 96 (0, 0))
  t : Sl w (some ⟨bt, 0, none⟩) 174 vs
  f : Sl w (some ⟨bf, 0, none⟩) 3 fv
  ks : kp bs
  kt : kp bt
  kf : kp bf
theorem OutS.mono {bs bt n tc bf : Nat} {vs fv : List Value} {w w' : World} {kp kp' : Nat → Prop} (h : OutS bs bt n tc bf vs fv w kp) (hs : w.heap.size ≤ w'.heap.size) (hb : ∀ b, b < w.heap.size → kp b → w'.heap[b]? = w.heap[b]? ∧ kp' b)
    (h1 : bt < w.heap.size) (h2 : bf < w.heap.size) : OutS bs bt n tc bf vs fv w' kp' := by
  have h0 := (Array.getElem?_eq_some_iff.1 h.s).1
  exact ⟨by rw [(hb bs h0 h.ks).1]; exact h.s, h.t.keep1 hs fun hl => (hb bt hl h.kt).1, h.f.keep1 hs fun hl => (hb bf hl h.kf).1, (hb bs h0 h.ks).2, (hb bt h1 h.kt).2, (hb bf h2 h.kf).2⟩
/-- A schema's things: what does not hang on a world. -/
structure SchF (n c bf fc : Nat) (vs : List Value) (ts : List (Int × ByteArray)) : Prop where
  th : Ths vs ts
  len : ts.length = n
  max : n ≤ 1000
  uni : ∀ x : Nat, ts[x]? = some (0, tB 0) → x = 0
  fst : ts[0]? = some (0, tB 0)
  fl : ∃ v, vs[0]? = some v ∧ ThV v 0 (tB 0) (.slice (some ⟨bf, 0, none⟩) c fc)
end Go.L
namespace Go.L.Ev
open Go Go.RowKit Go.Proofs
set_option linter.unusedVariables false
set_option linter.unusedSimpArgs false
/-- The schema lies outside. -/
abbrev extS (bs bt n tc bf : Nat) (vs fv : List Value) : Ext :=
  ⟨fun _ => bs, fun w kp => OutS bs bt n tc bf vs fv w kp ∧ bt < w.heap.size ∧ bf < w.heap.size, fun h hs hb => ⟨h.1.mono hs hb h.2.1 h.2.2, Nat.lt_of_lt_of_le h.2.1 hs, Nat.lt_of_lt_of_le h.2.2 hs⟩⟩
def OrcOK [Ext] (f : Nat) (o : List RV → Hp → K → Bool) : Prop := ∀ args h k, o args h k = true → ∃ r h', k r h' = true ∧ FnR Tryz.prog f args h r h'
section
variable {bs bt n tc bf fc c : Nat} {vs : List Value} {ts : List (Int × ByteArray)}
theorem dec_out {fv : List Value} {δ : Pl} : @dec (extS bs bt n tc bf vs fv) δ (.glob 1000000 0) = some (.pointer (some ⟨bs, 0, none⟩)) := by
  letI : Ext := extS bs bt n tc bf vs fv
  show dec δ (.glob 1000000 0) = _
  simp only [dec, gnum]
  rw [if_neg (by omega)]
  rfl
theorem orcN_ok {fv : List Value} : @OrcOK (extS bs bt n tc bf vs fv) 15 orcN := by
  letI : Ext := extS bs bt n tc bf vs fv
  intro args h k ho
  obtain ⟨hl, h1⟩ := iff_t ho
  obtain ⟨v, hv, h2⟩ := nthK_inv h1
  obtain ⟨h3, h4⟩ := iff_t h2
  have e := rvEq_inv _ _ h3
  have hl := lenIs_inv hl
  have ha : args = [.glob 1000000 0] := by
    match args, hl, hv with
    | [a], _, hv => simp at hv; rw [hv, e]
  subst ha
  refine ⟨_, h, h4, Grow.refl h, Tryz.call15, fun F δ W us hR hus => ?_⟩
  rw [decL_cons dec_out decL_nil] at hus
  cases hus
  have inv : OutS bs bt n tc bf vs fv W F.keep := (Ext.mono F.inv hR.ok.size fun b h1 h2 => ⟨hR.ok.block b h1 h2, h2⟩ : _ ∧ _).1
  exact none15w inv.s _ ⟨δ, .bool false, Ex.refl h δ, by simp [dec], rfl, hR⟩
theorem orcF_ok (hF : SchF n c bf fc vs ts) (h1c : 1 ≤ c) (hc : c ≤ 32) : @OrcOK (extS bs bt n tc bf vs ((fldsD c).map fV)) 26 (orcF c) := by
  letI : Ext := extS bs bt n tc bf vs ((fldsD c).map fV)
  intro args h k ho
  obtain ⟨hl, h1⟩ := iff_t ho
  obtain ⟨v, hv, h2⟩ := nthK_inv h1
  obtain ⟨h3, h4⟩ := iff_t h2
  have e1 := rvEq_inv _ _ h3
  obtain ⟨u, hu, h5⟩ := nthK_inv h4
  obtain ⟨h6, h7⟩ := iff_t h5
  have e2 := rvEq_inv _ _ h6
  obtain ⟨a, ha, h8⟩ := nthK_inv h7
  obtain ⟨s, l, e3, hw, h9⟩ := rvStr_inv h8
  have hl := lenIs_inv hl
  have hargs : args = [.glob 1000000 0, .str (nmN 116 0) 3, .str s l] := by
    match args, hl, hv, hu, ha with
    | [x, y, z], _, hv, hu, ha =>
      simp at hv hu ha
      rw [hv, hu, ha, e1, e2, e3]; rfl
  subst hargs
  rw [fldsK_eq] at h9
  obtain ⟨h', hk, hn, hat, hold⟩ := push_inv h9
  refine ⟨_, h', hk, Grow.push hn hold, Tryz.call26, fun F δ W us hR hus => ?_⟩
  rw [decL_cons dec_out (decL_cons (dec_s (by omega) (str_tab 0 (by omega))) (decL_cons (str_dec hw) decL_nil))] at hus
  cases hus
  have inv : OutS bs bt n tc bf vs ((fldsD c).map fV) W F.keep := (Ext.mono F.inv hR.ok.size fun b h1 h2 => ⟨hR.ok.block b h1 h2, h2⟩ : _ ∧ _).1
  obtain ⟨v0, hv0, hV0⟩ := hF.fl
  have hfl : ThV v0 0 (tB 0) (.slice (some ⟨bf, 0, none⟩) (fldsD c).length fc) := by rw [fldsD_len]; exact hV0
  refine fields26 inv.s inv.t hF.th hF.len hF.max hF.uni hF.fst hv0 hfl inv.f (by rw [fldsD_len]; omega) _ fun x W' hS => ?_
  have hown : W'.ownsRow W.heap.size 92 3 x (fldsD c).length (flat (((fldsD c).map (setT (strOf s l))).map fV)) := hS.get 0 rfl
  rw [fldsD_flat, fldsD_len] at hown
  rcases hown.2 with ⟨_, h0⟩ | ⟨g, cap, cur, rfl, hg, hgg, hnc, hrest⟩
  · omega
  have hfr := hR.fresh h.next (Nat.le_refl _)
  refine ⟨δ.put h.next g cap, _, Ex.put hfr.1, dec_sl Pl.put_self hnc, rfl, hR.push (grown_of_below hS.below) hg hn hat hold ⟨hR.ok.new hg, _, decL_fldsC (str_dec hw) c hc, ownsRow_rebase hown (Nat.zero_le _)⟩⟩
end
end Go.L.Ev
set_option maxRecDepth 100000
namespace Go.L.Ev
open Go Go.RowKit Go.Proofs
set_option linter.unusedVariables false
set_option linter.unusedSimpArgs false
theorem str_x (i : Nat) (hi : i < 100) : strOf (Nat.add 120 (Nat.mul 256 (Nat.add 97 i))) 2 = xB i := by
  have e0 : Nat.add 120 (Nat.mul 256 (Nat.add 97 i)) = 120 + 256 * (97 + i) := rfl
  have e1 : (120 + 256 * (97 + i)) % 256 = 120 := by omega
  have e2 : (120 + 256 * (97 + i)) / 256 = 97 + i := by omega
  have e3 : (97 + i) % 256 = 97 + i := by omega
  rw [e0]
  simp only [strOf, bytesOf, e1, e2, e3, xB]
  rfl
theorem l0A_0 (m : Nat) : (lkO (l0A m) 0).getD .no = itemA := by cases m <;> rfl
theorem l0A_1 (m : Nat) : (lkO (l0A m) 1).getD .no = if m = 0 then .no else rowJ m := by cases m <;> rfl
theorem l0A_2 (m i : Nat) (hi : 2 ≤ i) : (lkO (l0A m) i).getD .no = .no := by
  cases m with
  | zero => simp only [l0A, lkO]; rw [if_neg (by omega)]; rfl
  | succ k => simp only [l0A, lkO]; rw [if_neg (by omega)]; simp only []; rw [if_neg (by omega)]; rfl
theorem l0A_mem0 (m : Nat) : (0, itemA) ∈ l0A m := List.mem_cons_self ..
theorem l0A_mem1 (m : Nat) (hm : m ≠ 0) : (1, rowJ m) ∈ l0A m := by
  cases m with
  | zero => exact absurd rfl hm
  | succ k => exact List.mem_cons_of_mem _ (List.mem_cons_self ..)
/-- Where a query's parts lie. -/
def dlA (m bi ic bj jc : Nat) : Pl := fun i => if i = 0 then some (bi, ic) else if i = 1 then (if m = 0 then none else some (bj, jc)) else none
section
variable [Ext] {δ : Pl}
theorem decL_itemA : decL δ [.bool true, .str 0 0, .int .i64 0, .int .i64 0, .int .i64 0, .str 0 0, .str 0 0, .str 0 0, .int .i64 0, .nils, .str 0 0] = some itemL := by
  unfold itemL
  repeat' (first | exact decL_nil | refine decL_cons ?_ ?_)
  all_goals first | exact dec_i | exact dec_b | exact dec_n | exact dec_e
theorem decL_joinA (i : Nat) (hi : i < 100) : decL δ (joinA i) = some (joinL i) := by
  unfold joinA joinL
  repeat' (first | exact decL_nil | refine decL_cons ?_ ?_)
  all_goals first | exact dec_i | exact dec_n | exact dec_e | exact dec_s (by omega) (str_tab 0 (by omega)) | exact dec_s (by omega) (str_x i hi)
theorem decL_joinsA : ∀ (m : Nat), m ≤ 50 → decL δ (joinsA m) = some (joinsL m)
  | 0, _ => decL_nil
  | m + 1, h => by
    have h1 := decL_append (decL_joinsA m (by omega)) (decL_joinA (δ := δ) (m + 1) (by omega))
    have e : joinsL (m + 1) = joinsL m ++ joinL (m + 1) := by simp [joinsL, List.range_succ]
    rw [e]; exact h1
theorem decL_qA {jn : RV} {jv : Value} {bi ic : Nat} (h0 : δ 0 = some (bi, ic)) (hi : 1 ≤ ic) (hj : dec δ jn = some jv) : decL δ (qA jn) = some (queryL (.slice (some ⟨bi, 0, none⟩) 1 ic) jv) := by
  unfold qA queryL
  repeat' (first | exact decL_nil | refine decL_cons ?_ ?_)
  all_goals first | exact hj | exact dec_i | exact dec_b | exact dec_n | exact dec_e | exact dec_s (by omega) (str_tab 0 (by omega)) | exact dec_s (by omega) rfl | exact dec_sl h0 hi
theorem askP_ok {m c : Nat} (hov : OvS Tryz.prog (ovA m (qN m) c)) (ha : askP m c = true) : ∃ r h' H, ansA m c (allK h' (l0A m) true) r = true ∧ H.next = 2 ∧ (∀ i, H.at i = (lkO (l0A m) i).getD .no) ∧ FnR Tryz.prog 8 [.glob 1000000 0, .agg (qA (jnA m))] H r h' := by
  unfold askP pieceA at ha
  rw [natF_eq] at ha
  obtain ⟨H, h1, h2, h3⟩ := setsK_inv ha
  rcases (run_ok pg hov 1000).fn _ _ _ _ _ h1 with ⟨r, h', h4, h5⟩ | ⟨_, _, h4, _⟩
  · exact ⟨r, h', H, h4, h2, fun i => by rw [h3 i, Hp.pad_at]; rfl, h5⟩
  · cases h4
/-- What is answered. -/
theorem ansA_inv {m c : Nat} {κ : Bool} {r : RV} (h : ansA m c κ r = true) : κ = true ∧ ∃ x e, r = .tup [.agg x, .int .i64 e] ∧ x.length = 29 ∧ allOne x = true ∧
    ((32 < (m + 1) * c ∧ e = 3 ∧ x[13]? = some .nils) ∨ (¬ 32 < (m + 1) * c ∧ e = 0 ∧ (∃ i o ce, x[13]? = some (.slc i o ce ((m + 1) * c))) ∧ ∃ i o ce, x[1]? = some (.slc i o ce ((m + 1) * c)))) := by
  obtain ⟨l, rfl, h1⟩ := rvTup_inv h
  obtain ⟨hl, h2⟩ := iff_t h1
  obtain ⟨a, ha, h3⟩ := nthK_inv h2
  obtain ⟨e, he, h4⟩ := nthK_inv h3
  obtain ⟨x, rfl, h5⟩ := rvAgg_inv h4
  obtain ⟨h6, h7⟩ := iff_t h5
  obtain ⟨h8, h9⟩ := iff_t h7
  have hl := lenIs_inv hl
  have hlx := lenIs_inv h6
  have hle : l = [.agg x, e] := by
    match l, hl, ha, he with
    | [u, v], _, ha, he => simp at ha he; rw [ha, he]
  subst hle
  rcases iff_inv h9 with ⟨g1, g2⟩ | ⟨g1, g2⟩
  · obtain ⟨g3, g4⟩ := iff_t g2
    obtain ⟨u, hu, g5⟩ := nthK_inv g4
    obtain ⟨g6, g7⟩ := iff_t g5
    have e1 := rvEq_inv _ _ g3
    have e2 := rvEq_inv _ _ g6
    subst e1; subst e2
    exact ⟨g7, x, 3, rfl, hlx, h8, .inl ⟨Nat.le_of_ble_eq_true g1, rfl, hu⟩⟩
  · obtain ⟨g3, g4⟩ := iff_t g2
    obtain ⟨u, hu, g5⟩ := nthK_inv g4
    obtain ⟨i, o, ce, n, e2, g6⟩ := rvSlc_inv g5
    obtain ⟨g7, g8⟩ := iff_t g6
    obtain ⟨u', hu', g9⟩ := nthK_inv g8
    obtain ⟨i', o', ce', n', e3, g10⟩ := rvSlc_inv g9
    obtain ⟨g11, g12⟩ := iff_t g10
    have e1 := rvEq_inv _ _ g3
    subst e1
    have en := Nat.eq_of_beq_eq_true g7
    have en' := Nat.eq_of_beq_eq_true g11
    refine ⟨g12, x, 0, rfl, hlx, h8, .inr ⟨fun hlt => ?_, rfl, ⟨i, o, ce, ?_⟩, ⟨i', o', ce', ?_⟩⟩⟩
    · have : Nat.blt 32 (Nat.mul (Nat.succ m) c) = true := Nat.ble_eq_true_of_le hlt
      rw [this] at g1; cases g1
    · rw [hu, e2, en]; rfl
    · rw [hu', e3, en']; rfl
theorem decL_at : ∀ {l : List RV} {vs : List Value}, decL δ l = some vs → vs.length = l.length ∧ ∀ (i : Nat) (v : RV), l[i]? = some v → ∃ u, vs[i]? = some u ∧ dec δ v = some u
  | [], vs, h => by rw [decL_nil] at h; cases h; exact ⟨rfl, fun i v hv => by simp at hv⟩
  | a :: l, vs, h => by
    obtain ⟨x, y, hx, hy, rfl⟩ := decL_cons_inv h
    obtain ⟨h1, h2⟩ := decL_at hy
    refine ⟨by simp [h1], fun i v hv => ?_⟩
    cases i with
    | zero => simp at hv; subst hv; exact ⟨x, rfl, hx⟩
    | succ i => obtain ⟨u, hu, hd⟩ := h2 i v (by simpa using hv); exact ⟨u, by simpa using hu, hd⟩
end
/-- What stands when a query is asked. -/
abbrev AskL (bs bt n tc bf fc c : Nat) (vs : List Value) (bi ic m : Nat) (jv : Value) (M : List Own) : List Own :=
  .bx bs 96 #[.slice (some ⟨bt, 0, none⟩) n tc, .bool true] :: .row (.slice (some ⟨bt, 0, none⟩) n tc) 113 174 n (flat vs) :: .row (.slice (some ⟨bf, 0, none⟩) c fc) 92 3 c (fldsF ⟨#[]⟩ c) ::
    .row (.slice (some ⟨bi, 0, none⟩) 1 ic) 72 11 1 itemL :: .row jv 74 10 m (joinsL m) :: M
theorem Ask8 {m c : Nat} (hm : m ≤ 4) (h1c : 1 ≤ c) (hc : c ≤ 32) (ha : askP m c = true) (hqf : (qS m (qN m)).fits = true) (hqc : (qS m (qN m)).check (run ty0 fu0 ov0 1000) = true) {bs bt n tc bf fc bi ic : Nat} {vs : List Value} {ts : List (Int × ByteArray)} {jv : Value} {M : List Own} {w0 w : World}
    (hF : SchF n c bf fc vs ts) (hS : Go.L.St w0 (AskL bs bt n tc bf fc c vs bi ic m jv M) w) (hj0 : m = 0 → jv = .slice none 0 0) (R : Ending → World → Prop)
    (h : ∀ W (xs : List Value) e, Go.L.St w0 (AskL bs bt n tc bf fc c vs bi ic m jv M) W → xs.length = 29 → (∀ u ∈ xs, u.oneCell' = true) →
      ((32 < (m + 1) * c ∧ e = 3 ∧ xs[13]? = some (.slice none 0 0)) ∨ (¬ 32 < (m + 1) * c ∧ e = 0 ∧ (∃ a cp, xs[13]? = some (.slice a ((m + 1) * c) cp)) ∧ ∃ a cp, xs[1]? = some (.slice a ((m + 1) * c) cp))) → R (.returned (.tuple #[.agg xs.toArray, .int .i64 e])) W) :
    Calls Tryz.prog 8 #[.pointer (some ⟨bs, 0, none⟩), .agg (queryL (.slice (some ⟨bi, 0, none⟩) 1 ic) jv).toArray] w R := by
  letI : Ext := extS bs bt n tc bf vs ((fldsD c).map fV)
  have hov : OvS Tryz.prog (ovA m (qN m) c) := ((ov0_ok.orc1 orcN_ok).orc1 (orcF_ok hF h1c hc)).snaps (.cons (s := qS m (qN m)) rfl (snapOK (run_ok pg ov0_ok 1000) hqf hqc) .nil)
  obtain ⟨r, h', H, hκ, hn, hat, hFn⟩ := askP_ok hov ha
  obtain ⟨hall, x, e, rfl, hlx, hone, hres⟩ := ansA_inv hκ
  have hsame := (allK_inv hall).2
  have h0at : H.at 0 = itemA := by rw [hat, l0A_0]
  have h1at : H.at 1 = if m = 0 then .no else rowJ m := by rw [hat, l0A_1]
  have h2at : ∀ i, 2 ≤ i → H.at i = .no := fun i hi => by rw [hat, l0A_2 m i hi]
  -- the joins
  obtain ⟨bj, jc, hjc, hjd⟩ : ∃ bj jc, (m ≠ 0 → jv = .slice (some ⟨bj, 0, none⟩) m jc) ∧ (m ≠ 0 → m ≤ jc) := by
    have hown : w.ownsRow w0.heap.size 74 10 jv m (joinsL m) := hS.get 4 rfl
    rcases hown.2 with ⟨hv, h0⟩ | ⟨g, cap, cur, hv, _, _, hle, _⟩
    · exact ⟨0, 0, fun hne => absurd h0 hne, fun hne => absurd h0 hne⟩
    · exact ⟨g, cap, fun _ => hv, fun _ => hle⟩
  have hic : 1 ≤ ic := (own_ge (show w.ownsRow w0.heap.size 72 11 (.slice (some ⟨bi, 0, none⟩) 1 ic) 1 itemL from hS.get 3 rfl)).2.2
  let δ := dlA m bi ic bj jc
  have which : ∀ i, H.at i ≠ .no → i = 0 ∨ (i = 1 ∧ m ≠ 0) := fun i hi => by
    rcases Nat.lt_or_ge i 2 with hlt | hge
    · have : i = 0 ∨ i = 1 := by omega
      rcases this with rfl | rfl
      · exact .inl rfl
      · refine .inr ⟨rfl, fun e0 => ?_⟩
        rw [h1at, if_pos e0] at hi; exact hi rfl
    · exact absurd (h2at i hge) hi
  have E : Emb (AskL bs bt n tc bf fc c vs bi ic m jv M) H δ (fun i => if i = 0 then 3 else 4) := by
    refine ⟨fun i hi => ?_, fun i j hi hj hp => ?_⟩
    · rcases which i hi with rfl | ⟨rfl, hm0⟩
      · exact ⟨bi, ic, 72, 11, 1, _, itemL, h0at, rfl, rfl, decL_itemA⟩
      · refine ⟨bj, jc, 74, 10, m, joinsA m, joinsL m, by rw [h1at, if_neg hm0]; rfl, ?_, ?_, decL_joinsA m (by omega)⟩
        · rw [← hjc hm0]; rfl
        · show (if (1 : Nat) = 0 then _ else if (1 : Nat) = 1 then (if m = 0 then none else some (bj, jc)) else none) = _
          rw [if_neg (by omega), if_pos rfl, if_neg hm0]
    · rcases which i hi with rfl | ⟨rfl, _⟩ <;> rcases which j hj with rfl | ⟨rfl, _⟩ <;> first | rfl | (simp at hp)
  have hf : ∀ i, H.next ≤ i → δ i = none ∧ H.at i = .no := fun i hi => by
    rw [hn] at hi
    refine ⟨?_, h2at i hi⟩
    show (if i = 0 then _ else if i = 1 then _ else none) = _
    rw [if_neg (by omega), if_neg (by omega)]
  have hlt : ∀ i, H.at i ≠ .no → i < H.next := fun i hi => by rw [hn]; rcases which i hi with rfl | ⟨rfl, _⟩ <;> omega
  have hsm : ∀ i, H.at i ≠ .no → h'.at i = H.at i := fun i hi => by
    rcases which i hi with rfl | ⟨rfl, hm0⟩
    · rw [(hsame _ (l0A_mem0 m)).1, h0at]
    · rw [(hsame _ (l0A_mem1 m hm0)).1, h1at, if_neg hm0]
  -- what lies outside
  have hx : Ext.ok w (Emb.keep H δ) := by
    have kp : ∀ (j : Nat) (o : Own) (b : Nat), (AskL bs bt n tc bf fc c vs bi ic m jv M)[j]? = some o → o.blk = some b → j < 3 → Emb.keep H δ b := by
      rintro j o b hj hb hlt ⟨i, c', hi, hd⟩
      obtain ⟨b', cp, e', sz, n', cs, vs', _, h2, h3, _⟩ := E.at_ i hi
      rw [hd] at h3; cases h3
      have hne : j ≠ (fun i => if i = 0 then 3 else 4) i := by
        rcases which i hi with rfl | ⟨rfl, _⟩ <;> simp <;> omega
      rcases hS.apart _ _ _ _ hj h2 hne with hh | hh
      · rw [hb] at hh; cases hh
      · exact hh (by rw [hb]; rfl)
    have o0 := hS.get 0 rfl
    have o1 : w.ownsRow w0.heap.size 113 174 (.slice (some ⟨bt, 0, none⟩) n tc) n (flat vs) := hS.get 1 rfl
    have o2 : w.ownsRow w0.heap.size 92 3 (.slice (some ⟨bf, 0, none⟩) c fc) c (fldsF ⟨#[]⟩ c) := hS.get 2 rfl
    have o2' : w.ownsRow w0.heap.size 92 3 (.slice (some ⟨bf, 0, none⟩) c fc) c (((fldsD c).map fV).flatMap (·.cells.toList)) := by
      have := fldsD_flat0 c
      unfold flat at this
      rw [this]; exact o2
    refine ⟨⟨o0.2, hF.th.sl hS 1 rfl hF.len, ?_, kp 0 _ _ rfl rfl (by omega), kp 1 _ _ rfl rfl (by omega), kp 2 _ _ rfl rfl (by omega)⟩, (own_ge o1).2.1, (own_ge o2).2.1⟩
    obtain ⟨a', cp', he, hsl⟩ := Sl.of_owns (fV_size (fldsD c)) o2' (by simp [fldsD])
    cases he
    exact hsl
  have hargs : decL δ [.glob 1000000 0, .agg (qA (jnA m))] = some [.pointer (some ⟨bs, 0, none⟩), .agg (queryL (.slice (some ⟨bi, 0, none⟩) 1 ic) jv).toArray] := by
    have hj : dec δ (jnA m) = some jv := by
      cases m with
      | zero => rw [hj0 rfl]; exact dec_n
      | succ k =>
        rw [hjc (by omega)]
        refine dec_sl (i := 1) ?_ (hjd (by omega))
        show (if (1 : Nat) = 0 then _ else if (1 : Nat) = 1 then (if k + 1 = 0 then none else some (bj, jc)) else none) = _
        rw [if_neg (by omega), if_pos rfl, if_neg (by omega)]
    have := decL_qA (δ := δ) (bi := bi) (ic := ic) rfl hic hj
    exact decL_cons dec_out (decL_cons (by simp only [dec, this]) decL_nil)
  refine (hFn.2.2 _ _ w _ (E.rel hS hf hx) hargs).mono ?_
  rintro en W ⟨δ', y, hX, hy, rfl, hRel⟩
  have hS' := E.back hS hx hX hlt hsm hRel
  simp only [dec, decL] at hy
  cases hxs : decL δ' x with
  | none => rw [hxs] at hy; simp at hy
  | some xs =>
    rw [hxs] at hy
    simp only [Option.some.injEq] at hy
    subst hy
    obtain ⟨hl2, hget⟩ := decL_at hxs
    refine h W xs e hS' (by rw [hl2, hlx]) (decL_one hxs hone) ?_
    rcases hres with ⟨g1, g2, g3⟩ | ⟨g1, g2, ⟨i, o, ce, g3⟩, ⟨i', o', ce', g4⟩⟩
    · obtain ⟨u, hu, hd⟩ := hget 13 _ g3
      rw [dec_n] at hd; cases hd
      exact .inl ⟨g1, g2, hu⟩
    · obtain ⟨u, hu, hd⟩ := hget 13 _ g3
      obtain ⟨_, _, _, _, rfl⟩ := dec_slc hd
      obtain ⟨u', hu', hd'⟩ := hget 1 _ g4
      obtain ⟨_, _, _, _, rfl⟩ := dec_slc hd'
      exact .inr ⟨g1, g2, ⟨_, _, hu⟩, ⟨_, _, hu'⟩⟩
end Go.L.Ev

set_option maxRecDepth 100000
namespace Go.L
open Go Go.RowKit Go.Proofs
set_option linter.unusedVariables false
set_option linter.unusedSimpArgs false

/-! ### Rules -/
section
variable {c : Cx} {w : World} {k : Value → World → Prop} {t : TypeId}
theorem kAdd_str {a b : ByteArray} (hn : a.size + b.size ≤ 1000000) (h : k (.string (a ++ b)) w) : kBin c w .add t (.string a) (.string b) k := ⟨kVal_pure (fun _ => by
  rw [binOp_string_add]; unfold Op.stringOp
  have : ¬ (((a.size + b.size : Nat) : Int) > IntKind.i64.max) := by
    rw [show IntKind.i64.max = 9223372036854775807 from rfl]; omega
  simp only [if_neg this]; rfl) h⟩
theorem kRemN {q : IntKind} {a b : Nat} (hb : 0 < b) (hw : q.wrap ((a % b : Nat) : Int) = ((a % b : Nat) : Int)) (h : k (.int q ((a % b : Nat) : Int)) w) : kBin c w .rem t (.int q a) (.int q b) k := ⟨kVal_pure (fun _ => by
  have h0 : ¬ (b : Int) = 0 := by omega
  have e : Int.tmod (a : Int) (b : Int) = ((a % b : Nat) : Int) := rfl
  rw [binOp_rem]; unfold Op.intDiv
  rw [if_neg (by simpa using h0)]
  show _ = Result.ok (Value.int q _) _
  simp only [e, hw]; rfl) h⟩
theorem kQuoN {q : IntKind} {a b : Nat} (hb : 0 < b) (hw : q.wrap ((a / b : Nat) : Int) = ((a / b : Nat) : Int)) (h : k (.int q ((a / b : Nat) : Int)) w) : kBin c w .quo t (.int q a) (.int q b) k := ⟨kVal_pure (fun _ => by
  have h0 : ¬ (b : Int) = 0 := by omega
  have e : Int.tdiv (a : Int) (b : Int) = ((a / b : Nat) : Int) := rfl
  rw [binOp_quo]; unfold Op.intDiv
  rw [if_neg (by simpa using h0)]
  show _ = Result.ok (Value.int q _) _
  simp only [e, hw]; rfl) h⟩
/-- The letters. -/
def abcB : ByteArray := ⟨#[97, 98, 99, 100, 101, 102, 103, 104, 105, 106, 107, 108, 109, 110, 111, 112, 113, 114, 115, 116, 117, 118, 119, 120, 121, 122]⟩
theorem abc_at : ∀ j, j < 26 → abcB.extract j (j + 1) = ⟨#[UInt8.ofNat (97 + j)]⟩ := by decide +kernel
end
theorem kSl_abc {X : Chain → World → Prop} {q : Bool} {w : World} {k : Value → World → Prop} {j : Nat} (hj : j < 26) (h : k (.string ⟨#[UInt8.ofNat (97 + j)]⟩) w) :
    kSl ⟨Tryz.prog, X, q⟩ w 9 (.string abcB) (some (.int .i64 (j : Nat))) (some (.int .i64 ((j : Nat) + 1 : Int))) none k :=
  ⟨kVal_pure (c := ⟨Tryz.prog, X, q⟩) (fun w' => by
    rw [run_sliceAt_string w' 9 _ _ _ _ Tryz.underlying9, run_slice_string w' 9 abcB .i64 .i64 j (j + 1) Tryz.underlying9 (by omega) (by omega) (by have : abcB.size = 26 := rfl; omega)]
    rw [show (j : Int).toNat = j from rfl, show ((j : Int) + 1).toNat = j + 1 by omega, abc_at j hj]) h⟩
theorem kNe_b4 {X : Chain → World → Prop} {q : Bool} {w : World} {k : Value → World → Prop} {ox oy : Operand} {x y : Bool} (h : k (.bool (!(x == y))) w) : kEq ⟨Tryz.prog, X, q⟩ w .neq 4 ox oy (.bool x) (.bool y) k := kNe_bool (c := ⟨Tryz.prog, X, q⟩) Tryz.underlying4 h
/-- Two letters of a number. -/
theorem two_col (i : Nat) : (⟨#[99]⟩ : ByteArray) ++ ⟨#[UInt8.ofNat (97 + i % 26)]⟩ ++ ⟨#[UInt8.ofNat (97 + i / 26)]⟩ = colB i := rfl
theorem two_tab (i : Nat) : (⟨#[116]⟩ : ByteArray) ++ ⟨#[UInt8.ofNat (97 + i % 26)]⟩ ++ ⟨#[UInt8.ofNat (97 + i / 26)]⟩ = tB i := rfl
theorem one_x (i : Nat) : (⟨#[120]⟩ : ByteArray) ++ ⟨#[UInt8.ofNat (97 + i)]⟩ = xB i := rfl
theorem tB_inj {i j : Nat} (hi : i < 70) (hj : j < 70) (h : tB i = tB j) : i = j := by
  have h1 : (tB i).data.toList = (tB j).data.toList := by rw [h]
  simp only [tB] at h1
  simp only [List.cons.injEq, and_true, true_and] at h1
  have e1 := congrArg UInt8.toNat h1.1
  have e2 := congrArg UInt8.toNat h1.2
  simp only [UInt8.toNat_ofNat'] at e1 e2
  omega
/-! ### What is built -/
theorem built61 : Tryz.prog.built 61 [(0, .int .i64 3)] = some (stmtL ⟨#[]⟩ (.slice none 0 0)).toArray := by kernel_rfl
theorem built67 (s : ByteArray) : Tryz.prog.built 67 [(0, .string s), (1, .int .i64 2)] = some #[.string s, .int .i64 2, .bool false, .bool false, .bool false, .int .i64 0, .int .i64 0, .int .i64 0, .string ⟨#[]⟩, .string ⟨#[]⟩, .string ⟨#[]⟩, .int .i64 0, .slice none 0 0, .string ⟨#[]⟩, .string ⟨#[]⟩, .int .i64 0] := by kernel_rfl
theorem built72 : Tryz.prog.built 72 [(0, .bool true)] = some itemL.toArray := by kernel_rfl
theorem built28 (s u : ByteArray) : Tryz.prog.built 28 [(0, .string s), (1, .string u)] = some #[.string s, .string u] := by kernel_rfl
theorem built33 : Tryz.prog.built 33 [(0, .int .i64 1), (1, .int .i64 1)] = some #[.int .i64 1, .int .i64 1, .string ⟨#[]⟩] := by kernel_rfl
theorem built37 : Tryz.prog.built 37 [(0, .int .i64 1), (1, .agg #[.int .i64 1, .int .i64 1, .string ⟨#[]⟩])] = some #[.int .i64 1, .int .i64 1, .int .i64 1, .string ⟨#[]⟩, .string ⟨#[]⟩, .string ⟨#[]⟩, .int .i64 0, .slice none 0 0] := by kernel_rfl
theorem built74 (s u : ByteArray) : Tryz.prog.built 74 [(0, .agg #[.string s, .string u]), (1, .agg #[.int .i64 1, .int .i64 1, .int .i64 1, .string ⟨#[]⟩, .string ⟨#[]⟩, .string ⟨#[]⟩, .int .i64 0, .slice none 0 0])] = some #[.string s, .string u, .int .i64 1, .int .i64 1, .int .i64 1, .string ⟨#[]⟩, .string ⟨#[]⟩, .string ⟨#[]⟩, .int .i64 0, .slice none 0 0] := by kernel_rfl
theorem built40 (a : Option Addr) (n cp : Nat) (s u : ByteArray) : Tryz.prog.built 40 [(1, .slice a n cp), (2, .agg #[.string s, .string u]), (8, .int .i64 (-1))] = some #[.bool false, .slice a n cp, .string s, .string u, .slice none 0 0, .int .i64 0, .int .i64 0, .int .i64 0, .string ⟨#[]⟩, .string ⟨#[]⟩, .string ⟨#[]⟩, .int .i64 0, .slice none 0 0, .slice none 0 0, .int .i64 0, .int .i64 0, .int .i64 0, .string ⟨#[]⟩, .string ⟨#[]⟩, .string ⟨#[]⟩, .int .i64 0, .slice none 0 0, .slice none 0 0, .int .i64 (-1)] := by kernel_rfl
end Go.L
set_option maxRecDepth 100000
namespace Go.L
open Go Go.RowKit Go.Proofs
set_option linter.unusedVariables false
set_option linter.unusedSimpArgs false

/-- What evaluations show, for all numbers that may be. -/
structure AllP : Prop where
  pc : ∀ c, 1 ≤ c → c ≤ 32 → Pieces c
  ask : ∀ m c, m ≤ 4 → 1 ≤ c → c ≤ 32 → Ev.askP m c = true
  fits : ∀ m, m ≤ 4 → (Ev.qS m (Ev.qN m)).fits = true
  check : ∀ m, m ≤ 4 → (Ev.qS m (Ev.qN m)).check (Ev.run Ev.ty0 Ev.fu0 Ev.ov0 1000) = true
  works : ∀ (w : World) (R : Ending → World → Prop), (∀ W, Below w.heap.size w W → R (.returned (.bool true)) W) → Calls Tryz.prog 4 #[] w R
def tagsL (k : Nat) : List (Int × ByteArray) := (List.range k).map fun i => (0, tB i)
theorem tagsL_len (k : Nat) : (tagsL k).length = k := by simp [tagsL]
theorem tagsL_get {k x : Nat} {p : Int × ByteArray} (h : (tagsL k)[x]? = some p) : x < k ∧ p = (0, tB x) := by
  have hx := (List.getElem?_eq_some_iff.1 h).1
  rw [tagsL_len] at hx
  simp [tagsL, hx] at h
  exact ⟨hx, h.symm⟩
theorem tagsL_succ (k : Nat) : tagsL (k + 1) = tagsL k ++ [(0, tB k)] := by simp [tagsL, List.range_succ]
theorem tagsL_new {k i : Nat} (hk : k ≤ i) (hi : i < 70) : ∀ t ∈ tagsL k, t ≠ (0, tB i) := by
  intro t ht e
  obtain ⟨x, hx⟩ := List.mem_iff_getElem?.1 ht
  obtain ⟨h1, h2⟩ := tagsL_get hx
  rw [e] at h2
  have := tB_inj hi (by omega) (congrArg Prod.snd h2)
  omega
theorem Ths.snoc {vs : List Value} {ts : List (Int × ByteArray)} (h : Ths vs ts) {v fl : Value} {k : Int} {nm : ByteArray} (hv : ThV v k nm fl) : Ths (vs ++ [v]) (ts ++ [(k, nm)]) := by
  refine ⟨by simp [h.len], fun i t hi => ?_⟩
  by_cases hl : i < ts.length
  · rw [List.getElem?_append_left hl] at hi
    obtain ⟨v', fl', h1, h2⟩ := h.of i t hi
    exact ⟨v', fl', by rw [List.getElem?_append_left (List.getElem?_eq_some_iff.1 h1).1]; exact h1, h2⟩
  · have hlt := (List.getElem?_eq_some_iff.1 hi).1
    simp at hlt
    have : i = ts.length := by omega
    subst this
    simp at hi; subst hi
    exact ⟨v, fl, by rw [← h.len]; simp, hv⟩
/-- What stands behind so many tables: the first one's fields are held. -/
def Made (k c : Nat) (vs : List Value) (M : List Own) : Prop :=
  (k = 0 ∧ M = []) ∨ ∃ bf fc v, M = [.row (.slice (some ⟨bf, 0, none⟩) c fc) 92 3 c (fldsF ⟨#[]⟩ c)] ∧ vs[0]? = some v ∧ ThV v 0 (tB 0) (.slice (some ⟨bf, 0, none⟩) c fc)
theorem colL_one (i : Nat) : ∀ u ∈ colL i, u.oneCell' = true := fun u hu => List.all_eq_true.1 (show (colL i).all (·.oneCell') = true from rfl) u hu
theorem joinL_one (i : Nat) : ∀ u ∈ joinL i, u.oneCell' = true := fun u hu => List.all_eq_true.1 (show (joinL i).all (·.oneCell') = true from rfl) u hu
theorem stmtL_one (nm : ByteArray) (a : Option Addr) (n cp : Nat) : (stmtL nm (.slice a n cp)).toArray.all (·.oneCell') = true := by rw [List.all_toArray]; rfl
theorem queryL_one (a a' : Option Addr) (n cp n' cp' : Nat) : (queryL (.slice a n cp) (.slice a' n' cp')).toArray.all (·.oneCell') = true := by rw [List.all_toArray]; rfl
theorem colsF_succ (i : Nat) : colsF (i + 1) = colsF i ++ colL i := by simp [colsF, List.range_succ]
theorem joinsL_succ (i : Nat) : joinsL (i + 1) = joinsL i ++ joinL (i + 1) := by simp [joinsL, List.range_succ]
theorem own_slice {W : World} {base n : Nat} {e : TypeId} {sz : Nat} {x : Value} {xs : List Value} (h : W.ownsRow base e sz x n xs) : ∃ a cp, x = .slice a n cp := by
  rcases h.2 with ⟨rfl, rfl⟩ | ⟨g, cap, cur, rfl, _⟩
  · exact ⟨none, 0, rfl⟩
  · exact ⟨_, _, rfl⟩
theorem modn_lt {i : Nat} (h : i < 676) : i % 26 < 26 ∧ i / 26 < 26 := ⟨Nat.mod_lt _ (by omega), by omega⟩
theorem adopt_nil {w0 W : World} {L : List Own} {e : TypeId} {sz : Nat} (h : St w0 L W) : St w0 (.row (.slice none 0 0) e sz 0 [] :: L) W :=
  (h.adopt (o := .row (.slice none 0 0) e sz 0 []) (World.ownsRow_nil _ _ _ _) (fun p hp => by
    cases hpb : p.blk with
    | none => exact .inl rfl
    | some k => exact .inr (by simp [Own.blk, Value.ownBlock]))).front
/-- What is asked at the end, and answered. -/
theorem rest3 (A : AllP) {n c s : Nat} (h1n : 1 ≤ n) (hn : n ≤ 70) (h1c : 1 ≤ c) (hc : c ≤ 32) (h1s : 1 ≤ s) (hs : s ≤ 5) {w W : World} {bs b9 k tc cp b13 : Nat} {ta a ia ja : Option Addr} {ic jc : Nat} {vs : List Value} {M : List Own} {nm : ByteArray} (h1k : 1 ≤ k) (hk : k ≤ 60)
    (hT : Ths vs (tagsL k)) (hM : Made k c vs M) (hj0 : s = 1 → Value.slice ja (s - 1) jc = .slice none 0 0)
    (hS : St w (.bx b13 40 (queryL (.slice ia 1 ic) (.slice ja (s - 1) jc)).toArray :: .row (.slice ja (s - 1) jc) 74 10 (s - 1) (joinsL (s - 1)) :: .row (.slice ia 1 ic) 72 11 1 itemL :: .bx b9 61 (stmtL nm (.slice a c cp)).toArray :: DoL bs k c ta tc (flat vs) a cp M) W)
    (R : Ending → World → Prop) (h : ∀ (W : World) (xs : List Value) (e : Int), St w [] W → xs.length = 29 → (∀ u ∈ xs, u.oneCell' = true) →
      ((32 < s * c ∧ e = 3 ∧ xs[13]? = some (.slice none 0 0)) ∨ (¬ 32 < s * c ∧ e = 0 ∧ (∃ a cp, xs[13]? = some (.slice a (s * c) cp)) ∧ ∃ a cp, xs[1]? = some (.slice a (s * c) cp))) → R (.returned (.tuple #[.agg xs.toArray, .int .i64 e])) W) :
    Calls Tryz.prog 8 #[.pointer (some ⟨bs, 0, none⟩), .agg (queryL (.slice ia 1 ic) (.slice ja (s - 1) jc)).toArray] W R := by
  rcases hM with ⟨h0, _⟩ | ⟨bf, fc, v, rfl, hv, hV⟩
  · omega
  obtain ⟨bi, rfl⟩ := Ev.own_some (show W.ownsRow w.heap.size 72 11 (.slice ia 1 ic) 1 itemL from hS.get 2 rfl) (by omega)
  obtain ⟨bt, rfl⟩ := Ev.own_some (show W.ownsRow w.heap.size 113 174 (.slice ta k tc) k (flat vs) from hS.get 5 rfl) h1k
  have hF : SchF k c bf fc vs (tagsL k) := ⟨hT, tagsL_len k, by omega, fun x hx => by
      obtain ⟨h1, h2⟩ := tagsL_get hx
      exact (tB_inj (by omega) (by omega) (congrArg Prod.snd h2)).symm, by rw [tagsL, List.getElem?_map, List.getElem?_range h1k]; rfl, ⟨v, hv, hV⟩⟩
  have hms : s - 1 + 1 = s := by omega
  -- schema, things, fields, items, joins
  have hS : St w (Ev.AskL bs bt k tc bf fc c vs bi ic (s - 1) (.slice ja (s - 1) jc) []) W := ((((hS.rm 0).rm 2).rm 4).mv 4).mv 3
  refine Ev.Ask8 (by omega) h1c hc (A.ask _ _ (by omega) h1c hc) (A.fits _ (by omega)) (A.check _ (by omega)) hF hS (fun h0 => hj0 (by omega)) R (fun W xs e hS h1 h2 h3 => h W xs e (hS.sub (List.nil_sublist _)) h1 h2 (by rw [hms] at h3; exact h3))
end Go.L
set_option maxRecDepth 100000
namespace Go.L
open Go Go.RowKit Go.Proofs
set_option linter.unusedVariables false
set_option linter.unusedSimpArgs false

theorem St.up {w0 W : World} {L1 L2 : List Own} {a : Own} (h : St w0 (L1 ++ a :: L2) W) : St w0 (a :: (L1 ++ L2)) W := h.perm List.perm_middle
theorem wrap_sm {n : Nat} (h : n ≤ 1000000) : IntKind.i64.wrap ((n : Nat) : Int) = ((n : Nat) : Int) := wrap_id (by omega) (by omega)
theorem bounds3 (A : AllP) (n c s : Int) (w : World) (R : Ending → World → Prop) (h : ∀ W, Below w.heap.size w W → R (.returned (.bool true)) W) : Calls Tryz.prog 3 #[.int .i64 n, .int .i64 c, .int .i64 s] w R := by
  refine c3 _ _ _ _ _ ?_
  unfold vc3
  refine kJn_inv (fun cs W => W = w ∧ 1 ≤ n ∧ n ≤ 70 ∧ 1 ≤ c ∧ c ≤ 32 ∧ 1 ≤ s ∧ s ≤ 5) ?_ ?_
  rotate_left
  · intro J hJ
    have fin : kCall (cR Tryz.prog R) w 4 #[] (fun v W => R (.returned v) W) := kCall_i (Tryz.call4 _ _) (A.works w _ fun W hB => h W hB)
    refine kBin_lss (kIf_d (fun e1 => kIf_t fin) (fun e1 => ?_))
    refine kBin_gtr (kIf_d (fun e2 => kIf_t fin) (fun e2 => ?_))
    refine kBin_lss (kIf_d (fun e3 => kIf_t fin) (fun e3 => ?_))
    refine kBin_gtr (kIf_d (fun e4 => kIf_t fin) (fun e4 => ?_))
    refine kBin_lss (kIf_d (fun e5 => kIf_t fin) (fun e5 => ?_))
    refine kBin_gtr (kIf_d (fun e6 => fin) (fun e6 => kD_i (hJ _ _ ⟨rfl, by omega, by omega, by omega, by omega, by omega, by omega⟩)))
  rintro cs W ⟨rfl, h1n, hn, h1c, hc, h1s, hs⟩ ds
  obtain ⟨N, rfl⟩ := Int.eq_ofNat_of_zero_le (show 0 ≤ n by omega)
  obtain ⟨C, rfl⟩ := Int.eq_ofNat_of_zero_le (show 0 ≤ c by omega)
  obtain ⟨S, rfl⟩ := Int.eq_ofNat_of_zero_le (show 0 ≤ s by omega)
  refine kCall_i (Tryz.call5 _ _) (New5 (St.start W) _ fun bs V hS => ?_)
  refine kBuild_i built61 (kAlloc_f Tryz.zeroValue61 hS fun b9 V hS => kStoreA_st hS 0 rfl rfl (stmtL_one _ _ _ _) Tryz.sizeOf61 fun V hS => ?_)
  have hS := adopt_nil (e := 67) (sz := 16) hS
  -- the columns
  refine ⟨⟨fun cs V => ∃ (i : Nat) (a : Option Addr) (cp : Nat), cs = [.int .i64 i] ∧ i ≤ C ∧ St W [.row (.slice a i cp) 67 16 i (colsF i), .bx b9 61 (stmtL ⟨#[]⟩ (.slice a i cp)).toArray, .bx bs 96 #[.slice none 0 0, .bool true]] V,
    fun cs _ => C - (match cs with | [.int _ i] => i.toNat | _ => 0), ⟨0, none, 0, rfl, Nat.zero_le _, hS⟩, ?_⟩⟩
  rintro cs ds V ⟨i, a, cp, rfl, hi, hS⟩
  dsimp only [List.getD_cons_zero]
  refine kBin_lss (kIf_d (fun e => ?_) (fun e => ?_))
  · have hil : i < C := by omega
    have hm := modn_lt (show i < 676 by omega)
    refine kDrawn_i (kDrawn_i (xFa61_3 (xFa52_1 (kLd hS 1 rfl (by rfl) rfl (kRemN (b := 26) (by omega) (wrap_sm (by omega)) (kRemN (b := 26) (by omega) (wrap_sm (by omega)) (kBin_add ?_)))))))
    rw [wrap_id (by omega) (by omega)]
    refine kSl_abc hm.1 (kAdd_str (by show 1 + 1 ≤ 1000000; omega) (kQuoN (b := 26) (by omega) (wrap_sm (by omega)) (kQuoN (b := 26) (by omega) (wrap_sm (by omega)) (kBin_add ?_))))
    rw [wrap_id (by omega) (by omega)]
    refine kSl_abc hm.2 (kAdd_str (by rw [ByteArray.size_append]; show 1 + 1 + 1 ≤ 1000000; omega) ?_)
    rw [two_col]
    refine kBuild_i (built67 _) (kDrew_st hS fun V hS => kBuildS_st (xE49 V) hS [.agg (colL i).toArray] rfl rfl (by omega) (by omega) (fun v hv => by rw [List.mem_singleton.1 hv]; rfl) fun y V hS => ?_)
    have hS := hS.front
    refine xFa61_3 (kSame_i (xFa52_1 (kSame_i (kLd hS 2 rfl (by rfl) rfl (kSame_i (kDrew_st hS fun V hS => ?_))))))
    have e1 : flat [Value.agg (colL i).toArray] = colL i := by simp [flat, Value.cells]
    rw [e1] at hS
    refine kAppRow_st (xE49 V) hS 1 0 rfl rfl (colL_one i) (by simp only [maxLen]; omega) (by omega) fun x' V hS => ?_
    rw [← colsF_succ] at hS
    obtain ⟨a', cp', rfl⟩ := own_slice (show V.ownsRow W.heap.size 67 16 x' (i + 1) (colsF (i + 1)) from hS.get 1 rfl)
    refine xFa61_3 (xFa52_1 (kDrew_st hS fun V hS => kSt hS 2 rfl (by exact Nat.le_of_ble_eq_true rfl) rfl rfl rfl fun V hS => kDrew_st hS fun V hS => ?_))
    refine kBin_add (kD_i ⟨⟨i + 1, a', cp', ?_, hil, hS.rm 0⟩, ?_⟩)
    · rw [wrap_id (by omega) (by omega)]; rfl
    · rw [wrap_id (by omega) (by omega)]; show C - ((i : Int) + 1).toNat < C - (i : Int).toNat; omega
  have hie : i = C := by omega
  subst hie
  -- the tables
  have hS := ((adopt_nil (e := 113) (sz := 174) hS).mv 3).mv 3
  refine ⟨⟨fun cs V => ∃ (j k : Nat) (nm : ByteArray) (ta : Option Addr) (tc : Nat) (vs : List Value) (M : List Own), cs = [.int .i64 j] ∧ j ≤ N ∧ k = min j 60 ∧ Ths vs (tagsL k) ∧ Made k i vs M ∧ St W (.bx b9 61 (stmtL nm (.slice a i cp)).toArray :: DoL bs k i ta tc (flat vs) a cp M) V,
    fun cs _ => N - (match cs with | [.int _ i] => i.toNat | _ => 0), ⟨0, 0, _, none, 0, [], [], rfl, Nat.zero_le _, rfl, ⟨rfl, fun x t ht => by simp [tagsL] at ht⟩, .inl ⟨rfl, rfl⟩, hS⟩, ?_⟩⟩
  rintro cs ds V ⟨j, k, nm, ta, tc, vs, M, rfl, hj, hk, hT, hM, hS⟩
  dsimp only [List.getD_cons_zero]
  refine kBin_lss (kIf_d (fun e => ?_) (fun e => ?_))
  · have hjl : j < N := by omega
    have hm := modn_lt (show j < 676 by omega)
    refine kDrawn_i (kDrawn_i (kRemN (b := 26) (by omega) (wrap_sm (by omega)) (kRemN (b := 26) (by omega) (wrap_sm (by omega)) (kBin_add ?_))))
    rw [wrap_id (by omega) (by omega)]
    refine kSl_abc hm.1 (kAdd_str (by show 1 + 1 ≤ 1000000; omega) (kQuoN (b := 26) (by omega) (wrap_sm (by omega)) (kQuoN (b := 26) (by omega) (wrap_sm (by omega)) (kBin_add ?_))))
    rw [wrap_id (by omega) (by omega)]
    refine kSl_abc hm.2 (kAdd_str (by rw [ByteArray.size_append]; show 1 + 1 + 1 ≤ 1000000; omega) ?_)
    rw [two_tab]
    refine xFa61_3 (xFa52_0 (kDrew_st hS fun V hS => kSt hS 0 rfl (by exact Nat.le_of_ble_eq_true rfl) rfl rfl rfl fun V hS => kDrew_st hS fun V hS => ?_))
    have hS : St W (.bx b9 61 (stmtL (tB j) (.slice a i cp)).toArray :: DoL bs k i ta tc (flat vs) a cp M) V := hS
    refine xLdB61 hS 0 rfl rfl ?_
    have hS := hS.mv 3
    have meas : N - (IntKind.i64.wrap ((j : Int) + 1)).toNat < N - (j : Int).toNat := by rw [wrap_id (by omega) (by omega)]; omega
    have ej : [Value.int .i64 (IntKind.i64.wrap ((j : Int) + 1))] = [.int .i64 ((j + 1 : Nat) : Int)] := by rw [wrap_id (by omega) (by omega)]; rfl
    refine kCall_i (Tryz.call7 _ _) (Do7 (A.pc i (by omega) (by omega)) (M := .bx b9 61 (stmtL (tB j) (.slice a i cp)).toArray :: M) hS hT (tagsL_len k) (by omega) (by omega) (tagsL_new (by omega) (by omega)) _ (fun hk60 V ta' tc' a' c' fa fc hS => ?_) (fun hk60 V hS => ?_))
    · have hj60 : j < 60 := by omega
      have hkj : k = j := by omega
      refine kCall_i (Tryz.call6 _ _) (num6 _ _ _ (kEq_int (kBin_geq (kNe_b4 ?_))))
      rw [show decide ((j : Int) ≥ 60) = false by simp; omega]
      refine kIf_f (kBin_lss ?_)
      rw [show decide ((j : Int) < 60) = true by simp; omega]
      refine kIf_t (kNe_int (kIf_f (kBin_add (kD_i ⟨?_, meas⟩))))
      rw [ej]
      have hth := thL_th (tB j) a' fa i c' i fc
      have hT2 := hT.snoc hth
      have hT2 : Ths (vs ++ [.agg (thL (tB j) (.slice a' i c') (.slice fa i fc)).toArray]) (tagsL (k + 1)) := by rw [tagsL_succ, hkj] at *; exact hT2
      obtain ⟨bf, rfl⟩ := Ev.own_some (show V.ownsRow W.heap.size 92 3 (.slice fa i fc) i (fldsF ⟨#[]⟩ i) from hS.get 0 rfl) (by omega)
      rcases hM with ⟨h0, rfl⟩ | ⟨bf', fc', v, rfl, hv, hV⟩
      · have hvs : vs = [] := List.eq_nil_of_length_eq_zero (by rw [hT.len, tagsL_len, h0])
        refine ⟨j + 1, k + 1, _, ta', tc', _, _, rfl, hjl, by omega, hT2, .inr ⟨bf, fc, _, rfl, by rw [hvs]; rfl, by rw [show tB 0 = tB j by rw [← hkj, h0]]; exact hth⟩, (hS.mv 4).up (L1 := [_, _, _])⟩
      · refine ⟨j + 1, k + 1, _, ta', tc', _, _, rfl, hjl, by omega, hT2, .inr ⟨bf', fc', v, rfl, ?_, hV⟩, hS.tail.up (L1 := [_, _, _])⟩
        rw [List.getElem?_append_left (List.getElem?_eq_some_iff.1 hv).1]; exact hv
    · refine kCall_i (Tryz.call6 _ _) (num6 _ _ _ (kEq_int (kBin_geq (kNe_b4 ?_))))
      rw [show decide ((j : Int) ≥ 60) = true by simp; omega]
      refine kIf_f (kBin_lss ?_)
      rw [show decide ((j : Int) < 60) = false by simp; omega]
      refine kIf_f (kIf_f (kBin_add (kD_i ⟨?_, meas⟩)))
      rw [ej]
      exact ⟨j + 1, k, _, ta, tc, vs, M, rfl, hjl, by omega, hT, hM, hS.up (L1 := [_, _, _])⟩
  have hje : j = N := by omega
  subst hje
  -- the query
  have h1k : 1 ≤ k := by omega
  refine kBuild_i built72 (kBuildS_st (xE26 V) hS [.agg itemL.toArray] rfl rfl (by omega) (by omega) (fun v hv => by rw [List.mem_singleton.1 hv]; rfl) fun iv V hS => ?_)
  have hS := hS.front
  obtain ⟨ia, ic, rfl⟩ := own_slice (show V.ownsRow W.heap.size 72 11 iv 1 (flat [.agg itemL.toArray]) from hS.get 0 rfl)
  have ei : flat [Value.agg itemL.toArray] = itemL := by simp [flat, Value.cells]
  rw [ei] at hS
  refine kBuild_i (built28 _ _) (kBuild_i (built40 ia 1 ic _ _) (kAlloc_f Tryz.zeroValue40 hS fun b13 V hS => kStoreA_st hS 0 rfl rfl (queryL_one ia none 1 ic 0 0) Tryz.sizeOf40 fun V hS => ?_))
  have hS := (adopt_nil (e := 74) (sz := 10) hS).swap
  refine ⟨⟨fun cs V => ∃ (m : Nat) (ja : Option Addr) (jc : Nat), cs = [.int .i64 ((m + 1 : Nat) : Int)] ∧ m + 1 ≤ S ∧ (m = 0 → Value.slice ja m jc = .slice none 0 0) ∧
      St W (.bx b13 40 (queryL (.slice ia 1 ic) (.slice ja m jc)).toArray :: .row (.slice ja m jc) 74 10 m (joinsL m) :: .row (.slice ia 1 ic) 72 11 1 itemL :: .bx b9 61 (stmtL nm (.slice a i cp)).toArray :: DoL bs k i ta tc (flat vs) a cp M) V,
    fun cs _ => S - (match cs with | [.int _ i] => i.toNat | _ => 0), ⟨0, none, 0, rfl, by omega, fun _ => rfl, hS⟩, ?_⟩⟩
  rintro cs ds V ⟨m, ja, jc, rfl, hmS, hj0, hS⟩
  dsimp only [List.getD_cons_zero]
  refine kBin_lss (kIf_d (fun e => ?_) (fun e => ?_))
  · have hml : m + 1 < S := by omega
    refine kDrawn_i (kDrawn_i (xFa40_3 (kLd hS 0 rfl (by rfl) rfl (kBin_add ?_))))
    rw [wrap_id (by omega) (by omega)]
    refine kSl_abc (j := m + 1) (by omega) (kAdd_str (by show 1 + 1 ≤ 1000000; omega) ?_)
    rw [one_x]
    refine kBuild_i (built28 _ _) (kBuild_i built33 (kBuild_i built37 (kBuild_i (built74 _ _) (kDrew_st hS fun V hS => ?_))))
    refine kBuildS_st (xE29 V) hS [.agg (joinL (m + 1)).toArray] rfl rfl (by omega) (by omega) (fun v hv => by rw [List.mem_singleton.1 hv]; rfl) fun y V hS => ?_
    have hS := hS.front
    refine xFa40_3 (kSame_i (kLd hS 1 rfl (by rfl) rfl (kSame_i (kDrew_st hS fun V hS => ?_))))
    have e1 : flat [Value.agg (joinL (m + 1)).toArray] = joinL (m + 1) := by simp [flat, Value.cells]
    rw [e1] at hS
    refine kAppRow_st (xE29 V) hS 2 0 rfl rfl (joinL_one (m + 1)) (by simp only [maxLen]; omega) (by omega) fun x' V hS => ?_
    rw [← joinsL_succ] at hS
    obtain ⟨ja', jc', rfl⟩ := own_slice (show V.ownsRow W.heap.size 74 10 x' (m + 1) (joinsL (m + 1)) from hS.get 2 rfl)
    refine kDrew_st hS fun V hS => xFa40_3 (kSt hS 1 rfl (by exact Nat.le_of_ble_eq_true rfl) rfl rfl rfl fun V hS => ?_)
    refine kBin_add (kD_i ⟨⟨m + 1, ja', jc', ?_, hml, fun h0 => by omega, hS.tail⟩, ?_⟩)
    · rw [wrap_id (by omega) (by omega)]; rfl
    · rw [wrap_id (by omega) (by omega)]; show S - (((m + 1 : Nat) : Int) + 1).toNat < S - ((m + 1 : Nat) : Int).toNat; omega
  have hmS : m = S - 1 := by omega
  subst hmS
  -- it is asked
  refine xLdB40 hS 0 rfl rfl (kCall_i (Tryz.call8 _ _) (rest3 A (n := j) (c := i) (s := S) (by omega) (by omega) (by omega) (by omega) (by omega) (by omega) h1k (by omega) hT hM (fun h0 => hj0 (by omega)) hS _ fun V xs er hS hlen hone hres => kExt_0 (kExt_1 ?_)))
  have hsz : xs.toArray.size = 29 := by simpa using hlen
  have hone' : xs.toArray.all (·.oneCell') = true := by rw [List.all_toArray, List.all_eq_true]; exact hone
  have fin : ∀ (V : World), Below W.heap.size W V → kCall (cR Tryz.prog R) V 4 #[] (fun v W => R (.returned v) W) := fun V hV => kCall_i (Tryz.call4 _ _) (A.works V _ fun W' hB => h W' ⟨hB.os.trans hV.os, hB.tape.trans hV.tape, hB.output.trans hV.output, Nat.le_trans hV.size hB.size, fun k hk => by rw [hB.block k (Nat.lt_of_lt_of_le hk hV.size)]; exact hV.block k hk⟩)
  have hSC : S * i ≤ 1000 := by
    have : S * i ≤ 5 * 32 := Nat.mul_le_mul (by omega) (by omega)
    omega
  have hmul : ∀ {V : World} {K : Value → World → Prop}, K (.int .i64 ((S * i : Nat) : Int)) V → kBin (cR Tryz.prog R) V .mul 3 (.int .i64 (S : Int)) (.int .i64 (i : Int)) K := fun {V K} hK => kBin_mul (by
    rw [show (S : Int) * (i : Int) = ((S * i : Nat) : Int) by simp, wrap_sm (by omega)]; exact hK)
  refine kAlloc_f Tryz.zeroValue83 hS fun b15 V hS => kStoreA_st hS 0 rfl (by rw [hsz]; rfl) hone' (by rw [hsz]; exact Tryz.sizeOf83) fun V hS => ?_
  refine hmul (kBin_gtr (kIf_d (fun g => ?_) (fun g => ?_)))
  · rcases hres with ⟨g1, rfl, g3⟩ | ⟨g1, _⟩
    rotate_left
    · omega
    refine kCall_i (Tryz.call6 _ _) (num6 _ _ _ (kEq_int (kIf_t (xFa83_5 (kLd hS 0 rfl (by simpa using g3) rfl (xLen77 (n := 0) (kEq_int (kIf_eq (fun _ => fin V hS.below) (fun ne => absurd rfl ne)))))))))
  · rcases hres with ⟨g1, _⟩ | ⟨g1, rfl, ⟨a1, c1, g3⟩, ⟨a2, c2, g4⟩⟩
    · omega
    refine kCall_i (Tryz.call6 _ _) (num6 _ _ _ (kEq_int (kIf_t (xFa83_5 (kLd hS 0 rfl (by simpa using g3) rfl (xLen77 (hmul (kEq_int (kIf_eq (fun _ => ?_) (fun ne => absurd rfl ne))))))))))
    refine xFa83_1 (kLd hS 0 rfl (by simpa using g4) rfl (xLen76 (hmul (kEq_int (kIf_eq (fun _ => fin V hS.below) (fun ne => absurd rfl ne))))))
end Go.L
