/- The law answers true for all numbers: no condition. -/
import Derived.Test.YtnmefofmegfliaaGreatDoorT3
import Derived.Test.YtnmefofmegfliaaGreatDoorS1
import Derived.Test.YtnmefofmegfliaaGreatDoorS2
import Derived.Test.YtnmefofmegfliaaGreatDoorW1
import Derived.Test.YtnmefofmegfliaaGreatDoorB2
import Derived.Test.YtnmefofmegfliaaGreatDoorB3
import Derived.Test.YtnmefofmegfliaaGreatDoorB1
import Derived.Test.YtnmefofmegfliaaGreatDoorP1
import Derived.Test.YtnmefofmegfliaaGreatDoorP2
import Derived.Test.YtnmefofmegfliaaGreatDoorP3
import Derived.Test.YtnmefofmegfliaaGreatDoorP4
import Derived.Test.YtnmefofmegfliaaGreatDoorP5
set_option linter.unusedVariables false
set_option linter.unusedSimpArgs false
set_option linter.unusedSectionVars false
set_option maxRecDepth 100000
namespace Go.L.Ev
open Go Go.RowKit Go.Proofs
theorem w0_ok [Ext] : OvS Tryz.prog w0 := ov0_ok
theorem s0_ok [Ext] : SnapOK Tryz.prog s0 := snapOK (run_ok pg w0_ok 1000) s0_fits s0_check
theorem w1_ok [Ext] : OvS Tryz.prog w1 := (ov0_ok).snaps (.cons (s := s0) rfl s0_ok (.nil))
theorem s1_ok [Ext] : SnapOK Tryz.prog s1 := snapOK (run_ok pg w1_ok 1000) s1_fits s1_check
theorem w2_ok [Ext] : OvS Tryz.prog w2 := (ov0_ok).snaps (.cons (s := s1) rfl s1_ok (.nil))
theorem s2_ok [Ext] : SnapOK Tryz.prog s2 := snapOK (run_ok pg w2_ok 1000) s2_fits s2_check
theorem w3_ok [Ext] : OvS Tryz.prog w3 := (ov0_ok).snaps (.cons (s := s0) rfl s0_ok (.cons (s := s2) rfl s2_ok (.nil)))
theorem s3_ok [Ext] : SnapOK Tryz.prog s3 := snapOK (run_ok pg w3_ok 1000) s3_fits s3_check
theorem w4_ok [Ext] : OvS Tryz.prog w4 := ((ov0_ok).snaps (.cons (s := s1) rfl s1_ok (.cons (s := s3) rfl s3_ok (.nil)))).snaps (.cons (s := s0) rfl s0_ok (.cons (s := s2) rfl s2_ok (.nil)))
theorem s4_ok [Ext] : SnapOK Tryz.prog s4 := snapOK (run_ok pg w4_ok 1000) s4_fits s4_check
theorem w5_ok [Ext] : OvS Tryz.prog w5 := ((ov0_ok).snaps (.cons (s := s4) rfl s4_ok (.nil))).snaps (.cons (s := s1) rfl s1_ok (.cons (s := s3) rfl s3_ok (.nil)))
theorem s5_ok [Ext] : SnapOK Tryz.prog s5 := snapOK (run_ok pg w5_ok 1000) s5_fits s5_check
theorem w6_ok [Ext] : OvS Tryz.prog w6 := ((ov0_ok).snaps (.cons (s := s4) rfl s4_ok (.nil))).snaps (.cons (s := s0) rfl s0_ok (.cons (s := s2) rfl s2_ok (.cons (s := s5) rfl s5_ok (.nil))))
theorem s6_ok [Ext] : SnapOK Tryz.prog s6 := snapOK (run_ok pg w6_ok 1000) s6_fits s6_check
theorem w7_ok [Ext] : OvS Tryz.prog w7 := ((ov0_ok).snaps (.cons (s := s4) rfl s4_ok (.nil))).snaps (.cons (s := s1) rfl s1_ok (.cons (s := s3) rfl s3_ok (.cons (s := s6) rfl s6_ok (.nil))))
theorem s7_ok [Ext] : SnapOK Tryz.prog s7 := snapOK (run_ok pg w7_ok 1000) s7_fits s7_check
theorem w8_ok [Ext] : OvS Tryz.prog w8 := ((ov0_ok).snaps (.cons (s := s4) rfl s4_ok (.nil))).snaps (.cons (s := s0) rfl s0_ok (.cons (s := s2) rfl s2_ok (.cons (s := s5) rfl s5_ok (.cons (s := s7) rfl s7_ok (.nil)))))
theorem s8_ok [Ext] : SnapOK Tryz.prog s8 := snapOK (run_ok pg w8_ok 1000) s8_fits s8_check
theorem w9_ok [Ext] : OvS Tryz.prog w9 := ((ov0_ok).snaps (.cons (s := s4) rfl s4_ok (.nil))).snaps (.cons (s := s1) rfl s1_ok (.cons (s := s3) rfl s3_ok (.cons (s := s6) rfl s6_ok (.cons (s := s8) rfl s8_ok (.nil)))))
theorem s9_ok [Ext] : SnapOK Tryz.prog s9 := snapOK (run_ok pg w9_ok 1000) s9_fits s9_check
theorem w10_ok [Ext] : OvS Tryz.prog w10 := ((ov0_ok).snaps (.cons (s := s4) rfl s4_ok (.nil))).snaps (.cons (s := s0) rfl s0_ok (.cons (s := s2) rfl s2_ok (.cons (s := s5) rfl s5_ok (.cons (s := s7) rfl s7_ok (.cons (s := s9) rfl s9_ok (.nil))))))
theorem s10_ok [Ext] : SnapOK Tryz.prog s10 := snapOK (run_ok pg w10_ok 1000) s10_fits s10_check
theorem w11_ok [Ext] : OvS Tryz.prog w11 := ((ov0_ok).snaps (.cons (s := s4) rfl s4_ok (.nil))).snaps (.cons (s := s1) rfl s1_ok (.cons (s := s3) rfl s3_ok (.cons (s := s6) rfl s6_ok (.cons (s := s8) rfl s8_ok (.cons (s := s10) rfl s10_ok (.nil))))))
theorem s11_ok [Ext] : SnapOK Tryz.prog s11 := snapOK (run_ok pg w11_ok 1000) s11_fits s11_check
theorem w12_ok [Ext] : OvS Tryz.prog w12 := ((ov0_ok).snaps (.cons (s := s4) rfl s4_ok (.nil))).snaps (.cons (s := s0) rfl s0_ok (.cons (s := s2) rfl s2_ok (.cons (s := s5) rfl s5_ok (.cons (s := s7) rfl s7_ok (.cons (s := s9) rfl s9_ok (.cons (s := s11) rfl s11_ok (.nil)))))))
theorem s12_ok [Ext] : SnapOK Tryz.prog s12 := snapOK (run_ok pg w12_ok 1000) s12_fits s12_check
theorem wM_ok [Ext] : OvS Tryz.prog wM := (((ov0_ok).snaps (.cons (s := s4) rfl s4_ok (.nil))).snaps (.cons (s := s1) rfl s1_ok (.cons (s := s3) rfl s3_ok (.cons (s := s6) rfl s6_ok (.cons (s := s8) rfl s8_ok (.cons (s := s10) rfl s10_ok (.cons (s := s12) rfl s12_ok (.nil)))))))).snaps (.cons (s := s0) rfl s0_ok (.cons (s := s2) rfl s2_ok (.cons (s := s5) rfl s5_ok (.cons (s := s7) rfl s7_ok (.cons (s := s9) rfl s9_ok (.cons (s := s11) rfl s11_ok (.nil)))))))
theorem main_trueX [Ext] (W : World) (hx : Ext.ok W fun _ => True) : Calls Tryz.prog 4 #[] W fun e W' => e = .returned (.bool true) ∧ W'.os = W.os ∧ W'.tape = W.tape ∧ W'.output = W.output ∧ W.heap.size ≤ W'.heap.size ∧ ∀ b, b < W.heap.size → W'.heap[b]? = W.heap[b]? := true_of (run_ok pg wM_ok 1000) (f := 4) main_eval W hx
theorem main_true (W : World) : Calls Tryz.prog 4 #[] W fun e W' => e = .returned (.bool true) ∧ W'.os = W.os ∧ W'.tape = W.tape ∧ W'.output = W.output ∧ W.heap.size ≤ W'.heap.size ∧ ∀ b, b < W.heap.size → W'.heap[b]? = W.heap[b]? := @main_trueX ext0 W trivial
end Go.L.Ev
set_option maxRecDepth 100000
namespace Go.L
open Go Go.RowKit Go.Proofs
set_option linter.unusedVariables false
theorem pcAll (c : Nat) (h1 : 1 ≤ c) (h2 : c ≤ 32) : Pieces c := by
  have hc : c = 1 ∨ c = 2 ∨ c = 3 ∨ c = 4 ∨ c = 5 ∨ c = 6 ∨ c = 7 ∨ c = 8 ∨ c = 9 ∨ c = 10 ∨ c = 11 ∨ c = 12 ∨ c = 13 ∨ c = 14 ∨ c = 15 ∨ c = 16 ∨ c = 17 ∨ c = 18 ∨ c = 19 ∨ c = 20 ∨ c = 21 ∨ c = 22 ∨ c = 23 ∨ c = 24 ∨ c = 25 ∨ c = 26 ∨ c = 27 ∨ c = 28 ∨ c = 29 ∨ c = 30 ∨ c = 31 ∨ c = 32 := by omega
  rcases hc with rfl | rfl | rfl | rfl | rfl | rfl | rfl | rfl | rfl | rfl | rfl | rfl | rfl | rfl | rfl | rfl | rfl | rfl | rfl | rfl | rfl | rfl | rfl | rfl | rfl | rfl | rfl | rfl | rfl | rfl | rfl | rfl
  · exact Ev.pieces_of 1 h1 h2 Ev.chk1 Ev.clo1 Ev.new1
  · exact Ev.pieces_of 2 h1 h2 Ev.chk2 Ev.clo2 Ev.new2
  · exact Ev.pieces_of 3 h1 h2 Ev.chk3 Ev.clo3 Ev.new3
  · exact Ev.pieces_of 4 h1 h2 Ev.chk4 Ev.clo4 Ev.new4
  · exact Ev.pieces_of 5 h1 h2 Ev.chk5 Ev.clo5 Ev.new5
  · exact Ev.pieces_of 6 h1 h2 Ev.chk6 Ev.clo6 Ev.new6
  · exact Ev.pieces_of 7 h1 h2 Ev.chk7 Ev.clo7 Ev.new7
  · exact Ev.pieces_of 8 h1 h2 Ev.chk8 Ev.clo8 Ev.new8
  · exact Ev.pieces_of 9 h1 h2 Ev.chk9 Ev.clo9 Ev.new9
  · exact Ev.pieces_of 10 h1 h2 Ev.chk10 Ev.clo10 Ev.new10
  · exact Ev.pieces_of 11 h1 h2 Ev.chk11 Ev.clo11 Ev.new11
  · exact Ev.pieces_of 12 h1 h2 Ev.chk12 Ev.clo12 Ev.new12
  · exact Ev.pieces_of 13 h1 h2 Ev.chk13 Ev.clo13 Ev.new13
  · exact Ev.pieces_of 14 h1 h2 Ev.chk14 Ev.clo14 Ev.new14
  · exact Ev.pieces_of 15 h1 h2 Ev.chk15 Ev.clo15 Ev.new15
  · exact Ev.pieces_of 16 h1 h2 Ev.chk16 Ev.clo16 Ev.new16
  · exact Ev.pieces_of 17 h1 h2 Ev.chk17 Ev.clo17 Ev.new17
  · exact Ev.pieces_of 18 h1 h2 Ev.chk18 Ev.clo18 Ev.new18
  · exact Ev.pieces_of 19 h1 h2 Ev.chk19 Ev.clo19 Ev.new19
  · exact Ev.pieces_of 20 h1 h2 Ev.chk20 Ev.clo20 Ev.new20
  · exact Ev.pieces_of 21 h1 h2 Ev.chk21 Ev.clo21 Ev.new21
  · exact Ev.pieces_of 22 h1 h2 Ev.chk22 Ev.clo22 Ev.new22
  · exact Ev.pieces_of 23 h1 h2 Ev.chk23 Ev.clo23 Ev.new23
  · exact Ev.pieces_of 24 h1 h2 Ev.chk24 Ev.clo24 Ev.new24
  · exact Ev.pieces_of 25 h1 h2 Ev.chk25 Ev.clo25 Ev.new25
  · exact Ev.pieces_of 26 h1 h2 Ev.chk26 Ev.clo26 Ev.new26
  · exact Ev.pieces_of 27 h1 h2 Ev.chk27 Ev.clo27 Ev.new27
  · exact Ev.pieces_of 28 h1 h2 Ev.chk28 Ev.clo28 Ev.new28
  · exact Ev.pieces_of 29 h1 h2 Ev.chk29 Ev.clo29 Ev.new29
  · exact Ev.pieces_of 30 h1 h2 Ev.chk30 Ev.clo30 Ev.new30
  · exact Ev.pieces_of 31 h1 h2 Ev.chk31 Ev.clo31 Ev.new31
  · exact Ev.pieces_of 32 h1 h2 Ev.chk32 Ev.clo32 Ev.new32
theorem askAll0 (c : Nat) (h1 : 1 ≤ c) (h2 : c ≤ 32) : Ev.askP 0 c = true := by
  have hc : c = 1 ∨ c = 2 ∨ c = 3 ∨ c = 4 ∨ c = 5 ∨ c = 6 ∨ c = 7 ∨ c = 8 ∨ c = 9 ∨ c = 10 ∨ c = 11 ∨ c = 12 ∨ c = 13 ∨ c = 14 ∨ c = 15 ∨ c = 16 ∨ c = 17 ∨ c = 18 ∨ c = 19 ∨ c = 20 ∨ c = 21 ∨ c = 22 ∨ c = 23 ∨ c = 24 ∨ c = 25 ∨ c = 26 ∨ c = 27 ∨ c = 28 ∨ c = 29 ∨ c = 30 ∨ c = 31 ∨ c = 32 := by omega
  rcases hc with rfl | rfl | rfl | rfl | rfl | rfl | rfl | rfl | rfl | rfl | rfl | rfl | rfl | rfl | rfl | rfl | rfl | rfl | rfl | rfl | rfl | rfl | rfl | rfl | rfl | rfl | rfl | rfl | rfl | rfl | rfl | rfl
  · exact Ev.ask0_1
  · exact Ev.ask0_2
  · exact Ev.ask0_3
  · exact Ev.ask0_4
  · exact Ev.ask0_5
  · exact Ev.ask0_6
  · exact Ev.ask0_7
  · exact Ev.ask0_8
  · exact Ev.ask0_9
  · exact Ev.ask0_10
  · exact Ev.ask0_11
  · exact Ev.ask0_12
  · exact Ev.ask0_13
  · exact Ev.ask0_14
  · exact Ev.ask0_15
  · exact Ev.ask0_16
  · exact Ev.ask0_17
  · exact Ev.ask0_18
  · exact Ev.ask0_19
  · exact Ev.ask0_20
  · exact Ev.ask0_21
  · exact Ev.ask0_22
  · exact Ev.ask0_23
  · exact Ev.ask0_24
  · exact Ev.ask0_25
  · exact Ev.ask0_26
  · exact Ev.ask0_27
  · exact Ev.ask0_28
  · exact Ev.ask0_29
  · exact Ev.ask0_30
  · exact Ev.ask0_31
  · exact Ev.ask0_32
theorem askAll1 (c : Nat) (h1 : 1 ≤ c) (h2 : c ≤ 32) : Ev.askP 1 c = true := by
  have hc : c = 1 ∨ c = 2 ∨ c = 3 ∨ c = 4 ∨ c = 5 ∨ c = 6 ∨ c = 7 ∨ c = 8 ∨ c = 9 ∨ c = 10 ∨ c = 11 ∨ c = 12 ∨ c = 13 ∨ c = 14 ∨ c = 15 ∨ c = 16 ∨ c = 17 ∨ c = 18 ∨ c = 19 ∨ c = 20 ∨ c = 21 ∨ c = 22 ∨ c = 23 ∨ c = 24 ∨ c = 25 ∨ c = 26 ∨ c = 27 ∨ c = 28 ∨ c = 29 ∨ c = 30 ∨ c = 31 ∨ c = 32 := by omega
  rcases hc with rfl | rfl | rfl | rfl | rfl | rfl | rfl | rfl | rfl | rfl | rfl | rfl | rfl | rfl | rfl | rfl | rfl | rfl | rfl | rfl | rfl | rfl | rfl | rfl | rfl | rfl | rfl | rfl | rfl | rfl | rfl | rfl
  · exact Ev.ask1_1
  · exact Ev.ask1_2
  · exact Ev.ask1_3
  · exact Ev.ask1_4
  · exact Ev.ask1_5
  · exact Ev.ask1_6
  · exact Ev.ask1_7
  · exact Ev.ask1_8
  · exact Ev.ask1_9
  · exact Ev.ask1_10
  · exact Ev.ask1_11
  · exact Ev.ask1_12
  · exact Ev.ask1_13
  · exact Ev.ask1_14
  · exact Ev.ask1_15
  · exact Ev.ask1_16
  · exact Ev.ask1_17
  · exact Ev.ask1_18
  · exact Ev.ask1_19
  · exact Ev.ask1_20
  · exact Ev.ask1_21
  · exact Ev.ask1_22
  · exact Ev.ask1_23
  · exact Ev.ask1_24
  · exact Ev.ask1_25
  · exact Ev.ask1_26
  · exact Ev.ask1_27
  · exact Ev.ask1_28
  · exact Ev.ask1_29
  · exact Ev.ask1_30
  · exact Ev.ask1_31
  · exact Ev.ask1_32
theorem askAll2 (c : Nat) (h1 : 1 ≤ c) (h2 : c ≤ 32) : Ev.askP 2 c = true := by
  have hc : c = 1 ∨ c = 2 ∨ c = 3 ∨ c = 4 ∨ c = 5 ∨ c = 6 ∨ c = 7 ∨ c = 8 ∨ c = 9 ∨ c = 10 ∨ c = 11 ∨ c = 12 ∨ c = 13 ∨ c = 14 ∨ c = 15 ∨ c = 16 ∨ c = 17 ∨ c = 18 ∨ c = 19 ∨ c = 20 ∨ c = 21 ∨ c = 22 ∨ c = 23 ∨ c = 24 ∨ c = 25 ∨ c = 26 ∨ c = 27 ∨ c = 28 ∨ c = 29 ∨ c = 30 ∨ c = 31 ∨ c = 32 := by omega
  rcases hc with rfl | rfl | rfl | rfl | rfl | rfl | rfl | rfl | rfl | rfl | rfl | rfl | rfl | rfl | rfl | rfl | rfl | rfl | rfl | rfl | rfl | rfl | rfl | rfl | rfl | rfl | rfl | rfl | rfl | rfl | rfl | rfl
  · exact Ev.ask2_1
  · exact Ev.ask2_2
  · exact Ev.ask2_3
  · exact Ev.ask2_4
  · exact Ev.ask2_5
  · exact Ev.ask2_6
  · exact Ev.ask2_7
  · exact Ev.ask2_8
  · exact Ev.ask2_9
  · exact Ev.ask2_10
  · exact Ev.ask2_11
  · exact Ev.ask2_12
  · exact Ev.ask2_13
  · exact Ev.ask2_14
  · exact Ev.ask2_15
  · exact Ev.ask2_16
  · exact Ev.ask2_17
  · exact Ev.ask2_18
  · exact Ev.ask2_19
  · exact Ev.ask2_20
  · exact Ev.ask2_21
  · exact Ev.ask2_22
  · exact Ev.ask2_23
  · exact Ev.ask2_24
  · exact Ev.ask2_25
  · exact Ev.ask2_26
  · exact Ev.ask2_27
  · exact Ev.ask2_28
  · exact Ev.ask2_29
  · exact Ev.ask2_30
  · exact Ev.ask2_31
  · exact Ev.ask2_32
theorem askAll3 (c : Nat) (h1 : 1 ≤ c) (h2 : c ≤ 32) : Ev.askP 3 c = true := by
  have hc : c = 1 ∨ c = 2 ∨ c = 3 ∨ c = 4 ∨ c = 5 ∨ c = 6 ∨ c = 7 ∨ c = 8 ∨ c = 9 ∨ c = 10 ∨ c = 11 ∨ c = 12 ∨ c = 13 ∨ c = 14 ∨ c = 15 ∨ c = 16 ∨ c = 17 ∨ c = 18 ∨ c = 19 ∨ c = 20 ∨ c = 21 ∨ c = 22 ∨ c = 23 ∨ c = 24 ∨ c = 25 ∨ c = 26 ∨ c = 27 ∨ c = 28 ∨ c = 29 ∨ c = 30 ∨ c = 31 ∨ c = 32 := by omega
  rcases hc with rfl | rfl | rfl | rfl | rfl | rfl | rfl | rfl | rfl | rfl | rfl | rfl | rfl | rfl | rfl | rfl | rfl | rfl | rfl | rfl | rfl | rfl | rfl | rfl | rfl | rfl | rfl | rfl | rfl | rfl | rfl | rfl
  · exact Ev.ask3_1
  · exact Ev.ask3_2
  · exact Ev.ask3_3
  · exact Ev.ask3_4
  · exact Ev.ask3_5
  · exact Ev.ask3_6
  · exact Ev.ask3_7
  · exact Ev.ask3_8
  · exact Ev.ask3_9
  · exact Ev.ask3_10
  · exact Ev.ask3_11
  · exact Ev.ask3_12
  · exact Ev.ask3_13
  · exact Ev.ask3_14
  · exact Ev.ask3_15
  · exact Ev.ask3_16
  · exact Ev.ask3_17
  · exact Ev.ask3_18
  · exact Ev.ask3_19
  · exact Ev.ask3_20
  · exact Ev.ask3_21
  · exact Ev.ask3_22
  · exact Ev.ask3_23
  · exact Ev.ask3_24
  · exact Ev.ask3_25
  · exact Ev.ask3_26
  · exact Ev.ask3_27
  · exact Ev.ask3_28
  · exact Ev.ask3_29
  · exact Ev.ask3_30
  · exact Ev.ask3_31
  · exact Ev.ask3_32
theorem askAll4 (c : Nat) (h1 : 1 ≤ c) (h2 : c ≤ 32) : Ev.askP 4 c = true := by
  have hc : c = 1 ∨ c = 2 ∨ c = 3 ∨ c = 4 ∨ c = 5 ∨ c = 6 ∨ c = 7 ∨ c = 8 ∨ c = 9 ∨ c = 10 ∨ c = 11 ∨ c = 12 ∨ c = 13 ∨ c = 14 ∨ c = 15 ∨ c = 16 ∨ c = 17 ∨ c = 18 ∨ c = 19 ∨ c = 20 ∨ c = 21 ∨ c = 22 ∨ c = 23 ∨ c = 24 ∨ c = 25 ∨ c = 26 ∨ c = 27 ∨ c = 28 ∨ c = 29 ∨ c = 30 ∨ c = 31 ∨ c = 32 := by omega
  rcases hc with rfl | rfl | rfl | rfl | rfl | rfl | rfl | rfl | rfl | rfl | rfl | rfl | rfl | rfl | rfl | rfl | rfl | rfl | rfl | rfl | rfl | rfl | rfl | rfl | rfl | rfl | rfl | rfl | rfl | rfl | rfl | rfl
  · exact Ev.ask4_1
  · exact Ev.ask4_2
  · exact Ev.ask4_3
  · exact Ev.ask4_4
  · exact Ev.ask4_5
  · exact Ev.ask4_6
  · exact Ev.ask4_7
  · exact Ev.ask4_8
  · exact Ev.ask4_9
  · exact Ev.ask4_10
  · exact Ev.ask4_11
  · exact Ev.ask4_12
  · exact Ev.ask4_13
  · exact Ev.ask4_14
  · exact Ev.ask4_15
  · exact Ev.ask4_16
  · exact Ev.ask4_17
  · exact Ev.ask4_18
  · exact Ev.ask4_19
  · exact Ev.ask4_20
  · exact Ev.ask4_21
  · exact Ev.ask4_22
  · exact Ev.ask4_23
  · exact Ev.ask4_24
  · exact Ev.ask4_25
  · exact Ev.ask4_26
  · exact Ev.ask4_27
  · exact Ev.ask4_28
  · exact Ev.ask4_29
  · exact Ev.ask4_30
  · exact Ev.ask4_31
  · exact Ev.ask4_32
theorem allP : AllP where
  pc := pcAll
  ask := fun m c hm h1 h2 => by
    have h : m = 0 ∨ m = 1 ∨ m = 2 ∨ m = 3 ∨ m = 4 := by omega
    rcases h with rfl | rfl | rfl | rfl | rfl
    · exact askAll0 c h1 h2
    · exact askAll1 c h1 h2
    · exact askAll2 c h1 h2
    · exact askAll3 c h1 h2
    · exact askAll4 c h1 h2
  fits := fun m hm => by
    have h : m = 0 ∨ m = 1 ∨ m = 2 ∨ m = 3 ∨ m = 4 := by omega
    rcases h with rfl | rfl | rfl | rfl | rfl
    · exact Ev.qS0_fits
    · exact Ev.qS1_fits
    · exact Ev.qS2_fits
    · exact Ev.qS3_fits
    · exact Ev.qS4_fits
  check := fun m hm => by
    have h : m = 0 ∨ m = 1 ∨ m = 2 ∨ m = 3 ∨ m = 4 := by omega
    rcases h with rfl | rfl | rfl | rfl | rfl
    · exact Ev.qS0_check
    · exact Ev.qS1_check
    · exact Ev.qS2_check
    · exact Ev.qS3_check
    · exact Ev.qS4_check
  works := fun w R h => (Ev.main_true w).mono fun e W' he => by
    obtain ⟨rfl, h1, h2, h3, h4, h5⟩ := he
    exact h W' ⟨h1, h2, h3, h4, h5⟩
theorem open_int {w : World} {r : Reach} {b : Nat} {v : Value} (h : Value.okWide Tryz.prog w r b 3 v) : ∃ n, v = .int .i64 n := by
  unfold Value.okWide at h
  rw [Tryz.underlying3] at h
  unfold Cell.okWide Cell.ok at h
  rw [Tryz.underlying3] at h
  cases v <;> simp at h
  exact ⟨_, by rw [h.1]⟩
theorem law_calls {W : World} {base : Nat} {v0 v1 v2 : Value} (h0 : Value.okWide Tryz.prog W .any base 3 v0) (h1 : Value.okWide Tryz.prog W .any base 3 v1) (h2 : Value.okWide Tryz.prog W .any base 3 v2) :
    Calls Tryz.prog 3 #[v0, v1, v2] W fun e W' => e = .returned (.bool true) ∧ Below W.heap.size W W' := by
  obtain ⟨n, rfl⟩ := open_int h0
  obtain ⟨c, rfl⟩ := open_int h1
  obtain ⟨s, rfl⟩ := open_int h2
  exact bounds3 allP n c s W _ fun W' hB => ⟨rfl, hB⟩
end Go.L
