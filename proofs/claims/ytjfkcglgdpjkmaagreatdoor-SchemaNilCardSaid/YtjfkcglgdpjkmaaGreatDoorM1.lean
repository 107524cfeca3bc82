/- The chapter's rows hold; the law answers true: no condition. -/
import Derived.Test.YtjfkcglgdpjkmaaGreatDoorT2
import Derived.Test.YtjfkcglgdpjkmaaGreatDoorT3
import Derived.Test.YtjfkcglgdpjkmaaGreatDoorS1
import Derived.Test.YtjfkcglgdpjkmaaGreatDoorS2
import Derived.Test.YtjfkcglgdpjkmaaGreatDoorS3
import Derived.Test.YtjfkcglgdpjkmaaGreatDoorS4
import Derived.Test.YtjfkcglgdpjkmaaGreatDoorS5
import Derived.Test.YtjfkcglgdpjkmaaGreatDoorS6
import Derived.Test.YtjfkcglgdpjkmaaGreatDoorS7
import Derived.Test.YtjfkcglgdpjkmaaGreatDoorS8
set_option linter.unusedVariables false
set_option linter.unusedSimpArgs false
set_option maxRecDepth 100000
namespace Go.L.Ev
open Go Go.RowKit Go.Proofs
theorem w0_ok : OvS Tryz.prog w0 := ov0_ok
theorem s0_ok : SnapOK Tryz.prog s0 := snapOK (run_ok pg w0_ok 1000) s0_fits s0_check
theorem w1_ok : OvS Tryz.prog w1 := (ov0_ok).snaps (.cons (s := s0) rfl s0_ok (.nil))
theorem s1_ok : SnapOK Tryz.prog s1 := snapOK (run_ok pg w1_ok 1000) s1_fits s1_check
theorem w2_ok : OvS Tryz.prog w2 := (ov0_ok).snaps (.cons (s := s1) rfl s1_ok (.nil))
theorem s2_ok : SnapOK Tryz.prog s2 := snapOK (run_ok pg w2_ok 1000) s2_fits s2_check
theorem w3_ok : OvS Tryz.prog w3 := (ov0_ok).snaps (.cons (s := s0) rfl s0_ok (.cons (s := s2) rfl s2_ok (.nil)))
theorem s3_ok : SnapOK Tryz.prog s3 := snapOK (run_ok pg w3_ok 1000) s3_fits s3_check
theorem w4_ok : OvS Tryz.prog w4 := ((ov0_ok).snaps (.cons (s := s1) rfl s1_ok (.cons (s := s3) rfl s3_ok (.nil)))).snaps (.cons (s := s0) rfl s0_ok (.cons (s := s2) rfl s2_ok (.nil)))
theorem s4_ok : SnapOK Tryz.prog s4 := snapOK (run_ok pg w4_ok 1000) s4_fits s4_check
theorem w5_ok : OvS Tryz.prog w5 := ((ov0_ok).snaps (.cons (s := s4) rfl s4_ok (.nil))).snaps (.cons (s := s1) rfl s1_ok (.cons (s := s3) rfl s3_ok (.nil)))
theorem s5_ok : SnapOK Tryz.prog s5 := snapOK (run_ok pg w5_ok 1000) s5_fits s5_check
theorem w6_ok : OvS Tryz.prog w6 := ((ov0_ok).snaps (.cons (s := s4) rfl s4_ok (.nil))).snaps (.cons (s := s0) rfl s0_ok (.cons (s := s2) rfl s2_ok (.cons (s := s5) rfl s5_ok (.nil))))
theorem s6_ok : SnapOK Tryz.prog s6 := snapOK (run_ok pg w6_ok 1000) s6_fits s6_check
theorem w7_ok : OvS Tryz.prog w7 := ((ov0_ok).snaps (.cons (s := s4) rfl s4_ok (.nil))).snaps (.cons (s := s1) rfl s1_ok (.cons (s := s3) rfl s3_ok (.cons (s := s6) rfl s6_ok (.nil))))
theorem s7_ok : SnapOK Tryz.prog s7 := snapOK (run_ok pg w7_ok 1000) s7_fits s7_check
theorem w8_ok : OvS Tryz.prog w8 := ((ov0_ok).snaps (.cons (s := s4) rfl s4_ok (.nil))).snaps (.cons (s := s0) rfl s0_ok (.cons (s := s2) rfl s2_ok (.cons (s := s5) rfl s5_ok (.cons (s := s7) rfl s7_ok (.nil)))))
theorem s8_ok : SnapOK Tryz.prog s8 := snapOK (run_ok pg w8_ok 1000) s8_fits s8_check
theorem w9_ok : OvS Tryz.prog w9 := ((ov0_ok).snaps (.cons (s := s4) rfl s4_ok (.nil))).snaps (.cons (s := s1) rfl s1_ok (.cons (s := s3) rfl s3_ok (.cons (s := s6) rfl s6_ok (.cons (s := s8) rfl s8_ok (.nil)))))
theorem s9_ok : SnapOK Tryz.prog s9 := snapOK (run_ok pg w9_ok 1000) s9_fits s9_check
theorem w10_ok : OvS Tryz.prog w10 := ((ov0_ok).snaps (.cons (s := s4) rfl s4_ok (.nil))).snaps (.cons (s := s0) rfl s0_ok (.cons (s := s2) rfl s2_ok (.cons (s := s5) rfl s5_ok (.cons (s := s7) rfl s7_ok (.cons (s := s9) rfl s9_ok (.nil))))))
theorem s10_ok : SnapOK Tryz.prog s10 := snapOK (run_ok pg w10_ok 1000) s10_fits s10_check
theorem w11_ok : OvS Tryz.prog w11 := ((ov0_ok).snaps (.cons (s := s4) rfl s4_ok (.nil))).snaps (.cons (s := s1) rfl s1_ok (.cons (s := s3) rfl s3_ok (.cons (s := s6) rfl s6_ok (.cons (s := s8) rfl s8_ok (.cons (s := s10) rfl s10_ok (.nil))))))
theorem s11_ok : SnapOK Tryz.prog s11 := snapOK (run_ok pg w11_ok 1000) s11_fits s11_check
theorem w12_ok : OvS Tryz.prog w12 := ((ov0_ok).snaps (.cons (s := s4) rfl s4_ok (.nil))).snaps (.cons (s := s0) rfl s0_ok (.cons (s := s2) rfl s2_ok (.cons (s := s5) rfl s5_ok (.cons (s := s7) rfl s7_ok (.cons (s := s9) rfl s9_ok (.cons (s := s11) rfl s11_ok (.nil)))))))
theorem s12_ok : SnapOK Tryz.prog s12 := snapOK (run_ok pg w12_ok 1000) s12_fits s12_check
theorem wM_ok : OvS Tryz.prog wM := (((ov0_ok).snaps (.cons (s := s4) rfl s4_ok (.nil))).snaps (.cons (s := s1) rfl s1_ok (.cons (s := s3) rfl s3_ok (.cons (s := s6) rfl s6_ok (.cons (s := s8) rfl s8_ok (.cons (s := s10) rfl s10_ok (.cons (s := s12) rfl s12_ok (.nil)))))))).snaps (.cons (s := s0) rfl s0_ok (.cons (s := s2) rfl s2_ok (.cons (s := s5) rfl s5_ok (.cons (s := s7) rfl s7_ok (.cons (s := s9) rfl s9_ok (.cons (s := s11) rfl s11_ok (.nil)))))))
theorem main_true (W : World) : Calls Tryz.prog 17 #[] W fun e W' => e = .returned (.bool true) ∧ W'.os = W.os ∧ W'.tape = W.tape ∧ W'.output = W.output ∧ W.heap.size ≤ W'.heap.size ∧ ∀ b, b < W.heap.size → W'.heap[b]? = W.heap[b]? := true_of (run_ok pg wM_ok 1000) (f := 17) main_eval W
end Go.L.Ev
namespace Go.L.Ev
open Go Go.RowKit Go.Proofs
noncomputable def ovL : OvT := (17, .orc orcT) :: ov0
theorem ovL_ok : OvS Tryz.prog ovL := ov0_ok.orc1 (orcT_ok Tryz.call17 fun W => main_true W)
set_option maxRecDepth 100000 in
theorem law_eval (g : Nat → RV) : run ty0 fu0 ovL 1000 false 3 (mkA g [some 171, none] 0) (Hp.pad .lf 172) (fun r _ => rvEq r (.bool true)) (fun _ _ => false) = true := by kernel_rfl
set_option maxRecDepth 100000 in
theorem law_calls {W : World} {base : Nat} {v0 : Value} (h0 : Value.okWide Tryz.prog W .any base 58 v0) {v1 : Value} (h1 : Value.okWide Tryz.prog W .any base 9 v1) : Calls Tryz.prog 3 #[v0, v1] W fun e W' => e = .returned (.bool true) ∧ Below W.heap.size W W' := by
  obtain ⟨cs0, rfl, hc0, hl0⟩ := open_agg (t := 58) (by kernel_rfl) (by kernel_rfl) h0
  have hc0 : cs0.length = 171 := hc0.trans (by kernel_rfl)
  have hl1 := open_leaf (t := 9) (by kernel_rfl) h1
  have ha : ArgsV [some cs0.length, none] (cs0 ++ (v1 :: [])) [.agg cs0.toArray, v1] := (ArgsV.agg cs0 (ArgsV.leaf v1 ArgsV.nil))
  rw [hc0] at ha
  refine law_true (run_ok pg ovL_ok 1000) law_eval ha (by simp only [List.length_append, List.length_cons, List.length_nil, hc0]) ?_ W
  intro v hv
  simp only [List.mem_append, List.mem_cons, List.not_mem_nil, or_false] at hv
  rcases hv with hv | rfl
  · exact hl0 _ hv
  · exact hl1
end Go.L.Ev
