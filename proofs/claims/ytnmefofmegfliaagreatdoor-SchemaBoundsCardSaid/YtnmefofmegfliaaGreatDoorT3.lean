/- What the evaluation asks of the translation's tables; the functions that recover, walked: no condition. -/
import Derived.Test.YtnmefofmegfliaaGreatDoorT0
import Derived.Test.YtnmefofmegfliaaGreatDoorSH
import Derived.Tactics
import Derived.Tactics2
import Derived.Test.YtnmefofmegfliaaGreatDoorJN
set_option linter.unusedVariables false
set_option linter.unusedSimpArgs false
set_option linter.unusedSectionVars false
set_option maxRecDepth 100000
namespace Go.L
open Go Go.RowKit Go.Proofs
/-- loupe/define.sorted -/
def vc279 (l : Value) (R : Ending → World → Prop) (w : World) : Prop :=
 kRng (cR Tryz.prog R) w 125 l fun v5 w_1 =>
 kLoopF [(.slice none 0 0)] w_1 fun cs ds w_2 N =>
 (fun x2 =>
 kNxt (cR Tryz.prog R) w_2 v5 false 0 fun v6 w_3 =>
 kExt v6 0 fun v7 =>
 kIf v7 (
 kEnt (cR Tryz.prog R) w_3 v5 fun v8 w_4 =>
 kExt v8 0 fun v9 =>
 kBuildS (cR Tryz.prog R) w_4 333 1 #[(0, v9)] fun v12 w_5 =>
 kBlt (cR Tryz.prog R) w_5 .append #[333, 333] 333 #[false, false] #[x2, v12] fun v13 w_6 =>
 kD [] [] (N [v13] w_6)) (
 kCall (cR Tryz.prog R) w_3 369 #[x2] fun v15 w_7 =>
 R (.returned x2) w_7)) (cs.getD 0 undef)
theorem c279 (l : Value) (R : Ending → World → Prop) (w : World) (h : vc279 l R w) : Calls Tryz.prog 279 #[l] w R :=
  calls_of_vc (A := { loops := [(0, [2])], pars := [] }) (Eq.mpr (show FnVc Tryz.prog { loops := [(0, [2])], pars := [] } 17 279 [l] R w = vc279 l R w by kernel_rfl) h)
end Go.L
namespace Go.L.Ev
open Go Go.RowKit Go.Proofs
theorem elt333 (w : World) : Elt Tryz.prog 333 25 1 8 := ⟨Tryz.underlying333, ⟨Tryz.t25, _, info_of (Tryz.typeInfo25 w), rfl, rfl, rfl, rfl⟩, by omega, by omega⟩
theorem sorted279 (w : World) (bm : Nat) (es : Array MapEntry) (clock : Nat) (ks : List Int) (hb : w.heap[bm]? = some (.map es clock)) (hk : es.toList.map (·.key) = ks.map vI) (hn : (es.toList.map (·.born)).Nodup) (hold : ∀ x ∈ es.toList, x.born < clock) (h0 : 0 < ks.length) (hl : ks.length ≤ 1000) :
    Calls Tryz.prog 279 #[.map (some bm)] w fun en W => ∃ x, en = .returned x ∧ Go.L.St w [.row x 25 1 ks.length ((sortI ks).map vI)] W :=
  c279 _ _ _ (sorted_walk Tryz.underlying125 (elt333 w) Tryz.call369 (fun blk off cap zs w h1 h2 h3 => Tryz.slices_Sort_int blk off cap zs w h1 h2 h3) hb hk hn hold h0 hl fun x V hS => ⟨x, rfl, hS⟩)
end Go.L.Ev
namespace Go.L.Ev
open Go Go.RowKit Go.Proofs
theorem g_nt : Tryz.prog.types.size = 681 := by decide +kernel
theorem g_q : qChk Tryz.prog [28, 33, 65, 92] = true := by decide +kernel
theorem g_nm : nmChk Tryz.prog = true := by decide +kernel
theorem g_fs : fsChk Tryz.prog 681 = true := by decide +kernel
theorem g_z : zChk Tryz.prog 681 = true := by decide +kernel
theorem g_m : Tryz.prog.follows .mixedOrders = true := by decide +kernel
theorem pg [Ext] : Pg Tryz.prog ty0 fu0 := pg_of g_nt g_q g_nm g_fs g_z g_m
end Go.L.Ev
namespace Go.L.Ev
open Go Go.RowKit Go.Proofs
set_option linter.unusedSimpArgs false
theorem run_ta69 (v : Value) (w : World) : (Instr.typeAssert (.iface 69 v) 20 69 false).run Tryz.prog w = .ok v w := by
  simp [Instr.typeAssert, run_underlying Tryz.underlying69]
theorem idle12 (p c : Value) (w : World) : CallsD Tryz.prog 12 #[p, c] .returning w fun e u' w' => e = .returned (.tuple #[]) ∧ u' = .returning ∧ w' = w := by
  refine callsD_of_wpS Tryz.func12 rfl fun c₀ cs hu => ?_
  apply wpS_seq
  apply wpS_region
  simp [wpOpsS, go_sem, recoverD, hu, Tryz.ntmps12, Exit.thenS, Tryz.underlying20]
  apply wpS_seq
  apply wpS_region
  simp [wpOpsS, go_sem, recoverD, hu, Tryz.ntmps12, Exit.thenS, Tryz.underlying20]
  refine wpS_cond (t := false) (by simp [Act.eval, Array.replicate]) ?_
  simp only [Bool.false_eq_true, if_false]
  refine wpS_of_wp (wp_skip ?_)
  cases c₀
  simp_all [bodyPostS, results, Tryz.results12]
theorem pan12 (p : Addr) (x n : Int) (fc : FuncId) (caps : Array Value) (Rc : World → Prop) (w : World) (hc : w.cell? p = some (.int .i64 x)) (hz : w.frozen? p = false)
    (hf : ∀ args w, (callFunc fc args).run Tryz.prog w = .ok (.enter fc args) w) (hcl : Calls Tryz.prog fc caps (w.setCell p (.int .i64 n)) fun e w' => e = .returned (.tuple #[]) ∧ Rc w') :
    CallsD Tryz.prog 12 #[.pointer (some p), .func (.func fc) #[] caps] (.panicking [{ v := .iface 69 (.int .i64 n), recovered := false }]) w fun e u' w' =>
      e = .returned (.tuple #[]) ∧ u' = .panicking [{ v := .iface 69 (.int .i64 n), recovered := true }] ∧ Rc w' := by
  refine callsD_of_wpS Tryz.func12 rfl fun c₀ cs hu => ?_
  apply wpS_seq
  apply wpS_region
  simp [wpOpsS, go_sem, recoverD, hu, Tryz.ntmps12, Exit.thenS, Tryz.underlying20]
  apply wpS_seq
  apply wpS_region
  simp [wpOpsS, go_sem, recoverD, hu, Tryz.ntmps12, Exit.thenS, Tryz.underlying20]
  refine wpS_cond (t := true) (by simp [Act.eval, Array.replicate]) ?_
  simp only [if_true]
  apply wpS_seq
  apply wpS_region
  simp [wpOpsS, go_sem, run_ta69, hc, hz, bodyPostS, results, Tryz.results12, Exit.thenS, Tryz.underlying69, Tryz.sizeOf69]
  apply wpS_region
  simp [wpOpsS, go_sem, hf, hc, hz, bodyPostS, results, Tryz.results12, Exit.thenS, Oper.upon]
  refine hcl.mono ?_
  rintro e w' ⟨rfl, h⟩
  first | exact ⟨rfl, h⟩ | exact h
theorem cgt12 : CgtS Tryz.prog 12 69 := ⟨Tryz.call12, idle12, fun a x n fc caps Rc W h1 h2 h3 h4 => pan12 a x n fc caps Rc W h1 h2 h3 h4⟩
theorem idle53 (p c : Value) (w : World) : CallsD Tryz.prog 53 #[p, c] .returning w fun e u' w' => e = .returned (.tuple #[]) ∧ u' = .returning ∧ w' = w := by
  refine callsD_of_wpS Tryz.func53 rfl fun c₀ cs hu => ?_
  apply wpS_seq
  apply wpS_region
  simp [wpOpsS, go_sem, recoverD, hu, Tryz.ntmps53, Exit.thenS, Tryz.underlying20]
  apply wpS_seq
  apply wpS_region
  simp [wpOpsS, go_sem, recoverD, hu, Tryz.ntmps53, Exit.thenS, Tryz.underlying20]
  refine wpS_cond (t := false) (by simp [Act.eval, Array.replicate]) ?_
  simp only [Bool.false_eq_true, if_false]
  refine wpS_of_wp (wp_skip ?_)
  cases c₀
  simp_all [bodyPostS, results, Tryz.results53]
theorem pan53 (p : Addr) (x n : Int) (fc : FuncId) (caps : Array Value) (Rc : World → Prop) (w : World) (hc : w.cell? p = some (.int .i64 x)) (hz : w.frozen? p = false)
    (hf : ∀ args w, (callFunc fc args).run Tryz.prog w = .ok (.enter fc args) w) (hcl : Calls Tryz.prog fc caps (w.setCell p (.int .i64 n)) fun e w' => e = .returned (.tuple #[]) ∧ Rc w') :
    CallsD Tryz.prog 53 #[.pointer (some p), .func (.func fc) #[] caps] (.panicking [{ v := .iface 69 (.int .i64 n), recovered := false }]) w fun e u' w' =>
      e = .returned (.tuple #[]) ∧ u' = .panicking [{ v := .iface 69 (.int .i64 n), recovered := true }] ∧ Rc w' := by
  refine callsD_of_wpS Tryz.func53 rfl fun c₀ cs hu => ?_
  apply wpS_seq
  apply wpS_region
  simp [wpOpsS, go_sem, recoverD, hu, Tryz.ntmps53, Exit.thenS, Tryz.underlying20]
  apply wpS_seq
  apply wpS_region
  simp [wpOpsS, go_sem, recoverD, hu, Tryz.ntmps53, Exit.thenS, Tryz.underlying20]
  refine wpS_cond (t := true) (by simp [Act.eval, Array.replicate]) ?_
  simp only [if_true]
  apply wpS_seq
  apply wpS_region
  simp [wpOpsS, go_sem, run_ta69, hc, hz, bodyPostS, results, Tryz.results53, Exit.thenS, Tryz.underlying69, Tryz.sizeOf69]
  apply wpS_region
  simp [wpOpsS, go_sem, hf, hc, hz, bodyPostS, results, Tryz.results53, Exit.thenS, Oper.upon]
  refine hcl.mono ?_
  rintro e w' ⟨rfl, h⟩
  first | exact ⟨rfl, h⟩ | exact h
theorem cgt53 : CgtS Tryz.prog 53 69 := ⟨Tryz.call53, idle53, fun a x n fc caps Rc W h1 h2 h3 h4 => pan53 a x n fc caps Rc W h1 h2 h3 h4⟩
theorem idle253 (p c : Value) (w : World) : CallsD Tryz.prog 253 #[p, c] .returning w fun e u' w' => e = .returned (.tuple #[]) ∧ u' = .returning ∧ w' = w := by
  refine callsD_of_wpS Tryz.func253 rfl fun c₀ cs hu => ?_
  apply wpS_seq
  apply wpS_region
  simp [wpOpsS, go_sem, recoverD, hu, Tryz.ntmps253, Exit.thenS, Tryz.underlying20]
  apply wpS_seq
  apply wpS_region
  simp [wpOpsS, go_sem, recoverD, hu, Tryz.ntmps253, Exit.thenS, Tryz.underlying20]
  refine wpS_cond (t := false) (by simp [Act.eval, Array.replicate]) ?_
  simp only [Bool.false_eq_true, if_false]
  refine wpS_of_wp (wp_skip ?_)
  cases c₀
  simp_all [bodyPostS, results, Tryz.results253]
theorem pan253 (p : Addr) (x n : Int) (fc : FuncId) (caps : Array Value) (Rc : World → Prop) (w : World) (hc : w.cell? p = some (.int .i64 x)) (hz : w.frozen? p = false)
    (hf : ∀ args w, (callFunc fc args).run Tryz.prog w = .ok (.enter fc args) w) (hcl : Calls Tryz.prog fc caps (w.setCell p (.int .i64 n)) fun e w' => e = .returned (.tuple #[]) ∧ Rc w') :
    CallsD Tryz.prog 253 #[.pointer (some p), .func (.func fc) #[] caps] (.panicking [{ v := .iface 69 (.int .i64 n), recovered := false }]) w fun e u' w' =>
      e = .returned (.tuple #[]) ∧ u' = .panicking [{ v := .iface 69 (.int .i64 n), recovered := true }] ∧ Rc w' := by
  refine callsD_of_wpS Tryz.func253 rfl fun c₀ cs hu => ?_
  apply wpS_seq
  apply wpS_region
  simp [wpOpsS, go_sem, recoverD, hu, Tryz.ntmps253, Exit.thenS, Tryz.underlying20]
  apply wpS_seq
  apply wpS_region
  simp [wpOpsS, go_sem, recoverD, hu, Tryz.ntmps253, Exit.thenS, Tryz.underlying20]
  refine wpS_cond (t := true) (by simp [Act.eval, Array.replicate]) ?_
  simp only [if_true]
  apply wpS_seq
  apply wpS_region
  simp [wpOpsS, go_sem, run_ta69, hc, hz, bodyPostS, results, Tryz.results253, Exit.thenS, Tryz.underlying69, Tryz.sizeOf69]
  apply wpS_region
  simp [wpOpsS, go_sem, hf, hc, hz, bodyPostS, results, Tryz.results253, Exit.thenS, Oper.upon]
  refine hcl.mono ?_
  rintro e w' ⟨rfl, h⟩
  first | exact ⟨rfl, h⟩ | exact h
theorem cgt253 : CgtS Tryz.prog 253 69 := ⟨Tryz.call253, idle253, fun a x n fc caps Rc W h1 h2 h3 h4 => pan253 a x n fc caps Rc W h1 h2 h3 h4⟩
theorem idle266 (p c : Value) (w : World) : CallsD Tryz.prog 266 #[p, c] .returning w fun e u' w' => e = .returned (.tuple #[]) ∧ u' = .returning ∧ w' = w := by
  refine callsD_of_wpS Tryz.func266 rfl fun c₀ cs hu => ?_
  apply wpS_seq
  apply wpS_region
  simp [wpOpsS, go_sem, recoverD, hu, Tryz.ntmps266, Exit.thenS, Tryz.underlying20]
  apply wpS_seq
  apply wpS_region
  simp [wpOpsS, go_sem, recoverD, hu, Tryz.ntmps266, Exit.thenS, Tryz.underlying20]
  refine wpS_cond (t := false) (by simp [Act.eval, Array.replicate]) ?_
  simp only [Bool.false_eq_true, if_false]
  refine wpS_of_wp (wp_skip ?_)
  cases c₀
  simp_all [bodyPostS, results, Tryz.results266]
theorem pan266 (p : Addr) (x n : Int) (fc : FuncId) (caps : Array Value) (Rc : World → Prop) (w : World) (hc : w.cell? p = some (.int .i64 x)) (hz : w.frozen? p = false)
    (hf : ∀ args w, (callFunc fc args).run Tryz.prog w = .ok (.enter fc args) w) (hcl : Calls Tryz.prog fc caps (w.setCell p (.int .i64 n)) fun e w' => e = .returned (.tuple #[]) ∧ Rc w') :
    CallsD Tryz.prog 266 #[.pointer (some p), .func (.func fc) #[] caps] (.panicking [{ v := .iface 69 (.int .i64 n), recovered := false }]) w fun e u' w' =>
      e = .returned (.tuple #[]) ∧ u' = .panicking [{ v := .iface 69 (.int .i64 n), recovered := true }] ∧ Rc w' := by
  refine callsD_of_wpS Tryz.func266 rfl fun c₀ cs hu => ?_
  apply wpS_seq
  apply wpS_region
  simp [wpOpsS, go_sem, recoverD, hu, Tryz.ntmps266, Exit.thenS, Tryz.underlying20]
  apply wpS_seq
  apply wpS_region
  simp [wpOpsS, go_sem, recoverD, hu, Tryz.ntmps266, Exit.thenS, Tryz.underlying20]
  refine wpS_cond (t := true) (by simp [Act.eval, Array.replicate]) ?_
  simp only [if_true]
  apply wpS_seq
  apply wpS_region
  simp [wpOpsS, go_sem, run_ta69, hc, hz, bodyPostS, results, Tryz.results266, Exit.thenS, Tryz.underlying69, Tryz.sizeOf69]
  apply wpS_region
  simp [wpOpsS, go_sem, hf, hc, hz, bodyPostS, results, Tryz.results266, Exit.thenS, Oper.upon]
  refine hcl.mono ?_
  rintro e w' ⟨rfl, h⟩
  first | exact ⟨rfl, h⟩ | exact h
theorem cgt266 : CgtS Tryz.prog 266 69 := ⟨Tryz.call266, idle266, fun a x n fc caps Rc W h1 h2 h3 h4 => pan266 a x n fc caps Rc W h1 h2 h3 h4⟩
theorem idle271 (p c : Value) (w : World) : CallsD Tryz.prog 271 #[p, c] .returning w fun e u' w' => e = .returned (.tuple #[]) ∧ u' = .returning ∧ w' = w := by
  refine callsD_of_wpS Tryz.func271 rfl fun c₀ cs hu => ?_
  apply wpS_seq
  apply wpS_region
  simp [wpOpsS, go_sem, recoverD, hu, Tryz.ntmps271, Exit.thenS, Tryz.underlying20]
  apply wpS_seq
  apply wpS_region
  simp [wpOpsS, go_sem, recoverD, hu, Tryz.ntmps271, Exit.thenS, Tryz.underlying20]
  refine wpS_cond (t := false) (by simp [Act.eval, Array.replicate]) ?_
  simp only [Bool.false_eq_true, if_false]
  refine wpS_of_wp (wp_skip ?_)
  cases c₀
  simp_all [bodyPostS, results, Tryz.results271]
theorem pan271 (p : Addr) (x n : Int) (fc : FuncId) (caps : Array Value) (Rc : World → Prop) (w : World) (hc : w.cell? p = some (.int .i64 x)) (hz : w.frozen? p = false)
    (hf : ∀ args w, (callFunc fc args).run Tryz.prog w = .ok (.enter fc args) w) (hcl : Calls Tryz.prog fc caps (w.setCell p (.int .i64 n)) fun e w' => e = .returned (.tuple #[]) ∧ Rc w') :
    CallsD Tryz.prog 271 #[.pointer (some p), .func (.func fc) #[] caps] (.panicking [{ v := .iface 69 (.int .i64 n), recovered := false }]) w fun e u' w' =>
      e = .returned (.tuple #[]) ∧ u' = .panicking [{ v := .iface 69 (.int .i64 n), recovered := true }] ∧ Rc w' := by
  refine callsD_of_wpS Tryz.func271 rfl fun c₀ cs hu => ?_
  apply wpS_seq
  apply wpS_region
  simp [wpOpsS, go_sem, recoverD, hu, Tryz.ntmps271, Exit.thenS, Tryz.underlying20]
  apply wpS_seq
  apply wpS_region
  simp [wpOpsS, go_sem, recoverD, hu, Tryz.ntmps271, Exit.thenS, Tryz.underlying20]
  refine wpS_cond (t := true) (by simp [Act.eval, Array.replicate]) ?_
  simp only [if_true]
  apply wpS_seq
  apply wpS_region
  simp [wpOpsS, go_sem, run_ta69, hc, hz, bodyPostS, results, Tryz.results271, Exit.thenS, Tryz.underlying69, Tryz.sizeOf69]
  apply wpS_region
  simp [wpOpsS, go_sem, hf, hc, hz, bodyPostS, results, Tryz.results271, Exit.thenS, Oper.upon]
  refine hcl.mono ?_
  rintro e w' ⟨rfl, h⟩
  first | exact ⟨rfl, h⟩ | exact h
theorem cgt271 : CgtS Tryz.prog 271 69 := ⟨Tryz.call271, idle271, fun a x n fc caps Rc W h1 h2 h3 h4 => pan271 a x n fc caps Rc W h1 h2 h3 h4⟩
theorem idle344 (p : Value) (w : World) : CallsD Tryz.prog 344 #[p] .returning w fun e u' w' => e = .returned (.tuple #[]) ∧ u' = .returning ∧ w' = w := by
  refine callsD_of_wpS Tryz.func344 rfl fun c₀ cs hu => ?_
  apply wpS_seq
  apply wpS_region
  simp [wpOpsS, go_sem, recoverD, hu, Tryz.ntmps344, Exit.thenS, Tryz.underlying20]
  apply wpS_seq
  apply wpS_region
  simp [wpOpsS, go_sem, recoverD, hu, Tryz.ntmps344, Exit.thenS, Tryz.underlying20]
  refine wpS_cond (t := false) (by simp [Act.eval, Array.replicate]) ?_
  simp only [Bool.false_eq_true, if_false]
  refine wpS_of_wp (wp_skip ?_)
  cases c₀
  simp_all [bodyPostS, results, Tryz.results344]
theorem pan344 (p : Addr) (x n : Int) (w : World) (hc : w.cell? p = some (.int .i64 x)) (hz : w.frozen? p = false) :
    CallsD Tryz.prog 344 #[.pointer (some p)] (.panicking [{ v := .iface 69 (.int .i64 n), recovered := false }]) w fun e u' w' =>
      e = .returned (.tuple #[]) ∧ u' = .panicking [{ v := .iface 69 (.int .i64 n), recovered := true }] ∧ w' = w.setCell p (.int .i64 n) := by
  refine callsD_of_wpS Tryz.func344 rfl fun c₀ cs hu => ?_
  apply wpS_seq
  apply wpS_region
  simp [wpOpsS, go_sem, recoverD, hu, Tryz.ntmps344, Exit.thenS, Tryz.underlying20]
  apply wpS_seq
  apply wpS_region
  simp [wpOpsS, go_sem, recoverD, hu, Tryz.ntmps344, Exit.thenS, Tryz.underlying20]
  refine wpS_cond (t := true) (by simp [Act.eval, Array.replicate]) ?_
  simp only [if_true]
  apply wpS_region
  simp [wpOpsS, go_sem, run_ta69, hc, hz, bodyPostS, results, Tryz.results344, Exit.thenS, Tryz.underlying69, Tryz.sizeOf69]
theorem cgt344 : CgtS1 Tryz.prog 344 69 := ⟨Tryz.call344, idle344, pan344⟩
theorem idle462 (p c : Value) (w : World) : CallsD Tryz.prog 462 #[p, c] .returning w fun e u' w' => e = .returned (.tuple #[]) ∧ u' = .returning ∧ w' = w := by
  refine callsD_of_wpS Tryz.func462 rfl fun c₀ cs hu => ?_
  apply wpS_seq
  apply wpS_region
  simp [wpOpsS, go_sem, recoverD, hu, Tryz.ntmps462, Exit.thenS, Tryz.underlying20]
  apply wpS_seq
  apply wpS_region
  simp [wpOpsS, go_sem, recoverD, hu, Tryz.ntmps462, Exit.thenS, Tryz.underlying20]
  refine wpS_cond (t := false) (by simp [Act.eval, Array.replicate]) ?_
  simp only [Bool.false_eq_true, if_false]
  refine wpS_of_wp (wp_skip ?_)
  cases c₀
  simp_all [bodyPostS, results, Tryz.results462]
theorem pan462 (p : Addr) (x n : Int) (fc : FuncId) (caps : Array Value) (Rc : World → Prop) (w : World) (hc : w.cell? p = some (.int .i64 x)) (hz : w.frozen? p = false)
    (hf : ∀ args w, (callFunc fc args).run Tryz.prog w = .ok (.enter fc args) w) (hcl : Calls Tryz.prog fc caps (w.setCell p (.int .i64 n)) fun e w' => e = .returned (.tuple #[]) ∧ Rc w') :
    CallsD Tryz.prog 462 #[.pointer (some p), .func (.func fc) #[] caps] (.panicking [{ v := .iface 69 (.int .i64 n), recovered := false }]) w fun e u' w' =>
      e = .returned (.tuple #[]) ∧ u' = .panicking [{ v := .iface 69 (.int .i64 n), recovered := true }] ∧ Rc w' := by
  refine callsD_of_wpS Tryz.func462 rfl fun c₀ cs hu => ?_
  apply wpS_seq
  apply wpS_region
  simp [wpOpsS, go_sem, recoverD, hu, Tryz.ntmps462, Exit.thenS, Tryz.underlying20]
  apply wpS_seq
  apply wpS_region
  simp [wpOpsS, go_sem, recoverD, hu, Tryz.ntmps462, Exit.thenS, Tryz.underlying20]
  refine wpS_cond (t := true) (by simp [Act.eval, Array.replicate]) ?_
  simp only [if_true]
  apply wpS_seq
  apply wpS_region
  simp [wpOpsS, go_sem, run_ta69, hc, hz, bodyPostS, results, Tryz.results462, Exit.thenS, Tryz.underlying69, Tryz.sizeOf69]
  apply wpS_region
  simp [wpOpsS, go_sem, hf, hc, hz, bodyPostS, results, Tryz.results462, Exit.thenS, Oper.upon]
  refine hcl.mono ?_
  rintro e w' ⟨rfl, h⟩
  first | exact ⟨rfl, h⟩ | exact h
theorem cgt462 : CgtS Tryz.prog 462 69 := ⟨Tryz.call462, idle462, fun a x n fc caps Rc W h1 h2 h3 h4 => pan462 a x n fc caps Rc W h1 h2 h3 h4⟩
theorem idle505 (p c : Value) (w : World) : CallsD Tryz.prog 505 #[p, c] .returning w fun e u' w' => e = .returned (.tuple #[]) ∧ u' = .returning ∧ w' = w := by
  refine callsD_of_wpS Tryz.func505 rfl fun c₀ cs hu => ?_
  apply wpS_seq
  apply wpS_region
  simp [wpOpsS, go_sem, recoverD, hu, Tryz.ntmps505, Exit.thenS, Tryz.underlying20]
  apply wpS_seq
  apply wpS_region
  simp [wpOpsS, go_sem, recoverD, hu, Tryz.ntmps505, Exit.thenS, Tryz.underlying20]
  refine wpS_cond (t := false) (by simp [Act.eval, Array.replicate]) ?_
  simp only [Bool.false_eq_true, if_false]
  refine wpS_of_wp (wp_skip ?_)
  cases c₀
  simp_all [bodyPostS, results, Tryz.results505]
theorem pan505 (p : Addr) (x n : Int) (fc : FuncId) (caps : Array Value) (Rc : World → Prop) (w : World) (hc : w.cell? p = some (.int .i64 x)) (hz : w.frozen? p = false)
    (hf : ∀ args w, (callFunc fc args).run Tryz.prog w = .ok (.enter fc args) w) (hcl : Calls Tryz.prog fc caps (w.setCell p (.int .i64 n)) fun e w' => e = .returned (.tuple #[]) ∧ Rc w') :
    CallsD Tryz.prog 505 #[.pointer (some p), .func (.func fc) #[] caps] (.panicking [{ v := .iface 69 (.int .i64 n), recovered := false }]) w fun e u' w' =>
      e = .returned (.tuple #[]) ∧ u' = .panicking [{ v := .iface 69 (.int .i64 n), recovered := true }] ∧ Rc w' := by
  refine callsD_of_wpS Tryz.func505 rfl fun c₀ cs hu => ?_
  apply wpS_seq
  apply wpS_region
  simp [wpOpsS, go_sem, recoverD, hu, Tryz.ntmps505, Exit.thenS, Tryz.underlying20]
  apply wpS_seq
  apply wpS_region
  simp [wpOpsS, go_sem, recoverD, hu, Tryz.ntmps505, Exit.thenS, Tryz.underlying20]
  refine wpS_cond (t := true) (by simp [Act.eval, Array.replicate]) ?_
  simp only [if_true]
  apply wpS_seq
  apply wpS_region
  simp [wpOpsS, go_sem, run_ta69, hc, hz, bodyPostS, results, Tryz.results505, Exit.thenS, Tryz.underlying69, Tryz.sizeOf69]
  apply wpS_region
  simp [wpOpsS, go_sem, hf, hc, hz, bodyPostS, results, Tryz.results505, Exit.thenS, Oper.upon]
  refine hcl.mono ?_
  rintro e w' ⟨rfl, h⟩
  first | exact ⟨rfl, h⟩ | exact h
theorem cgt505 : CgtS Tryz.prog 505 69 := ⟨Tryz.call505, idle505, fun a x n fc caps Rc W h1 h2 h3 h4 => pan505 a x n fc caps Rc W h1 h2 h3 h4⟩
theorem idle591 (p c : Value) (w : World) : CallsD Tryz.prog 591 #[p, c] .returning w fun e u' w' => e = .returned (.tuple #[]) ∧ u' = .returning ∧ w' = w := by
  refine callsD_of_wpS Tryz.func591 rfl fun c₀ cs hu => ?_
  apply wpS_seq
  apply wpS_region
  simp [wpOpsS, go_sem, recoverD, hu, Tryz.ntmps591, Exit.thenS, Tryz.underlying20]
  apply wpS_seq
  apply wpS_region
  simp [wpOpsS, go_sem, recoverD, hu, Tryz.ntmps591, Exit.thenS, Tryz.underlying20]
  refine wpS_cond (t := false) (by simp [Act.eval, Array.replicate]) ?_
  simp only [Bool.false_eq_true, if_false]
  refine wpS_of_wp (wp_skip ?_)
  cases c₀
  simp_all [bodyPostS, results, Tryz.results591]
theorem pan591 (p : Addr) (x n : Int) (fc : FuncId) (caps : Array Value) (Rc : World → Prop) (w : World) (hc : w.cell? p = some (.int .i64 x)) (hz : w.frozen? p = false)
    (hf : ∀ args w, (callFunc fc args).run Tryz.prog w = .ok (.enter fc args) w) (hcl : Calls Tryz.prog fc caps (w.setCell p (.int .i64 n)) fun e w' => e = .returned (.tuple #[]) ∧ Rc w') :
    CallsD Tryz.prog 591 #[.pointer (some p), .func (.func fc) #[] caps] (.panicking [{ v := .iface 69 (.int .i64 n), recovered := false }]) w fun e u' w' =>
      e = .returned (.tuple #[]) ∧ u' = .panicking [{ v := .iface 69 (.int .i64 n), recovered := true }] ∧ Rc w' := by
  refine callsD_of_wpS Tryz.func591 rfl fun c₀ cs hu => ?_
  apply wpS_seq
  apply wpS_region
  simp [wpOpsS, go_sem, recoverD, hu, Tryz.ntmps591, Exit.thenS, Tryz.underlying20]
  apply wpS_seq
  apply wpS_region
  simp [wpOpsS, go_sem, recoverD, hu, Tryz.ntmps591, Exit.thenS, Tryz.underlying20]
  refine wpS_cond (t := true) (by simp [Act.eval, Array.replicate]) ?_
  simp only [if_true]
  apply wpS_seq
  apply wpS_region
  simp [wpOpsS, go_sem, run_ta69, hc, hz, bodyPostS, results, Tryz.results591, Exit.thenS, Tryz.underlying69, Tryz.sizeOf69]
  apply wpS_region
  simp [wpOpsS, go_sem, hf, hc, hz, bodyPostS, results, Tryz.results591, Exit.thenS, Oper.upon]
  refine hcl.mono ?_
  rintro e w' ⟨rfl, h⟩
  first | exact ⟨rfl, h⟩ | exact h
theorem cgt591 : CgtS Tryz.prog 591 69 := ⟨Tryz.call591, idle591, fun a x n fc caps Rc W h1 h2 h3 h4 => pan591 a x n fc caps Rc W h1 h2 h3 h4⟩
end Go.L.Ev
namespace Go.L.Ev
open Go Go.RowKit Go.Proofs
theorem ov0_ok [Ext] : OvS Tryz.prog ov0 := ((((((((((((OvS.none).cgtC cgt591).cgtC cgt505).cgtC cgt462).cg1C cgt344).cgtC cgt271).cgtC cgt266).cgtC cgt253).cgtC cgt53).cgtC cgt12).orc1 (orcJoin_ok Tryz.call193 fun l sep w lo lc h1 h2 h3 h4 h5 R hR => Join57 l sep w lo lc h1 h2 h3 h4 h5 R hR)).orc1 (orcSK_ok Tryz.call279 sorted279)).orc1 (orcIB_ok Tryz.call565 Tryz.stringslite_IndexByte)
end Go.L.Ev
