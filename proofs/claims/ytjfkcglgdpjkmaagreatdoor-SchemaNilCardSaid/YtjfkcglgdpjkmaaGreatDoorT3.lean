/- The functions that recover, walked; what calls are answered by contracts: no condition. -/
import Derived.Test.YtjfkcglgdpjkmaaGreatDoorT2
import Derived.Tactics
import Derived.Tactics2
import Derived.Test.YtjfkcglgdpjkmaaGreatDoorT0
import Derived.Test.YtjfkcglgdpjkmaaGreatDoorJN
set_option linter.unusedVariables false
set_option linter.unusedSimpArgs false
namespace Go.L.Ev
open Go Go.RowKit Go.Proofs
set_option linter.unusedSimpArgs false
theorem run_ta61 (v : Value) (w : World) : (Instr.typeAssert (.iface 61 v) 20 61 false).run Tryz.prog w = .ok v w := by
  simp [Instr.typeAssert, run_underlying Tryz.underlying61]
theorem idle18 (p c : Value) (w : World) : CallsD Tryz.prog 18 #[p, c] .returning w fun e u' w' => e = .returned (.tuple #[]) ∧ u' = .returning ∧ w' = w := by
  refine callsD_of_wpS Tryz.func18 rfl fun c₀ cs hu => ?_
  apply wpS_seq
  apply wpS_region
  simp [wpOpsS, go_sem, recoverD, hu, Tryz.ntmps18, Exit.thenS, Tryz.underlying20]
  apply wpS_seq
  apply wpS_region
  simp [wpOpsS, go_sem, recoverD, hu, Tryz.ntmps18, Exit.thenS, Tryz.underlying20]
  refine wpS_cond (t := false) (by simp [Act.eval, Array.replicate]) ?_
  simp only [Bool.false_eq_true, if_false]
  refine wpS_of_wp (wp_skip ?_)
  cases c₀
  simp_all [bodyPostS, results, Tryz.results18]
theorem pan18 (p : Addr) (x n : Int) (fc : FuncId) (caps : Array Value) (Rc : World → Prop) (w : World) (hc : w.cell? p = some (.int .i64 x)) (hz : w.frozen? p = false)
    (hf : ∀ args w, (callFunc fc args).run Tryz.prog w = .ok (.enter fc args) w) (hcl : Calls Tryz.prog fc caps (w.setCell p (.int .i64 n)) fun e w' => e = .returned (.tuple #[]) ∧ Rc w') :
    CallsD Tryz.prog 18 #[.pointer (some p), .func (.func fc) #[] caps] (.panicking [{ v := .iface 61 (.int .i64 n), recovered := false }]) w fun e u' w' =>
      e = .returned (.tuple #[]) ∧ u' = .panicking [{ v := .iface 61 (.int .i64 n), recovered := true }] ∧ Rc w' := by
  refine callsD_of_wpS Tryz.func18 rfl fun c₀ cs hu => ?_
  apply wpS_seq
  apply wpS_region
  simp [wpOpsS, go_sem, recoverD, hu, Tryz.ntmps18, Exit.thenS, Tryz.underlying20]
  apply wpS_seq
  apply wpS_region
  simp [wpOpsS, go_sem, recoverD, hu, Tryz.ntmps18, Exit.thenS, Tryz.underlying20]
  refine wpS_cond (t := true) (by simp [Act.eval, Array.replicate]) ?_
  simp only [if_true]
  apply wpS_seq
  apply wpS_region
  simp [wpOpsS, go_sem, run_ta61, hc, hz, bodyPostS, results, Tryz.results18, Exit.thenS, Tryz.underlying61, Tryz.sizeOf61]
  apply wpS_region
  simp [wpOpsS, go_sem, hf, hc, hz, bodyPostS, results, Tryz.results18, Exit.thenS, Oper.upon]
  refine hcl.mono ?_
  rintro e w' ⟨rfl, h⟩
  first | exact ⟨rfl, h⟩ | exact h
theorem cgt18 : CgtS Tryz.prog 18 61 := ⟨Tryz.call18, idle18, fun a x n fc caps Rc W h1 h2 h3 h4 => pan18 a x n fc caps Rc W h1 h2 h3 h4⟩
theorem idle196 (p c : Value) (w : World) : CallsD Tryz.prog 196 #[p, c] .returning w fun e u' w' => e = .returned (.tuple #[]) ∧ u' = .returning ∧ w' = w := by
  refine callsD_of_wpS Tryz.func196 rfl fun c₀ cs hu => ?_
  apply wpS_seq
  apply wpS_region
  simp [wpOpsS, go_sem, recoverD, hu, Tryz.ntmps196, Exit.thenS, Tryz.underlying20]
  apply wpS_seq
  apply wpS_region
  simp [wpOpsS, go_sem, recoverD, hu, Tryz.ntmps196, Exit.thenS, Tryz.underlying20]
  refine wpS_cond (t := false) (by simp [Act.eval, Array.replicate]) ?_
  simp only [Bool.false_eq_true, if_false]
  refine wpS_of_wp (wp_skip ?_)
  cases c₀
  simp_all [bodyPostS, results, Tryz.results196]
theorem pan196 (p : Addr) (x n : Int) (fc : FuncId) (caps : Array Value) (Rc : World → Prop) (w : World) (hc : w.cell? p = some (.int .i64 x)) (hz : w.frozen? p = false)
    (hf : ∀ args w, (callFunc fc args).run Tryz.prog w = .ok (.enter fc args) w) (hcl : Calls Tryz.prog fc caps (w.setCell p (.int .i64 n)) fun e w' => e = .returned (.tuple #[]) ∧ Rc w') :
    CallsD Tryz.prog 196 #[.pointer (some p), .func (.func fc) #[] caps] (.panicking [{ v := .iface 61 (.int .i64 n), recovered := false }]) w fun e u' w' =>
      e = .returned (.tuple #[]) ∧ u' = .panicking [{ v := .iface 61 (.int .i64 n), recovered := true }] ∧ Rc w' := by
  refine callsD_of_wpS Tryz.func196 rfl fun c₀ cs hu => ?_
  apply wpS_seq
  apply wpS_region
  simp [wpOpsS, go_sem, recoverD, hu, Tryz.ntmps196, Exit.thenS, Tryz.underlying20]
  apply wpS_seq
  apply wpS_region
  simp [wpOpsS, go_sem, recoverD, hu, Tryz.ntmps196, Exit.thenS, Tryz.underlying20]
  refine wpS_cond (t := true) (by simp [Act.eval, Array.replicate]) ?_
  simp only [if_true]
  apply wpS_seq
  apply wpS_region
  simp [wpOpsS, go_sem, run_ta61, hc, hz, bodyPostS, results, Tryz.results196, Exit.thenS, Tryz.underlying61, Tryz.sizeOf61]
  apply wpS_region
  simp [wpOpsS, go_sem, hf, hc, hz, bodyPostS, results, Tryz.results196, Exit.thenS, Oper.upon]
  refine hcl.mono ?_
  rintro e w' ⟨rfl, h⟩
  first | exact ⟨rfl, h⟩ | exact h
theorem cgt196 : CgtS Tryz.prog 196 61 := ⟨Tryz.call196, idle196, fun a x n fc caps Rc W h1 h2 h3 h4 => pan196 a x n fc caps Rc W h1 h2 h3 h4⟩
theorem idle218 (p c : Value) (w : World) : CallsD Tryz.prog 218 #[p, c] .returning w fun e u' w' => e = .returned (.tuple #[]) ∧ u' = .returning ∧ w' = w := by
  refine callsD_of_wpS Tryz.func218 rfl fun c₀ cs hu => ?_
  apply wpS_seq
  apply wpS_region
  simp [wpOpsS, go_sem, recoverD, hu, Tryz.ntmps218, Exit.thenS, Tryz.underlying20]
  apply wpS_seq
  apply wpS_region
  simp [wpOpsS, go_sem, recoverD, hu, Tryz.ntmps218, Exit.thenS, Tryz.underlying20]
  refine wpS_cond (t := false) (by simp [Act.eval, Array.replicate]) ?_
  simp only [Bool.false_eq_true, if_false]
  refine wpS_of_wp (wp_skip ?_)
  cases c₀
  simp_all [bodyPostS, results, Tryz.results218]
theorem pan218 (p : Addr) (x n : Int) (fc : FuncId) (caps : Array Value) (Rc : World → Prop) (w : World) (hc : w.cell? p = some (.int .i64 x)) (hz : w.frozen? p = false)
    (hf : ∀ args w, (callFunc fc args).run Tryz.prog w = .ok (.enter fc args) w) (hcl : Calls Tryz.prog fc caps (w.setCell p (.int .i64 n)) fun e w' => e = .returned (.tuple #[]) ∧ Rc w') :
    CallsD Tryz.prog 218 #[.pointer (some p), .func (.func fc) #[] caps] (.panicking [{ v := .iface 61 (.int .i64 n), recovered := false }]) w fun e u' w' =>
      e = .returned (.tuple #[]) ∧ u' = .panicking [{ v := .iface 61 (.int .i64 n), recovered := true }] ∧ Rc w' := by
  refine callsD_of_wpS Tryz.func218 rfl fun c₀ cs hu => ?_
  apply wpS_seq
  apply wpS_region
  simp [wpOpsS, go_sem, recoverD, hu, Tryz.ntmps218, Exit.thenS, Tryz.underlying20]
  apply wpS_seq
  apply wpS_region
  simp [wpOpsS, go_sem, recoverD, hu, Tryz.ntmps218, Exit.thenS, Tryz.underlying20]
  refine wpS_cond (t := true) (by simp [Act.eval, Array.replicate]) ?_
  simp only [if_true]
  apply wpS_seq
  apply wpS_region
  simp [wpOpsS, go_sem, run_ta61, hc, hz, bodyPostS, results, Tryz.results218, Exit.thenS, Tryz.underlying61, Tryz.sizeOf61]
  apply wpS_region
  simp [wpOpsS, go_sem, hf, hc, hz, bodyPostS, results, Tryz.results218, Exit.thenS, Oper.upon]
  refine hcl.mono ?_
  rintro e w' ⟨rfl, h⟩
  first | exact ⟨rfl, h⟩ | exact h
theorem cgt218 : CgtS Tryz.prog 218 61 := ⟨Tryz.call218, idle218, fun a x n fc caps Rc W h1 h2 h3 h4 => pan218 a x n fc caps Rc W h1 h2 h3 h4⟩
theorem idle347 (p c : Value) (w : World) : CallsD Tryz.prog 347 #[p, c] .returning w fun e u' w' => e = .returned (.tuple #[]) ∧ u' = .returning ∧ w' = w := by
  refine callsD_of_wpS Tryz.func347 rfl fun c₀ cs hu => ?_
  apply wpS_seq
  apply wpS_region
  simp [wpOpsS, go_sem, recoverD, hu, Tryz.ntmps347, Exit.thenS, Tryz.underlying20]
  apply wpS_seq
  apply wpS_region
  simp [wpOpsS, go_sem, recoverD, hu, Tryz.ntmps347, Exit.thenS, Tryz.underlying20]
  refine wpS_cond (t := false) (by simp [Act.eval, Array.replicate]) ?_
  simp only [Bool.false_eq_true, if_false]
  refine wpS_of_wp (wp_skip ?_)
  cases c₀
  simp_all [bodyPostS, results, Tryz.results347]
theorem pan347 (p : Addr) (x n : Int) (fc : FuncId) (caps : Array Value) (Rc : World → Prop) (w : World) (hc : w.cell? p = some (.int .i64 x)) (hz : w.frozen? p = false)
    (hf : ∀ args w, (callFunc fc args).run Tryz.prog w = .ok (.enter fc args) w) (hcl : Calls Tryz.prog fc caps (w.setCell p (.int .i64 n)) fun e w' => e = .returned (.tuple #[]) ∧ Rc w') :
    CallsD Tryz.prog 347 #[.pointer (some p), .func (.func fc) #[] caps] (.panicking [{ v := .iface 61 (.int .i64 n), recovered := false }]) w fun e u' w' =>
      e = .returned (.tuple #[]) ∧ u' = .panicking [{ v := .iface 61 (.int .i64 n), recovered := true }] ∧ Rc w' := by
  refine callsD_of_wpS Tryz.func347 rfl fun c₀ cs hu => ?_
  apply wpS_seq
  apply wpS_region
  simp [wpOpsS, go_sem, recoverD, hu, Tryz.ntmps347, Exit.thenS, Tryz.underlying20]
  apply wpS_seq
  apply wpS_region
  simp [wpOpsS, go_sem, recoverD, hu, Tryz.ntmps347, Exit.thenS, Tryz.underlying20]
  refine wpS_cond (t := true) (by simp [Act.eval, Array.replicate]) ?_
  simp only [if_true]
  apply wpS_seq
  apply wpS_region
  simp [wpOpsS, go_sem, run_ta61, hc, hz, bodyPostS, results, Tryz.results347, Exit.thenS, Tryz.underlying61, Tryz.sizeOf61]
  apply wpS_region
  simp [wpOpsS, go_sem, hf, hc, hz, bodyPostS, results, Tryz.results347, Exit.thenS, Oper.upon]
  refine hcl.mono ?_
  rintro e w' ⟨rfl, h⟩
  first | exact ⟨rfl, h⟩ | exact h
theorem cgt347 : CgtS Tryz.prog 347 61 := ⟨Tryz.call347, idle347, fun a x n fc caps Rc W h1 h2 h3 h4 => pan347 a x n fc caps Rc W h1 h2 h3 h4⟩
theorem idle352 (p c : Value) (w : World) : CallsD Tryz.prog 352 #[p, c] .returning w fun e u' w' => e = .returned (.tuple #[]) ∧ u' = .returning ∧ w' = w := by
  refine callsD_of_wpS Tryz.func352 rfl fun c₀ cs hu => ?_
  apply wpS_seq
  apply wpS_region
  simp [wpOpsS, go_sem, recoverD, hu, Tryz.ntmps352, Exit.thenS, Tryz.underlying20]
  apply wpS_seq
  apply wpS_region
  simp [wpOpsS, go_sem, recoverD, hu, Tryz.ntmps352, Exit.thenS, Tryz.underlying20]
  refine wpS_cond (t := false) (by simp [Act.eval, Array.replicate]) ?_
  simp only [Bool.false_eq_true, if_false]
  refine wpS_of_wp (wp_skip ?_)
  cases c₀
  simp_all [bodyPostS, results, Tryz.results352]
theorem pan352 (p : Addr) (x n : Int) (fc : FuncId) (caps : Array Value) (Rc : World → Prop) (w : World) (hc : w.cell? p = some (.int .i64 x)) (hz : w.frozen? p = false)
    (hf : ∀ args w, (callFunc fc args).run Tryz.prog w = .ok (.enter fc args) w) (hcl : Calls Tryz.prog fc caps (w.setCell p (.int .i64 n)) fun e w' => e = .returned (.tuple #[]) ∧ Rc w') :
    CallsD Tryz.prog 352 #[.pointer (some p), .func (.func fc) #[] caps] (.panicking [{ v := .iface 61 (.int .i64 n), recovered := false }]) w fun e u' w' =>
      e = .returned (.tuple #[]) ∧ u' = .panicking [{ v := .iface 61 (.int .i64 n), recovered := true }] ∧ Rc w' := by
  refine callsD_of_wpS Tryz.func352 rfl fun c₀ cs hu => ?_
  apply wpS_seq
  apply wpS_region
  simp [wpOpsS, go_sem, recoverD, hu, Tryz.ntmps352, Exit.thenS, Tryz.underlying20]
  apply wpS_seq
  apply wpS_region
  simp [wpOpsS, go_sem, recoverD, hu, Tryz.ntmps352, Exit.thenS, Tryz.underlying20]
  refine wpS_cond (t := true) (by simp [Act.eval, Array.replicate]) ?_
  simp only [if_true]
  apply wpS_seq
  apply wpS_region
  simp [wpOpsS, go_sem, run_ta61, hc, hz, bodyPostS, results, Tryz.results352, Exit.thenS, Tryz.underlying61, Tryz.sizeOf61]
  apply wpS_region
  simp [wpOpsS, go_sem, hf, hc, hz, bodyPostS, results, Tryz.results352, Exit.thenS, Oper.upon]
  refine hcl.mono ?_
  rintro e w' ⟨rfl, h⟩
  first | exact ⟨rfl, h⟩ | exact h
theorem cgt352 : CgtS Tryz.prog 352 61 := ⟨Tryz.call352, idle352, fun a x n fc caps Rc W h1 h2 h3 h4 => pan352 a x n fc caps Rc W h1 h2 h3 h4⟩
theorem idle414 (p : Value) (w : World) : CallsD Tryz.prog 414 #[p] .returning w fun e u' w' => e = .returned (.tuple #[]) ∧ u' = .returning ∧ w' = w := by
  refine callsD_of_wpS Tryz.func414 rfl fun c₀ cs hu => ?_
  apply wpS_seq
  apply wpS_region
  simp [wpOpsS, go_sem, recoverD, hu, Tryz.ntmps414, Exit.thenS, Tryz.underlying20]
  apply wpS_seq
  apply wpS_region
  simp [wpOpsS, go_sem, recoverD, hu, Tryz.ntmps414, Exit.thenS, Tryz.underlying20]
  refine wpS_cond (t := false) (by simp [Act.eval, Array.replicate]) ?_
  simp only [Bool.false_eq_true, if_false]
  refine wpS_of_wp (wp_skip ?_)
  cases c₀
  simp_all [bodyPostS, results, Tryz.results414]
theorem pan414 (p : Addr) (x n : Int) (w : World) (hc : w.cell? p = some (.int .i64 x)) (hz : w.frozen? p = false) :
    CallsD Tryz.prog 414 #[.pointer (some p)] (.panicking [{ v := .iface 61 (.int .i64 n), recovered := false }]) w fun e u' w' =>
      e = .returned (.tuple #[]) ∧ u' = .panicking [{ v := .iface 61 (.int .i64 n), recovered := true }] ∧ w' = w.setCell p (.int .i64 n) := by
  refine callsD_of_wpS Tryz.func414 rfl fun c₀ cs hu => ?_
  apply wpS_seq
  apply wpS_region
  simp [wpOpsS, go_sem, recoverD, hu, Tryz.ntmps414, Exit.thenS, Tryz.underlying20]
  apply wpS_seq
  apply wpS_region
  simp [wpOpsS, go_sem, recoverD, hu, Tryz.ntmps414, Exit.thenS, Tryz.underlying20]
  refine wpS_cond (t := true) (by simp [Act.eval, Array.replicate]) ?_
  simp only [if_true]
  apply wpS_region
  simp [wpOpsS, go_sem, run_ta61, hc, hz, bodyPostS, results, Tryz.results414, Exit.thenS, Tryz.underlying61, Tryz.sizeOf61]
theorem cgt414 : CgtS1 Tryz.prog 414 61 := ⟨Tryz.call414, idle414, pan414⟩
theorem idle441 (p c : Value) (w : World) : CallsD Tryz.prog 441 #[p, c] .returning w fun e u' w' => e = .returned (.tuple #[]) ∧ u' = .returning ∧ w' = w := by
  refine callsD_of_wpS Tryz.func441 rfl fun c₀ cs hu => ?_
  apply wpS_seq
  apply wpS_region
  simp [wpOpsS, go_sem, recoverD, hu, Tryz.ntmps441, Exit.thenS, Tryz.underlying20]
  apply wpS_seq
  apply wpS_region
  simp [wpOpsS, go_sem, recoverD, hu, Tryz.ntmps441, Exit.thenS, Tryz.underlying20]
  refine wpS_cond (t := false) (by simp [Act.eval, Array.replicate]) ?_
  simp only [Bool.false_eq_true, if_false]
  refine wpS_of_wp (wp_skip ?_)
  cases c₀
  simp_all [bodyPostS, results, Tryz.results441]
theorem pan441 (p : Addr) (x n : Int) (fc : FuncId) (caps : Array Value) (Rc : World → Prop) (w : World) (hc : w.cell? p = some (.int .i64 x)) (hz : w.frozen? p = false)
    (hf : ∀ args w, (callFunc fc args).run Tryz.prog w = .ok (.enter fc args) w) (hcl : Calls Tryz.prog fc caps (w.setCell p (.int .i64 n)) fun e w' => e = .returned (.tuple #[]) ∧ Rc w') :
    CallsD Tryz.prog 441 #[.pointer (some p), .func (.func fc) #[] caps] (.panicking [{ v := .iface 61 (.int .i64 n), recovered := false }]) w fun e u' w' =>
      e = .returned (.tuple #[]) ∧ u' = .panicking [{ v := .iface 61 (.int .i64 n), recovered := true }] ∧ Rc w' := by
  refine callsD_of_wpS Tryz.func441 rfl fun c₀ cs hu => ?_
  apply wpS_seq
  apply wpS_region
  simp [wpOpsS, go_sem, recoverD, hu, Tryz.ntmps441, Exit.thenS, Tryz.underlying20]
  apply wpS_seq
  apply wpS_region
  simp [wpOpsS, go_sem, recoverD, hu, Tryz.ntmps441, Exit.thenS, Tryz.underlying20]
  refine wpS_cond (t := true) (by simp [Act.eval, Array.replicate]) ?_
  simp only [if_true]
  apply wpS_seq
  apply wpS_region
  simp [wpOpsS, go_sem, run_ta61, hc, hz, bodyPostS, results, Tryz.results441, Exit.thenS, Tryz.underlying61, Tryz.sizeOf61]
  apply wpS_region
  simp [wpOpsS, go_sem, hf, hc, hz, bodyPostS, results, Tryz.results441, Exit.thenS, Oper.upon]
  refine hcl.mono ?_
  rintro e w' ⟨rfl, h⟩
  first | exact ⟨rfl, h⟩ | exact h
theorem cgt441 : CgtS Tryz.prog 441 61 := ⟨Tryz.call441, idle441, fun a x n fc caps Rc W h1 h2 h3 h4 => pan441 a x n fc caps Rc W h1 h2 h3 h4⟩
theorem idle558 (p c : Value) (w : World) : CallsD Tryz.prog 558 #[p, c] .returning w fun e u' w' => e = .returned (.tuple #[]) ∧ u' = .returning ∧ w' = w := by
  refine callsD_of_wpS Tryz.func558 rfl fun c₀ cs hu => ?_
  apply wpS_seq
  apply wpS_region
  simp [wpOpsS, go_sem, recoverD, hu, Tryz.ntmps558, Exit.thenS, Tryz.underlying20]
  apply wpS_seq
  apply wpS_region
  simp [wpOpsS, go_sem, recoverD, hu, Tryz.ntmps558, Exit.thenS, Tryz.underlying20]
  refine wpS_cond (t := false) (by simp [Act.eval, Array.replicate]) ?_
  simp only [Bool.false_eq_true, if_false]
  refine wpS_of_wp (wp_skip ?_)
  cases c₀
  simp_all [bodyPostS, results, Tryz.results558]
theorem pan558 (p : Addr) (x n : Int) (fc : FuncId) (caps : Array Value) (Rc : World → Prop) (w : World) (hc : w.cell? p = some (.int .i64 x)) (hz : w.frozen? p = false)
    (hf : ∀ args w, (callFunc fc args).run Tryz.prog w = .ok (.enter fc args) w) (hcl : Calls Tryz.prog fc caps (w.setCell p (.int .i64 n)) fun e w' => e = .returned (.tuple #[]) ∧ Rc w') :
    CallsD Tryz.prog 558 #[.pointer (some p), .func (.func fc) #[] caps] (.panicking [{ v := .iface 61 (.int .i64 n), recovered := false }]) w fun e u' w' =>
      e = .returned (.tuple #[]) ∧ u' = .panicking [{ v := .iface 61 (.int .i64 n), recovered := true }] ∧ Rc w' := by
  refine callsD_of_wpS Tryz.func558 rfl fun c₀ cs hu => ?_
  apply wpS_seq
  apply wpS_region
  simp [wpOpsS, go_sem, recoverD, hu, Tryz.ntmps558, Exit.thenS, Tryz.underlying20]
  apply wpS_seq
  apply wpS_region
  simp [wpOpsS, go_sem, recoverD, hu, Tryz.ntmps558, Exit.thenS, Tryz.underlying20]
  refine wpS_cond (t := true) (by simp [Act.eval, Array.replicate]) ?_
  simp only [if_true]
  apply wpS_seq
  apply wpS_region
  simp [wpOpsS, go_sem, run_ta61, hc, hz, bodyPostS, results, Tryz.results558, Exit.thenS, Tryz.underlying61, Tryz.sizeOf61]
  apply wpS_region
  simp [wpOpsS, go_sem, hf, hc, hz, bodyPostS, results, Tryz.results558, Exit.thenS, Oper.upon]
  refine hcl.mono ?_
  rintro e w' ⟨rfl, h⟩
  first | exact ⟨rfl, h⟩ | exact h
theorem cgt558 : CgtS Tryz.prog 558 61 := ⟨Tryz.call558, idle558, fun a x n fc caps Rc W h1 h2 h3 h4 => pan558 a x n fc caps Rc W h1 h2 h3 h4⟩
theorem idle582 (p c : Value) (w : World) : CallsD Tryz.prog 582 #[p, c] .returning w fun e u' w' => e = .returned (.tuple #[]) ∧ u' = .returning ∧ w' = w := by
  refine callsD_of_wpS Tryz.func582 rfl fun c₀ cs hu => ?_
  apply wpS_seq
  apply wpS_region
  simp [wpOpsS, go_sem, recoverD, hu, Tryz.ntmps582, Exit.thenS, Tryz.underlying20]
  apply wpS_seq
  apply wpS_region
  simp [wpOpsS, go_sem, recoverD, hu, Tryz.ntmps582, Exit.thenS, Tryz.underlying20]
  refine wpS_cond (t := false) (by simp [Act.eval, Array.replicate]) ?_
  simp only [Bool.false_eq_true, if_false]
  refine wpS_of_wp (wp_skip ?_)
  cases c₀
  simp_all [bodyPostS, results, Tryz.results582]
theorem pan582 (p : Addr) (x n : Int) (fc : FuncId) (caps : Array Value) (Rc : World → Prop) (w : World) (hc : w.cell? p = some (.int .i64 x)) (hz : w.frozen? p = false)
    (hf : ∀ args w, (callFunc fc args).run Tryz.prog w = .ok (.enter fc args) w) (hcl : Calls Tryz.prog fc caps (w.setCell p (.int .i64 n)) fun e w' => e = .returned (.tuple #[]) ∧ Rc w') :
    CallsD Tryz.prog 582 #[.pointer (some p), .func (.func fc) #[] caps] (.panicking [{ v := .iface 61 (.int .i64 n), recovered := false }]) w fun e u' w' =>
      e = .returned (.tuple #[]) ∧ u' = .panicking [{ v := .iface 61 (.int .i64 n), recovered := true }] ∧ Rc w' := by
  refine callsD_of_wpS Tryz.func582 rfl fun c₀ cs hu => ?_
  apply wpS_seq
  apply wpS_region
  simp [wpOpsS, go_sem, recoverD, hu, Tryz.ntmps582, Exit.thenS, Tryz.underlying20]
  apply wpS_seq
  apply wpS_region
  simp [wpOpsS, go_sem, recoverD, hu, Tryz.ntmps582, Exit.thenS, Tryz.underlying20]
  refine wpS_cond (t := true) (by simp [Act.eval, Array.replicate]) ?_
  simp only [if_true]
  apply wpS_seq
  apply wpS_region
  simp [wpOpsS, go_sem, run_ta61, hc, hz, bodyPostS, results, Tryz.results582, Exit.thenS, Tryz.underlying61, Tryz.sizeOf61]
  apply wpS_region
  simp [wpOpsS, go_sem, hf, hc, hz, bodyPostS, results, Tryz.results582, Exit.thenS, Oper.upon]
  refine hcl.mono ?_
  rintro e w' ⟨rfl, h⟩
  first | exact ⟨rfl, h⟩ | exact h
theorem cgt582 : CgtS Tryz.prog 582 61 := ⟨Tryz.call582, idle582, fun a x n fc caps Rc W h1 h2 h3 h4 => pan582 a x n fc caps Rc W h1 h2 h3 h4⟩
end Go.L.Ev
namespace Go.L.Ev
open Go Go.RowKit Go.Proofs
theorem ov0_ok : OvS Tryz.prog ov0 := ((((((((((((OvS.none).cgtC cgt582).cgtC cgt558).cgtC cgt441).cg1C cgt414).cgtC cgt352).cgtC cgt347).cgtC cgt218).cgtC cgt196).cgtC cgt18).orc1 (orcJoin_ok Tryz.call243 fun l sep w lo lc h1 h2 h3 h4 h5 R hR => Join57 l sep w lo lc h1 h2 h3 h4 h5 R hR)).orc1 (orcSK_ok Tryz.call360 sorted360)).orc1 (orcIB_ok Tryz.call607 Tryz.stringslite_IndexByte)
end Go.L.Ev
