/- Contracts of single functions: no condition but those that each states. -/
import Derived.Test.YtjifkcfmolnepaaV1
import Derived.Test.YtjifkcfmolnepaaV2
import Derived.Test.YtjifkcfmolnepaaV3
import Derived.Test.YtjifkcfmolnepaaA2
import Derived.Tactics
import Derived.Tactics2
import Derived.Laws.StructEq
import Derived.Laws.Small
import Derived.Laws.Cover1
import Derived.Lib.AppendStr
import Derived.WideMake
set_option linter.unusedVariables false
set_option linter.unusedSimpArgs false
namespace Go.L
open Go Go.RowKit Go.Proofs
def unit : Value := .tuple #[]
def pe (n : Int) (r : Bool) : PanicEntry := { v := .iface 28 (.int .i64 n), recovered := r }

set_option linter.unusedSimpArgs false
theorem run_ta28 (v : Value) (w : World) : (Instr.typeAssert (.iface 28 v) 20 28 false).run Try.prog w = .ok v w := by
  simp [Instr.typeAssert, run_underlying Try.underlying28]

theorem caught_idle39 (p c : Value) (w : World) : CallsD Try.prog 39 #[p, c] .returning w fun e u' w' => e = .returned unit ∧ u' = .returning ∧ w' = w := by
  refine callsD_of_wpS Try.func39 rfl fun c₀ cs hu => ?_
  apply wpS_seq
  apply wpS_region
  simp [wpOpsS, go_sem, recoverD, hu, Try.ntmps39, Exit.thenS, Try.underlying20]
  apply wpS_seq
  apply wpS_region
  simp [wpOpsS, go_sem, recoverD, hu, Try.ntmps39, Exit.thenS, Try.underlying20]
  refine wpS_cond (t := false) (by simp [Act.eval, Array.replicate]) ?_
  simp only [Bool.false_eq_true, if_false]
  refine wpS_of_wp (wp_skip ?_)
  cases c₀
  simp_all [bodyPostS, results, Try.results39, unit]

theorem caught_panics39 (p : Addr) (x n : Int) (fc : FuncId) (caps : Array Value) (Rc : World → Prop) (w : World) (hc : w.cell? p = some (.int .i64 x)) (hz : w.frozen? p = false)
    (hf : ∀ args w, (callFunc fc args).run Try.prog w = .ok (.enter fc args) w) (hcl : Calls Try.prog fc caps (w.setCell p (.int .i64 n)) fun e w' => e = .returned unit ∧ Rc w') :
    CallsD Try.prog 39 #[.pointer (some p), .func (.func fc) #[] caps] (.panicking [pe n false]) w fun e u' w' =>
      e = .returned unit ∧ u' = .panicking [pe n true] ∧ Rc w' := by
  refine callsD_of_wpS Try.func39 rfl fun c₀ cs hu => ?_
  apply wpS_seq
  apply wpS_region
  simp [wpOpsS, go_sem, recoverD, hu, Try.ntmps39, Exit.thenS, Try.underlying20, pe]
  apply wpS_seq
  apply wpS_region
  simp [wpOpsS, go_sem, recoverD, hu, Try.ntmps39, Exit.thenS, Try.underlying20]
  refine wpS_cond (t := true) (by simp [Act.eval, Array.replicate]) ?_
  simp only [if_true]
  apply wpS_seq
  apply wpS_region
  simp [wpOpsS, go_sem, run_ta28, hc, hz, bodyPostS, results, Try.results39, Exit.thenS, Try.underlying28, Try.sizeOf28]
  apply wpS_region
  simp [wpOpsS, go_sem, hf, hc, hz, bodyPostS, results, Try.results39, Exit.thenS, Oper.upon]
  refine hcl.mono ?_
  rintro e w' ⟨rfl, h⟩
  exact ⟨rfl, h⟩
theorem caught_idle52 (p c : Value) (w : World) : CallsD Try.prog 52 #[p, c] .returning w fun e u' w' => e = .returned unit ∧ u' = .returning ∧ w' = w := by
  refine callsD_of_wpS Try.func52 rfl fun c₀ cs hu => ?_
  apply wpS_seq
  apply wpS_region
  simp [wpOpsS, go_sem, recoverD, hu, Try.ntmps52, Exit.thenS, Try.underlying20]
  apply wpS_seq
  apply wpS_region
  simp [wpOpsS, go_sem, recoverD, hu, Try.ntmps52, Exit.thenS, Try.underlying20]
  refine wpS_cond (t := false) (by simp [Act.eval, Array.replicate]) ?_
  simp only [Bool.false_eq_true, if_false]
  refine wpS_of_wp (wp_skip ?_)
  cases c₀
  simp_all [bodyPostS, results, Try.results52, unit]

theorem caught_panics52 (p : Addr) (x n : Int) (fc : FuncId) (caps : Array Value) (Rc : World → Prop) (w : World) (hc : w.cell? p = some (.int .i64 x)) (hz : w.frozen? p = false)
    (hf : ∀ args w, (callFunc fc args).run Try.prog w = .ok (.enter fc args) w) (hcl : Calls Try.prog fc caps (w.setCell p (.int .i64 n)) fun e w' => e = .returned unit ∧ Rc w') :
    CallsD Try.prog 52 #[.pointer (some p), .func (.func fc) #[] caps] (.panicking [pe n false]) w fun e u' w' =>
      e = .returned unit ∧ u' = .panicking [pe n true] ∧ Rc w' := by
  refine callsD_of_wpS Try.func52 rfl fun c₀ cs hu => ?_
  apply wpS_seq
  apply wpS_region
  simp [wpOpsS, go_sem, recoverD, hu, Try.ntmps52, Exit.thenS, Try.underlying20, pe]
  apply wpS_seq
  apply wpS_region
  simp [wpOpsS, go_sem, recoverD, hu, Try.ntmps52, Exit.thenS, Try.underlying20]
  refine wpS_cond (t := true) (by simp [Act.eval, Array.replicate]) ?_
  simp only [if_true]
  apply wpS_seq
  apply wpS_region
  simp [wpOpsS, go_sem, run_ta28, hc, hz, bodyPostS, results, Try.results52, Exit.thenS, Try.underlying28, Try.sizeOf28]
  apply wpS_region
  simp [wpOpsS, go_sem, hf, hc, hz, bodyPostS, results, Try.results52, Exit.thenS, Oper.upon]
  refine hcl.mono ?_
  rintro e w' ⟨rfl, h⟩
  exact ⟨rfl, h⟩
theorem caught_idle87 (p c : Value) (w : World) : CallsD Try.prog 87 #[p, c] .returning w fun e u' w' => e = .returned unit ∧ u' = .returning ∧ w' = w := by
  refine callsD_of_wpS Try.func87 rfl fun c₀ cs hu => ?_
  apply wpS_seq
  apply wpS_region
  simp [wpOpsS, go_sem, recoverD, hu, Try.ntmps87, Exit.thenS, Try.underlying20]
  apply wpS_seq
  apply wpS_region
  simp [wpOpsS, go_sem, recoverD, hu, Try.ntmps87, Exit.thenS, Try.underlying20]
  refine wpS_cond (t := false) (by simp [Act.eval, Array.replicate]) ?_
  simp only [Bool.false_eq_true, if_false]
  refine wpS_of_wp (wp_skip ?_)
  cases c₀
  simp_all [bodyPostS, results, Try.results87, unit]

theorem caught_panics87 (p : Addr) (x n : Int) (fc : FuncId) (caps : Array Value) (Rc : World → Prop) (w : World) (hc : w.cell? p = some (.int .i64 x)) (hz : w.frozen? p = false)
    (hf : ∀ args w, (callFunc fc args).run Try.prog w = .ok (.enter fc args) w) (hcl : Calls Try.prog fc caps (w.setCell p (.int .i64 n)) fun e w' => e = .returned unit ∧ Rc w') :
    CallsD Try.prog 87 #[.pointer (some p), .func (.func fc) #[] caps] (.panicking [pe n false]) w fun e u' w' =>
      e = .returned unit ∧ u' = .panicking [pe n true] ∧ Rc w' := by
  refine callsD_of_wpS Try.func87 rfl fun c₀ cs hu => ?_
  apply wpS_seq
  apply wpS_region
  simp [wpOpsS, go_sem, recoverD, hu, Try.ntmps87, Exit.thenS, Try.underlying20, pe]
  apply wpS_seq
  apply wpS_region
  simp [wpOpsS, go_sem, recoverD, hu, Try.ntmps87, Exit.thenS, Try.underlying20]
  refine wpS_cond (t := true) (by simp [Act.eval, Array.replicate]) ?_
  simp only [if_true]
  apply wpS_seq
  apply wpS_region
  simp [wpOpsS, go_sem, run_ta28, hc, hz, bodyPostS, results, Try.results87, Exit.thenS, Try.underlying28, Try.sizeOf28]
  apply wpS_region
  simp [wpOpsS, go_sem, hf, hc, hz, bodyPostS, results, Try.results87, Exit.thenS, Oper.upon]
  refine hcl.mono ?_
  rintro e w' ⟨rfl, h⟩
  exact ⟨rfl, h⟩

theorem conc28 : Try.prog.concrete 28 = true := by simp [Program.concrete, Try.underlying28]

theorem must44 (b : Bool) (n : Int) (w : World) (R : Ending → World → Prop) (h1 : b = true → R (.returned unit) w) (h2 : b = false → R (.panicked [pe n false]) w) : Calls Try.prog 44 #[.bool b, .int .i64 n] w R := by
  refine c44 _ _ _ _ ?_
  unfold vc44
  refine kUn_not (kIf_b (fun h => ?_) (fun h => ?_))
  · refine kMkI_c conc28 (kPanic_i ?_)
    exact h2 (by simpa using h)
  · exact h1 (by simpa using h)
theorem must54 (b : Bool) (n : Int) (w : World) (R : Ending → World → Prop) (h1 : b = true → R (.returned unit) w) (h2 : b = false → R (.panicked [pe n false]) w) : Calls Try.prog 54 #[.bool b, .int .i64 n] w R := by
  refine c54 _ _ _ _ ?_
  unfold vc54
  refine kUn_not (kIf_b (fun h => ?_) (fun h => ?_))
  · refine kMkI_c conc28 (kPanic_i ?_)
    exact h2 (by simpa using h)
  · exact h1 (by simpa using h)
theorem must120 (b : Bool) (n : Int) (w : World) (R : Ending → World → Prop) (h1 : b = true → R (.returned unit) w) (h2 : b = false → R (.panicked [pe n false]) w) : Calls Try.prog 120 #[.bool b, .int .i64 n] w R := by
  refine c120 _ _ _ _ ?_
  unfold vc120
  refine kUn_not (kIf_b (fun h => ?_) (fun h => ?_))
  · refine kMkI_c conc28 (kPanic_i ?_)
    exact h2 (by simpa using h)
  · exact h1 (by simpa using h)
end Go.L
namespace Go.L
open Go Go.RowKit Go.Proofs
set_option linter.unusedSimpArgs false

abbrev AV := Int × Int × ByteArray
def vVal (r : AV) : Value := .agg #[.int .i64 r.1, .int .i64 r.2.1, .string r.2.2]
def vInt (i : Int) : Value := .int .i64 i
def flat (vs : List Value) : List Value := vs.flatMap (·.cells.toList)

theorem bytes_toList_inj {a b : ByteArray} : a.toList = b.toList ↔ a = b := by
  rw [ByteArray.toList_eq, ByteArray.toList_eq]
  obtain ⟨⟨x⟩⟩ := a
  obtain ⟨⟨y⟩⟩ := b
  simp

theorem eq49 (a b : AV) (ox oy : Operand) (w : World) : (do eqGuard .eql 49 ox oy (vVal a) (vVal b); binOp .eql 49 (vVal a) (vVal b) : Sem Value).run Try.prog w = .ok (.bool (decide (a = b))) w := by
  obtain ⟨a1, a2, a3⟩ := a
  obtain ⟨b1, b2, b3⟩ := b
  simp [go_sem, vVal, Try.underlying49, Try.eqGuardType49, Try.stoodInHeld49, Try.underlying47, Try.underlying2, Try.underlying9, Op.eqFields, bytes_toList_inj]
  by_cases h1 : a1 = b1 <;> by_cases h2 : a2 = b2 <;> by_cases h3 : a3 = b3 <;> simp [h1, h2, h3]
theorem ne49 (a b : AV) (ox oy : Operand) (w : World) : (do eqGuard .neq 49 ox oy (vVal a) (vVal b); binOp .neq 49 (vVal a) (vVal b) : Sem Value).run Try.prog w = .ok (.bool (!decide (a = b))) w := by
  obtain ⟨a1, a2, a3⟩ := a
  obtain ⟨b1, b2, b3⟩ := b
  simp [go_sem, vVal, Try.underlying49, Try.eqGuardType49, Try.stoodInHeld49, Try.underlying47, Try.underlying2, Try.underlying9, Op.eqFields, bytes_toList_inj]
  by_cases h1 : a1 = b1 <;> by_cases h2 : a2 = b2 <;> by_cases h3 : a3 = b3 <;> simp [h1, h2, h3]

section
variable {c : Cx} {w : World} {k : Value → World → Prop} {t : TypeId}
theorem kEq_49 {X : Chain → World → Prop} {q : Bool} {a b : AV} {ox oy : Operand} (h : k (.bool (decide (a = b))) w) : kEq ⟨Try.prog, X, q⟩ w .eql 49 ox oy (vVal a) (vVal b) k := ⟨kVal_pure (c := ⟨Try.prog, X, q⟩) (fun w' => by exact eq49 a b ox oy w') h⟩
theorem kNe_49 {X : Chain → World → Prop} {q : Bool} {a b : AV} {ox oy : Operand} (h : k (.bool (!decide (a = b))) w) : kEq ⟨Try.prog, X, q⟩ w .neq 49 ox oy (vVal a) (vVal b) k := ⟨kVal_pure (c := ⟨Try.prog, X, q⟩) (fun w' => by exact ne49 a b ox oy w') h⟩
theorem eqGuard_str (op : BinOp) (ox oy : Operand) (a : ByteArray) (v : Value) : eqGuard op t ox oy (.string a) v = pure () := by cases op <;> rfl
theorem kEq_str {a b : ByteArray} {ox oy : Operand} (h : k (.bool (decide (a = b))) w) : kEq c w .eql t ox oy (.string a) (.string b) k :=
  ⟨kVal_pure (fun w' => by
    rw [eqGuard_str, binOp_string_eql]
    have : (a.toList == b.toList) = decide (a = b) := by
      by_cases hab : a = b
      · subst hab; simp
      · have : a.toList ≠ b.toList := fun h => hab (bytes_toList_inj.1 h)
        simp [this, hab]
    rw [this]; rfl) h⟩
theorem kNe_str {a b : ByteArray} {ox oy : Operand} (h : k (.bool (!decide (a = b))) w) : kEq c w .neq t ox oy (.string a) (.string b) k :=
  ⟨kVal_pure (fun w' => by
    rw [eqGuard_str, binOp_string_neq]
    have : (a.toList == b.toList) = decide (a = b) := by
      by_cases hab : a = b
      · subst hab; simp
      · have : a.toList ≠ b.toList := fun h => hab (bytes_toList_inj.1 h)
        simp [this, hab]
    rw [this]; rfl) h⟩
theorem kIf_nd {p : Prop} [Decidable p] {A B : Prop} (h1 : ¬ p → A) (h2 : p → B) : kIf (.bool (!decide p)) A B :=
  kIf_b (fun h => h1 (by simpa using h)) (fun h => h2 (by simpa using h))
theorem kIf_eq {a b : Int} {A B : Prop} (h1 : a = b → A) (h2 : a ≠ b → B) : kIf (.bool (a == b)) A B :=
  kIf_b (fun h => h1 (by simpa using h)) (fun h => h2 (by simpa using h))
theorem kIf_ne {a b : Int} {A B : Prop} (h1 : a ≠ b → A) (h2 : a = b → B) : kIf (.bool (a != b)) A B :=
  kIf_b (fun h => h1 (by simpa using h)) (fun h => h2 (by simpa using h))
theorem kBin_and {q : IntKind} {a b : Int} (h : k (.int q (bits .and q a b)) w) : kBin c w .and t (.int q a) (.int q b) k := ⟨kVal_pure (fun _ => by rw [binOp_and, intBits_and]; rfl) h⟩
end

/-- The three fields of an api.Value. -/
theorem kFa49 {X : Chain → World → Prop} {q : Bool} {w : World} {b o : Nat} {k : Value → World → Prop} (f : Nat) (hf : f < 3) (h : k (.pointer (some ⟨b, o + f, none⟩)) w) : kFa ⟨Try.prog, X, q⟩ w 49 (.pointer (some ⟨b, o, none⟩)) f k := by
  have : f = 0 ∨ f = 1 ∨ f = 2 := by omega
  rcases this with rfl | rfl | rfl
  · exact kFa_i (c := ⟨Try.prog, X, q⟩) Try.underlying49 rfl (n := 0) Try.sizeOf47 h
  · exact kFa_i (c := ⟨Try.prog, X, q⟩) Try.underlying49 rfl (n := 0) Try.sizeOf2 h
  · exact kFa_i (c := ⟨Try.prog, X, q⟩) Try.underlying49 rfl (n := 0) Try.sizeOf9 h

/-- Types of one cell. -/
def scal (t : TypeId) : Bool := t == 2 || t == 3 || t == 4 || t == 5 || t == 9 || t == 22 || t == 23 || t == 24 || t == 27 || t == 28 || t == 38 || t == 47 || t == 84
theorem scal_agg {t : TypeId} (h : scal t = true) (w : World) : (isAgg t).run Try.prog w = .ok false w := by
  simp only [scal, Bool.or_eq_true, beq_iff_eq] at h
  rcases h with (((((((((((rfl | rfl) | rfl) | rfl) | rfl) | rfl) | rfl) | rfl) | rfl) | rfl) | rfl) | rfl) | rfl
  · exact Try.isAgg2 w
  · exact Try.isAgg3 w
  · exact Try.isAgg4 w
  · exact Try.isAgg5 w
  · exact Try.isAgg9 w
  · exact Try.isAgg22 w
  · exact Try.isAgg23 w
  · exact Try.isAgg24 w
  · exact Try.isAgg27 w
  · exact Try.isAgg28 w
  · exact Try.isAgg38 w
  · exact Try.isAgg47 w
  · exact Try.isAgg84 w
theorem scal_size {t : TypeId} (h : scal t = true) (w : World) : (sizeOf t).run Try.prog w = .ok 1 w := by
  simp only [scal, Bool.or_eq_true, beq_iff_eq] at h
  rcases h with (((((((((((rfl | rfl) | rfl) | rfl) | rfl) | rfl) | rfl) | rfl) | rfl) | rfl) | rfl) | rfl) | rfl
  · exact Try.sizeOf2 w
  · exact Try.sizeOf3 w
  · exact Try.sizeOf4 w
  · exact Try.sizeOf5 w
  · exact Try.sizeOf9 w
  · exact Try.sizeOf22 w
  · exact Try.sizeOf23 w
  · exact Try.sizeOf24 w
  · exact Try.sizeOf27 w
  · exact Try.sizeOf28 w
  · exact Try.sizeOf38 w
  · exact Try.sizeOf47 w
  · exact Try.sizeOf84 w
theorem kLd {X : Chain → World → Prop} {q : Bool} {w0 w : World} {L : List Own} {k : Value → World → Prop} {t' : TypeId} (hS : St w0 L w) (i : Nat) {b : Nat} {t : TypeId} {cs : Array Value} (hi : L[i]? = some (.bx b t cs)) {off : Nat} {v : Value} (hv : cs[off]? = some v) (ht : scal t' = true) (h : k v w) :
    kLoad ⟨Try.prog, X, q⟩ w t' (.pointer (some ⟨b, off, none⟩)) k := kLoad_st (c := ⟨Try.prog, X, q⟩) hS i hi hv (scal_agg ht) h
theorem kLen9 {X : Chain → World → Prop} {q : Bool} {w : World} {k : Value → World → Prop} {ty : TypeId} {s : ByteArray} {cs : Array Bool} (h : k (.int .i64 s.size) w) : kBlt ⟨Try.prog, X, q⟩ w .len #[9] ty cs #[.string s] k := kLen_str (c := ⟨Try.prog, X, q⟩) Try.underlying9 h
theorem kLen22 {X : Chain → World → Prop} {q : Bool} {w : World} {k : Value → World → Prop} {ty : TypeId} {o : Option Addr} {n cp : Nat} {cs : Array Bool} (h : k (.int .i64 n) w) : kBlt ⟨Try.prog, X, q⟩ w .len #[22] ty cs #[.slice o n cp] k := kLen_sl (c := ⟨Try.prog, X, q⟩) Try.underlying22 h
theorem kLen23 {X : Chain → World → Prop} {q : Bool} {w : World} {k : Value → World → Prop} {ty : TypeId} {o : Option Addr} {n cp : Nat} {cs : Array Bool} (h : k (.int .i64 n) w) : kBlt ⟨Try.prog, X, q⟩ w .len #[23] ty cs #[.slice o n cp] k := kLen_sl (c := ⟨Try.prog, X, q⟩) Try.underlying23 h
theorem kLen24 {X : Chain → World → Prop} {q : Bool} {w : World} {k : Value → World → Prop} {ty : TypeId} {o : Option Addr} {n cp : Nat} {cs : Array Bool} (h : k (.int .i64 n) w) : kBlt ⟨Try.prog, X, q⟩ w .len #[24] ty cs #[.slice o n cp] k := kLen_sl (c := ⟨Try.prog, X, q⟩) Try.underlying24 h
theorem kLen38 {X : Chain → World → Prop} {q : Bool} {w : World} {k : Value → World → Prop} {ty : TypeId} {o : Option Addr} {n cp : Nat} {cs : Array Bool} (h : k (.int .i64 n) w) : kBlt ⟨Try.prog, X, q⟩ w .len #[38] ty cs #[.slice o n cp] k := kLen_sl (c := ⟨Try.prog, X, q⟩) Try.underlying38 h

theorem kSt {X : Chain → World → Prop} {w0 w : World} {L : List Own} {t' : TypeId} {k : World → Prop} (hS : St w0 L w) (i : Nat) {b : Nat} {t : TypeId} {cs : Array Value} (hi : L[i]? = some (.bx b t cs)) {off : Nat} (hoff : off < cs.size) {v : Value} (hv : v.cells = #[v]) (h1 : v.oneCell' = true) (ht : scal t' = true)
    (h : ∀ W, St w0 (L.set i (.bx b t (cs.setIfInBounds off v))) W → k W) : kStore ⟨Try.prog, X, false⟩ w t' (.pointer (some ⟨b, off, none⟩)) v k := kStore_st hS i hi hoff hv h1 (scal_size ht) h

/-- What Check answers. -/
def checkE (r : AV) : Int :=
  if 1000 < r.2.2.size then 3
  else if r.1 < 0 ∨ 4 < r.1 ∨ (r.1 < 3 ∧ r.2.2 ≠ ⟨#[]⟩) ∨ (r.1 ≠ 1 ∧ r.1 ≠ 2 ∧ r.2.1 ≠ 0) ∨ (r.1 = 1 ∧ r.2.1 ≠ 0 ∧ r.2.1 ≠ 1) then 2 else 0

theorem refCheck (r : AV) (w : World) : Calls Try.prog 64 #[vVal r] w fun e w' => Below w.heap.size w w' ∧ e = .returned (.int .i64 (checkE r)) := by
  obtain ⟨t, n, s⟩ := r
  refine c64 _ _ _ _ _ ?_
  unfold vc64
  refine kBox_st (St.start w) fun b W hS => ?_
  repeat' (first
    | refine kFa49 _ (by omega) ?_
    | refine kLd hS 0 rfl rfl rfl ?_
    | refine kLen9 ?_
    | refine kBin_gtr ?_
    | refine kBin_lss ?_
    | refine kNe_int ?_
    | refine kEq_int ?_
    | refine kNe_str ?_
    | refine kIf_t ?_
    | refine kIf_f ?_
    | refine kIf_d (fun h => ?_) (fun h => ?_)
    | refine kIf_nd (fun h => ?_) (fun h => ?_)
    | refine kIf_ne (fun h => ?_) (fun h => ?_)
    | refine kIf_eq (fun h => ?_) (fun h => ?_))
  all_goals refine ⟨hS.below, ?_⟩
  all_goals (congr 2; simp only [checkE])
  all_goals grind
end Go.L
namespace Go.L
open Go Go.RowKit Go.Proofs
set_option linter.unusedSimpArgs false

theorem bits_and_one (n : Int) : bits .and .i64 n 1 = n % 2 := by
  have h1 : ((BitVec.ofInt 64 n) &&& (BitVec.ofInt 64 1)).toNat = (BitVec.ofInt 64 n).toNat % 2 := by
    rw [BitVec.toNat_and]
    show (BitVec.ofInt 64 n).toNat &&& 1 = _
    exact Nat.and_one_is_mod _
  have h2 : (BitVec.ofInt 64 n).toNat = (n % 18446744073709551616).toNat := by simp [BitVec.toNat_ofInt]
  have h3 : ((BitVec.ofInt IntKind.i64.bits n) &&& (BitVec.ofInt IntKind.i64.bits 1)).toNat = (n % 18446744073709551616).toNat % 2 := by
    rw [← h2]; exact h1
  simp only [bits, h3]
  simp [IntKind.wrap, IntKind.bits, IntKind.signed]
  omega

def bareOf (r : AV) : AV := (r.1, if r.1 = 1 then r.2.1 % 2 else if r.1 = 2 then r.2.1 else 0, if r.1 = 3 ∨ r.1 = 4 then r.2.2 else ⟨#[]⟩)

theorem checkE_bare (r : AV) (h : r.2.2.size ≤ 1000) : checkE r = if r = bareOf r ∧ 0 ≤ r.1 ∧ r.1 ≤ 4 then 0 else 2 := by
  obtain ⟨t, n, s⟩ := r
  have he : s.size ≤ 1000 := h
  simp only [checkE, bareOf, Prod.mk.injEq, true_and]
  rw [if_neg (by omega)]
  grind

theorem kJn_inv {f : (List Value → World → Prop) → Prop} {a : List Value → World → Prop} (I : List Value → World → Prop) (ha : ∀ cs W, I cs W → a cs W) (hf : ∀ J, (∀ cs W, I cs W → J cs W) → f J) : kJn f a := ⟨hf _ ha⟩

theorem built49 (t : Int) : Try.prog.built 49 [(0, .int .i64 t)] = some #[.int .i64 t, .int .i64 0, .string ⟨#[]⟩] := by
  have h1 := info_of (Try.typeInfo49 default)
  have h2 := info_of (Try.typeInfo47 default)
  have h3 := info_of (Try.typeInfo2 default)
  have h4 := info_of (Try.typeInfo9 default)
  simp [Program.built, h1, Try.underlying49, Try.t49, h2, h3, h4, Try.t47, Try.t2, Try.t9, Instr.fill]
  exact ⟨⟨rfl, Nat.le_of_ble_eq_true rfl⟩, rfl⟩

theorem right89 (r : AV) (w : World) (R : Ending → World → Prop) (h0 : checkE r = 0 → ∀ W, Below w.heap.size w W → R (.returned unit) W) (h1 : checkE r ≠ 0 → ∀ W, Below w.heap.size w W → R (.panicked [pe (checkE r) false]) W) :
    Calls Try.prog 89 #[vVal r] w R := by
  obtain ⟨t, n, s⟩ := r
  refine c89 _ _ _ _ _ ?_
  unfold vc89
  refine kBox_st (St.start w) fun b W hS => ?_
  refine kFa49 _ (by omega) (kLd hS 0 rfl rfl rfl (kLen9 (kBin_leq (kCall_i (Try.call120 _ _) (must120 _ _ _ _ (fun hl => ?_) (fun hl => ?_))))))
  · have hl : s.size ≤ 1000 := by simp at hl; omega
    have hce := checkE_bare (t, n, s) hl
    refine kFa49 _ (by omega) (kLd hS 0 rfl rfl rfl (kBuild_i (cs := #[.int .i64 t, .int .i64 0, .string ⟨#[]⟩]) (built49 t) (kAlloc_st Try.zeroValue49 hS fun b2 W hS => kStoreA_st hS 1 rfl rfl (by simp [Value.oneCell']) Try.sizeOf49 fun W hS => ?_)))
    refine kJn_inv (fun cs W => St w [.bx b 49 (vVal (t, n, s)).cells, .bx b2 49 (vVal (bareOf (t, n, s))).cells] W) ?_ ?_
    · intro cs W hS ds
      refine kLoadA_st hS 1 rfl Try.underlying49 rfl Try.sizeOf49 rfl (kLoadA_st hS 0 rfl Try.underlying49 rfl Try.sizeOf49 rfl (kEq_49 (a := bareOf (t, n, s)) (b := (t, n, s)) (kIf_d (fun h => ?_) (fun h => ?_))))
      · refine kFa49 _ (by omega) (kLd hS 0 rfl rfl rfl (kBin_geq (kIf_d (fun h2 => ?_) (fun h2 => ?_))))
        · refine kFa49 _ (by omega) (kLd hS 0 rfl rfl rfl (kBin_leq (kCall_i (Try.call120 _ _) (must120 _ _ _ _ (fun hl => ?_) (fun hl => ?_)))))
          · exact h0 (by rw [hce, if_pos ⟨h.symm, by simpa using h2, by simpa using hl⟩]) _ hS.below
          · have : checkE (t, n, s) = 2 := by rw [hce, if_neg]; intro hh; simp at hl; have := hh.2.2; simp at this; omega
            have h3 := h1 (by omega) _ hS.below; rw [this] at h3; exact h3
        · refine kCall_i (Try.call120 _ _) (must120 _ _ _ _ (fun hl => by cases hl) (fun hl => ?_))
          have : checkE (t, n, s) = 2 := by rw [hce, if_neg]; intro hh; exact h2 (by simpa using hh.2.1)
          have h3 := h1 (by omega) _ hS.below; rw [this] at h3; exact h3
      · refine kCall_i (Try.call120 _ _) (must120 _ _ _ _ (fun hl => by cases hl) (fun hl => ?_))
        have : checkE (t, n, s) = 2 := by rw [hce, if_neg]; intro hh; exact h hh.1.symm
        have h3 := h1 (by omega) _ hS.below; rw [this] at h3; exact h3
    · intro J hJ
      refine kFa49 _ (by omega) (kLd hS 0 rfl rfl rfl (kEq_int (kIf_eq (fun e1 => ?_) (fun e1 => ?_))))
      · refine kFa49 _ (by omega) (kLd hS 0 rfl rfl rfl (kBin_and (kFa49 _ (by omega) (kSt hS 1 rfl (by simp) rfl rfl rfl fun W hS => kD_i (hJ _ _ ?_)))))
        have e1 : t = 1 := e1
        subst e1
        rw [bits_and_one] at hS
        exact hS
      refine kEq_int (kIf_eq (fun e2 => ?_) (fun e2 => ?_))
      · refine kFa49 _ (by omega) (kLd hS 0 rfl rfl rfl (kFa49 _ (by omega) (kSt hS 1 rfl (by simp) rfl rfl rfl fun W hS => kD_i (hJ _ _ ?_))))
        have e2 : t = 2 := e2
        subst e2
        exact hS
      refine kJn_inv (fun cs W => St w [.bx b 49 (vVal (t, n, s)).cells, .bx b2 49 #[.int .i64 t, .int .i64 0, .string ⟨#[]⟩]] W ∧ cs = [.bool (decide (t = 3 ∨ t = 4))]) ?_ ?_
      · rintro cs W ⟨hS, rfl⟩ ds
        refine kIf_d (fun e3 => ?_) (fun e3 => ?_)
        · refine kFa49 _ (by omega) (kLd hS 0 rfl rfl rfl (kFa49 _ (by omega) (kSt hS 1 rfl (by simp) rfl rfl rfl fun W hS => kD_i (hJ _ _ ?_))))
          have : vVal (bareOf (t, n, s)) = .agg #[.int .i64 t, .int .i64 0, .string s] := by
            have h1 : t ≠ 1 := e1
            have h2 : t ≠ 2 := e2
            simp [vVal, bareOf, h1, h2, e3]
          rw [this]; exact hS
        · refine kD_i (hJ _ _ ?_)
          have : vVal (bareOf (t, n, s)) = .agg #[.int .i64 t, .int .i64 0, .string ⟨#[]⟩] := by
            have h1 : t ≠ 1 := e1
            have h2 : t ≠ 2 := e2
            simp [vVal, bareOf, h1, h2, e3]
          rw [this]; exact hS
      · intro J1 hJ1
        refine kEq_int (kIf_eq (fun e3 => ?_) (fun e3 => ?_))
        · have e3 : t = 3 := e3
          exact kD_i (hJ1 _ _ ⟨hS, by subst e3; rfl⟩)
        · have e3 : t ≠ 3 := e3
          refine kEq_int (kD_i (hJ1 _ _ ⟨hS, ?_⟩))
          by_cases e4 : t = 4
          · subst e4; rfl
          · simp [e3, e4]
  · have : checkE (t, n, s) = 3 := by simp [checkE]; simp at hl; omega
    have h2 := h1 (by omega) _ hS.below
    rw [this] at h2; exact h2
end Go.L
namespace Go.L
open Go Go.RowKit Go.Proofs
set_option linter.unusedSimpArgs false

theorem St.setCell {w0 w : World} {L : List Own} (hS : St w0 L w) (i : Nat) {b : Nat} {t : TypeId} {cs : Array Value} (hi : L[i]? = some (.bx b t cs)) (off : Nat) (v : Value) : St w0 (L.set i (.bx b t (cs.setIfInBounds off v))) (w.setCell ⟨b, off, none⟩ v) := by
  have hg := hS.get i hi
  have hheap : (w.setCell ⟨b, off, none⟩ v).heap[b]? = some (.cells (cs.setIfInBounds off v) t (0, 0)) := by
    simp [World.setCell, Array.getElem?_modify, hg.2]
  refine hS.set i hi ?_ ⟨hg.1, hheap⟩ (.inl rfl)
  refine ⟨rfl, rfl, rfl, by simp [World.setCell], fun k hk hne => ?_⟩
  exact Below.heap_setCell w ⟨b, off, none⟩ v k (fun e => hne (by rw [e]; rfl))
theorem St.unfrozen {w0 w : World} {L : List Own} (hS : St w0 L w) (i : Nat) {b : Nat} {t : TypeId} {cs : Array Value} (hi : L[i]? = some (.bx b t cs)) (off : Nat) : w.frozen? ⟨b, off, none⟩ = false := by
  simp [World.frozen?, (hS.get i hi).2]

theorem RetK_cell {R : Ending → World → Prop} {w : World} {a : Addr} {t : TypeId} {v : Value} (ht : scal t = true) (hc : w.cell? a = some v) (h : R (.returned v) w) : RetK Try.prog [.cell (.pointer (some a)) t] R w :=
  ⟨v, by simp [resSem, asAddr, loadVar, scal_agg ht, hc], h⟩

theorem Lv_ret87 {p c : Value} {rs : List RV} {R : Ending → World → Prop} {w : World} (h : RetK Try.prog rs R w) : Lv Try.prog rs R [{ target := .fn (.func 87) #[], args := #[p, c] }] .returning w :=
  ⟨rfl, Try.call87, (caught_idle87 p c w).mono (by rintro e u' w' ⟨rfl, rfl, rfl⟩; exact h)⟩
theorem Lv_pan87 {w0 : World} {L : List Own} {rs : List RV} {R : Ending → World → Prop} {w : World} (hS : St w0 L w) (i : Nat) {b : Nat} {t : TypeId} {x n : Int} (hi : L[i]? = some (.bx b t #[.int .i64 x]))
    {fc : FuncId} {caps : Array Value} (Rc : World → Prop) (hf : ∀ args w, (callFunc fc args).run Try.prog w = .ok (.enter fc args) w)
    (hcl : ∀ W, St w0 (L.set i (.bx b t #[.int .i64 n])) W → Calls Try.prog fc caps W fun e w' => e = .returned unit ∧ Rc w') (h : ∀ W, Rc W → RetK Try.prog rs R W) :
    Lv Try.prog rs R [{ target := .fn (.func 87) #[], args := #[.pointer (some ⟨b, 0, none⟩), .func (.func fc) #[] caps] }] (.panicking [pe n false]) w :=
  ⟨rfl, Try.call87, (caught_panics87 ⟨b, 0, none⟩ x n fc caps Rc w (hS.cell i hi 0 rfl) (hS.unfrozen i hi 0) hf (hcl _ (hS.setCell i hi 0 _))).mono (by rintro e u' w' ⟨rfl, rfl, hR⟩; exact h _ hR)⟩

theorem check57 (r : AV) (w : World) (R : Ending → World → Prop) (h : ∀ W, Below w.heap.size w W → R (.returned (.int .i64 (checkE r))) W) : Calls Try.prog 57 #[vVal r] w R := by
  refine c57 _ _ _ _ _ ?_
  unfold vc57
  refine kBox_st (St.start w) fun b W hS => kAlloc_st Try.zeroValue28 hS fun b2 W hS => ?_
  refine kLoadA_st (c := ⟨Try.prog, _, false⟩) hS 0 rfl Try.underlying49 rfl Try.sizeOf49 rfl ?_
  refine kCall_i (Try.call89 _ _) (right89 r _ _ (fun he W hB => ?_) (fun he W hB => ?_))
  · have hS := hS.bel hB
    refine kSt hS 1 rfl (by simp [Value.cells]) rfl rfl rfl fun W hS => Lv_ret87 (RetK_cell rfl (hS.cell 1 rfl 0 rfl) ?_)
    rw [he] at h
    exact h _ hS.below
  · have hS := hS.bel hB
    refine Lv_pan87 hS 1 rfl (fun W => St w [Own.bx b 49 (vVal r).cells, Own.bx b2 28 #[.int .i64 (checkE r)]] W) Try.call88 (fun W hS => ?_) (fun W hS => RetK_cell rfl (hS.cell 1 rfl 0 rfl) (h _ hS.below))
    refine c88 _ _ ⟨rfl, hS⟩
end Go.L
namespace Go.L
open Go Go.RowKit Go.Proofs
set_option linter.unusedSimpArgs false

def isB (r : AV) (t : Int) : Bool := decide (checkE r = 0 ∧ 1 ≤ t ∧ t ≤ 4 ∧ (r.1 = t ∨ r.1 = 0))

theorem refCheckK (r : AV) (w : World) (R : Ending → World → Prop) (h : ∀ W, Below w.heap.size w W → R (.returned (.int .i64 (checkE r))) W) : Calls Try.prog 64 #[vVal r] w R :=
  (refCheck r w).mono (by rintro e W ⟨hB, rfl⟩; exact h W hB)

theorem is37 (r : AV) (t : Int) (w : World) (R : Ending → World → Prop) (h : ∀ W, Below w.heap.size w W → R (.returned (.bool (isB r t))) W) : Calls Try.prog 37 #[vVal r, .int .i64 t] w R := by
  refine c37 _ _ _ _ _ _ ?_
  unfold vc37
  refine kBox_st (St.start w) fun b W hS => kJn_inv (fun cs W => St w [.bx b 49 (vVal r).cells] W ∧ checkE r = 0 ∧ 1 ≤ t ∧ t ≤ 4) ?_ ?_
  · rintro cs W ⟨hS, h1, h2, h3⟩ ds
    refine kFa49 _ (by omega) (kLd hS 0 rfl rfl rfl (kEq_int (kIf_eq (fun e => ?_) (fun e => ?_))))
    · have := h _ hS.below
      rw [show isB r t = true by simp [isB, h1, h2, h3, e]] at this
      exact this
    · refine kFa49 _ (by omega) (kLd hS 0 rfl rfl rfl (kEq_int ?_))
      have := h _ hS.below
      rw [show isB r t = (r.1 == t) by simp [isB, h1, h2, h3, e]; by_cases e2 : r.1 = t <;> simp [e2]] at this
      exact this
  · intro J hJ
    have bad : ¬ (checkE r = 0 ∧ 1 ≤ t ∧ t ≤ 4) → ∀ W, Below w.heap.size w W → R (.returned (.bool false)) W := fun hb W hB => by
      have := h _ hB
      rw [show isB r t = false by simp only [isB, decide_eq_false_iff_not]; intro hh; exact hb ⟨hh.1, hh.2.1, hh.2.2.1⟩] at this
      exact this
    refine kBin_leq (kIf_d (fun e => kIf_t (bad (by omega) _ hS.below)) (fun e => kBin_gtr (kIf_d (fun e2 => kIf_t (bad (by omega) _ hS.below)) (fun e2 => ?_))))
    refine kLoadA_st (c := ⟨Try.prog, _, false⟩) hS 0 rfl Try.underlying49 rfl Try.sizeOf49 rfl (kCall_i (Try.call57 _ _) (check57 r _ _ fun W hB => ?_))
    have hS := hS.bel hB
    refine kNe_int (kIf_ne (fun e3 => bad (by simp [e3]) _ hS.below) (fun e3 => kD_i (hJ _ _ ⟨hS, e3, by omega, by omega⟩)))

theorem is38 (r : AV) (t : Int) (w : World) (R : Ending → World → Prop) (h : ∀ W, Below w.heap.size w W → R (.returned (.bool (isB r t))) W) : Calls Try.prog 38 #[vVal r, .int .i64 t] w R := by
  refine c38 _ _ _ _ _ _ ?_
  unfold vc38
  have bad : ¬ (checkE r = 0 ∧ 1 ≤ t ∧ t ≤ 4) → ∀ W, Below w.heap.size w W → R (.returned (.bool false)) W := fun hb W hB => by
    have := h _ hB
    rw [show isB r t = false by simp only [isB, decide_eq_false_iff_not]; intro hh; exact hb ⟨hh.1, hh.2.1, hh.2.2.1⟩] at this
    exact this
  refine kBox_st (St.start w) fun b W hS => kLoadA_st (c := ⟨Try.prog, _, false⟩) hS 0 rfl Try.underlying49 rfl Try.sizeOf49 rfl (kCall_i (Try.call64 _ _) (refCheckK r _ _ fun W hB => ?_))
  have hS := hS.bel hB
  refine kEq_int (kIf_eq (fun e => ?_) (fun e => bad (by simp [e]) _ hS.below))
  refine kBin_geq (kIf_d (fun e1 => ?_) (fun e1 => bad (by omega) _ hS.below))
  refine kBin_leq (kIf_d (fun e2 => ?_) (fun e2 => bad (by omega) _ hS.below))
  refine kFa49 _ (by omega) (kLd hS 0 rfl rfl rfl (kEq_int (kIf_eq (fun e3 => ?_) (fun e3 => ?_))))
  · have := h _ hS.below
    rw [show isB r t = true by simp only [isB, decide_eq_true_eq]; exact ⟨e, by omega, by omega, .inl e3⟩] at this
    exact this
  · refine kFa49 _ (by omega) (kLd hS 0 rfl rfl rfl (kEq_int ?_))
    have := h _ hS.below
    rw [show isB r t = (r.1 == 0) by
      have e3 : r.1 ≠ t := e3
      simp only [isB, e, e3, false_or, true_and]
      by_cases h0 : r.1 = 0 <;> simp [h0] <;> omega] at this
    exact this

/-- Order of two numbers; of two values; of two rows (as the reference has it). -/
def ordN (a b : Int) : Int := if a < b then -1 else if a > b then 1 else 0
theorem num108 (a b : Int) (w : World) (R : Ending → World → Prop) (h : R (.returned (.int .i64 (ordN a b))) w) : Calls Try.prog 108 #[.int .i64 a, .int .i64 b] w R := by
  refine c108 _ _ _ _ ?_
  unfold vc108
  unfold ordN at h
  refine kBin_lss (kIf_d (fun e => ?_) (fun e => kBin_gtr (kIf_d (fun e2 => ?_) (fun e2 => ?_))))
  · rwa [if_pos e] at h
  · rwa [if_neg e, if_pos e2] at h
  · rwa [if_neg e, if_neg e2] at h
def ordS (a b : ByteArray) : Int := if Op.bytesLess a.toList b.toList then -1 else if ¬ (Op.bytesLess a.toList b.toList ∨ a = b) then 1 else 0
def ordV (a b : AV) : Int := if ordN a.1 b.1 ≠ 0 then ordN a.1 b.1 else if ordN a.2.1 b.2.1 ≠ 0 then ordN a.2.1 b.2.1 else ordS a.2.2 b.2.2
theorem ordV_zero (a b : AV) : ordV a b = 0 ↔ a = b := by
  obtain ⟨a1, a2, a3⟩ := a
  obtain ⟨b1, b2, b3⟩ := b
  have hn : ∀ x y : Int, ordN x y = 0 ↔ x = y := fun x y => by simp only [ordN]; constructor <;> intro h <;> (repeat' split at *) <;> omega
  have hs : ∀ x y : ByteArray, ordS x y = 0 ↔ x = y := fun x y => by
    have irr : ∀ l : List UInt8, Op.bytesLess l l = false := by
      intro l; induction l with
      | nil => rfl
      | cons c l ih => simp [Op.bytesLess, ih]
    simp only [ordS]
    constructor
    · intro h
      split at h
      · omega
      · rename_i h1
        split at h
        · omega
        · rename_i h2
          have := Decidable.not_not.1 h2
          rcases this with h3 | h3
          · exact absurd h3 h1
          · exact h3
    · rintro rfl; simp [irr]
  simp only [ordV, Prod.mk.injEq, ← hn a1 b1, ← hn a2 b2, ← hs a3 b3]
  constructor
  · intro h
    split at h
    · rename_i h1; exact absurd h h1
    · rename_i h1
      split at h
      · rename_i h2; exact absurd h h2
      · rename_i h2; exact ⟨Decidable.not_not.1 h1, Decidable.not_not.1 h2, h⟩
  · rintro ⟨h1, h2, h3⟩; simp [h1, h2, h3]
end Go.L
namespace Go.L
open Go Go.RowKit Go.Proofs
set_option linter.unusedSimpArgs false

section
variable {c : Cx} {w : World} {k : Value → World → Prop} {t : TypeId} {a b : ByteArray}
theorem kLss_str (h : k (.bool (Op.bytesLess a.toList b.toList)) w) : kBin c w .lss t (.string a) (.string b) k := ⟨kVal_pure (fun _ => by rw [binOp_string_lss]; rfl) h⟩
theorem kGtr_str (h : k (.bool !(Op.bytesLess a.toList b.toList || decide (a = b))) w) : kBin c w .gtr t (.string a) (.string b) k := ⟨kVal_pure (fun _ => by
  rw [binOp_string_gtr]
  have : (a.toList == b.toList) = decide (a = b) := by
    by_cases hab : a = b
    · subst hab; simp
    · have : a.toList ≠ b.toList := fun h => hab (bytes_toList_inj.1 h)
      simp [this, hab]
  rw [this]; rfl) h⟩
end

theorem ord71 (a b : AV) (w : World) (R : Ending → World → Prop) (h : ∀ W, Below w.heap.size w W → R (.returned (.int .i64 (ordV a b))) W) : Calls Try.prog 71 #[vVal a, vVal b] w R := by
  refine c71 _ _ _ _ _ _ _ _ ?_
  unfold vc71
  refine kBox_st (St.start w) fun b1 W hS => kBox_st hS fun b2 W hS => ?_
  refine kFa49 _ (by omega) (kLd hS 0 rfl rfl rfl (kFa49 _ (by omega) (kLd hS 1 rfl rfl rfl (kCall_i (Try.call108 _ _) (num108 _ _ _ _ ?_)))))
  refine kNe_int (kIf_ne (fun e => ?_) (fun e => ?_))
  · have := h _ hS.below; rw [ordV, if_pos e] at this; exact this
  refine kFa49 _ (by omega) (kLd hS 0 rfl rfl rfl (kFa49 _ (by omega) (kLd hS 1 rfl rfl rfl (kCall_i (Try.call108 _ _) (num108 _ _ _ _ ?_)))))
  refine kNe_int (kIf_ne (fun e2 => ?_) (fun e2 => ?_))
  · have := h _ hS.below; rw [ordV, if_neg (by simpa using e), if_pos e2] at this; exact this
  have hh := h _ hS.below
  rw [ordV, if_neg (by simpa using e), if_neg (by simpa using e2), ordS] at hh
  refine kFa49 _ (by omega) (kLd hS 0 rfl rfl rfl (kFa49 _ (by omega) (kLd hS 1 rfl rfl rfl (kLss_str (kIf_b (fun e3 => ?_) (fun e3 => ?_))))))
  · rw [if_pos e3] at hh; exact hh
  rw [if_neg (by simp; exact e3)] at hh
  refine kFa49 _ (by omega) (kLd hS 0 rfl rfl rfl (kFa49 _ (by omega) (kLd hS 1 rfl rfl rfl (kGtr_str (kIf_b (fun e4 => ?_) (fun e4 => ?_))))))
  · rw [if_pos (by simpa using e4)] at hh; exact hh
  · rw [if_neg (by
      intro hc
      simp only [Bool.not_eq_false', Bool.or_eq_true, decide_eq_true_eq] at e4
      exact hc e4)] at hh; exact hh

/-- The order of rows. -/
def ordL : List AV → List AV → Int
  | a :: x, b :: y => if ordV a b ≠ 0 then ordV a b else ordL x y
  | [], [] => 0
  | [], _ :: _ => -1
  | _ :: _, [] => 1
theorem ordL_zero : ∀ a b : List AV, ordL a b = 0 ↔ a = b
  | [], [] => by simp [ordL]
  | [], _ :: _ => by simp [ordL]
  | _ :: _, [] => by simp [ordL]
  | a :: x, b :: y => by
    simp only [ordL, List.cons.injEq, ← ordV_zero a b, ← ordL_zero x y]
    constructor
    · intro h
      split at h
      · rename_i h1; exact absurd h h1
      · rename_i h1; exact ⟨Decidable.not_not.1 h1, h⟩
    · rintro ⟨h1, h2⟩; simp [h1, h2]
theorem ordL_drop (a b : List AV) : ∀ i, (∀ j, j < i → ∃ x, a[j]? = some x ∧ b[j]? = some x) → ordL a b = ordL (a.drop i) (b.drop i)
  | 0, _ => rfl
  | i + 1, h => by
    rw [ordL_drop a b i (fun j hj => h j (by omega))]
    obtain ⟨x, ha, hb⟩ := h i (by omega)
    obtain ⟨hia, ha⟩ := List.getElem?_eq_some_iff.1 ha
    obtain ⟨hib, hb⟩ := List.getElem?_eq_some_iff.1 hb
    rw [List.drop_eq_getElem_cons hia, List.drop_eq_getElem_cons hib, ha, hb, ordL, if_neg (by simp [(ordV_zero x x).2 rfl])]

/-- A region that draws its order and only makes new things, each of its values known beforehand. -/
def PVals (w : World) (val : Nat → Value) : PInv := fun S vs W => Below w.heap.size w W ∧ ∀ j, S j = true → vs j = val j
theorem pv_step {w V V' : World} {S : Nat → Bool} {vs val : Nat → Value} {i : Nat} {v : Value} (h : PVals w val S vs V) (hB : Below V.heap.size V V') (hv : v = val i) : PVals w val (inc S i) (setV vs i v) V' :=
  ⟨h.1.trans (hB.mono h.1.size), fun j hj => by
    by_cases hji : j = i
    · subst hji; simpa [setV] using hv
    · simp only [inc, show (j == i) = false by simpa using hji, Bool.false_or] at hj
      simp only [setV, if_neg hji]; exact h.2 j hj⟩
theorem kPar_vals {w : World} {m : Nat} {D : List (List Nat)} {obl : PInv → ((Nat → Bool) → Prop) → Prop} {tail : (Nat → Value) → World → Prop} (val : Nat → Value) (h : obl (PVals w val) (Clo D))
    (ht : ∀ vs W, Below w.heap.size w W → (∀ j, j < m → vs j = val j) → tail vs W) : kPar w m D obl tail :=
  ⟨PVals w val, fun vs => ⟨⟨rfl, rfl, rfl, Nat.le_refl _, fun _ _ => rfl⟩, fun _ h => by cases h⟩, h, fun S vs W hI hS => ht vs W hI.1 fun j hj => hI.2 j (hS j hj)⟩
end Go.L
namespace Go.L
open Go Go.RowKit Go.Proofs
set_option linter.unusedSimpArgs false
set_option linter.unusedVariables false

theorem wrap_id {a : Int} (h0 : -9223372036854775808 ≤ a) (h1 : a ≤ 9223372036854775807) : IntKind.i64.wrap a = a := by
  simp [IntKind.wrap, IntKind.bits, IntKind.signed]; omega
theorem vVal_size (r : AV) : (vVal r).cells.size = 3 := rfl
theorem vVal_one (r : AV) : ∀ u ∈ (vVal r).cells.toList, u.oneCell' = true := by
  simp [vVal, Value.cells, Value.oneCell']

theorem kIa22 {X : Chain → World → Prop} {q : Bool} {w : World} {b o n cp : Nat} {i : Nat} {k : Value → World → Prop} (hi : i < n) (h : k (.pointer (some ⟨b, o + i * 3, none⟩)) w) : kIa ⟨Try.prog, X, q⟩ w 22 (.slice (some ⟨b, o, none⟩) n cp) (.int .i64 i) k :=
  kIa_sl (c := ⟨Try.prog, X, q⟩) Try.underlying22 Try.sizeOf49 hi h
theorem kLd49 {X : Chain → World → Prop} {q : Bool} {w : World} {b o : Nat} {r : AV} {k : Value → World → Prop} (hr : w.rangeAt b o (vVal r).cells.toList) (h : k (vVal r) w) : kLoad ⟨Try.prog, X, q⟩ w 49 (.pointer (some ⟨b, o, none⟩)) k :=
  kLoad_elt (c := ⟨Try.prog, X, q⟩) hr rfl Try.underlying49 rfl Try.typeInfo49 rfl h

theorem ord76 (a b : List AV) (w : World) (ao bo : Option Addr) (ac bc : Nat) (ha : Sl w ao 3 (a.map vVal)) (hb : Sl w bo 3 (b.map vVal)) (hal : a.length ≤ 1000000) (hbl : b.length ≤ 1000000) (R : Ending → World → Prop)
    (h : ∀ W, Below w.heap.size w W → R (.returned (.int .i64 (ordL a b))) W) : Calls Try.prog 76 #[.slice ao a.length ac, .slice bo b.length bc] w R := by
  refine c76 _ _ _ _ _ _ _ _ ?_
  unfold vc76
  refine ⟨⟨fun cs W => ∃ i : Nat, cs = [.int .i64 i] ∧ Below w.heap.size w W ∧ i ≤ a.length ∧ ∀ j, j < i → ∃ x, a[j]? = some x ∧ b[j]? = some x,
    fun cs _ => a.length - (match cs with | [.int _ i] => i.toNat | _ => 0), ⟨0, rfl, Below.refl _ _, by omega, fun j hj => by omega⟩, ?_⟩⟩
  rintro cs ds W ⟨i, rfl, hB, hile, hpre⟩
  dsimp only [List.getD_cons_zero]
  have tailA : ∀ W, Below w.heap.size w W → ¬ (i < a.length ∧ i < b.length) → kBlt (cR Try.prog R) W .len #[22] 3 #[false] #[(.slice ao a.length ac)] fun v32 w_15 =>
      kBlt (cR Try.prog R) w_15 .len #[22] 3 #[false] #[(.slice bo b.length bc)] fun v34 w_16 =>
      kBin (cR Try.prog R) w_16 .lss 3 v32 v34 fun v35 w_17 =>
      kIf v35 (R (.returned (.int .i64 (-1))) w_17) (
      kBlt (cR Try.prog R) w_17 .len #[22] 3 #[false] #[(.slice ao a.length ac)] fun v37 w_18 =>
      kBlt (cR Try.prog R) w_18 .len #[22] 3 #[false] #[(.slice bo b.length bc)] fun v39 w_19 =>
      kBin (cR Try.prog R) w_19 .gtr 3 v37 v39 fun v40 w_20 =>
      kIf v40 (R (.returned (.int .i64 1)) w_20) (R (.returned (.int .i64 0)) w_20)) := by
    intro W hB hn
    have hh := h W hB
    rw [ordL_drop a b i hpre] at hh
    have hib : i ≤ b.length := by
      rcases Nat.eq_zero_or_pos i with h0 | h0
      · omega
      · obtain ⟨x, _, hx⟩ := hpre (i - 1) (by omega)
        have := (List.getElem?_eq_some_iff.1 hx).1
        omega
    refine kLen22 (kLen22 (kBin_lss (kIf_d (fun e => ?_) (fun e => kLen22 (kLen22 (kBin_gtr (kIf_d (fun e2 => ?_) (fun e2 => ?_))))))))
    · have h1 : a.drop i = [] := List.drop_eq_nil_of_le (by omega)
      have h2 : i < b.length := by omega
      rw [h1, List.drop_eq_getElem_cons h2, ordL] at hh; exact hh
    · have h1 : b.drop i = [] := List.drop_eq_nil_of_le (by omega)
      have h2 : i < a.length := by omega
      rw [h1, List.drop_eq_getElem_cons h2, ordL] at hh; exact hh
    · have h1 : a.drop i = [] := List.drop_eq_nil_of_le (by omega)
      have h2 : b.drop i = [] := List.drop_eq_nil_of_le (by omega)
      rw [h1, h2, ordL] at hh; exact hh
  refine kJn_inv (fun cs W' => Below w.heap.size w W' ∧ i < a.length ∧ i < b.length) ?_ ?_
  · rintro cs W ⟨hB, hia, hib⟩ ds
    obtain ⟨pa, oa, rfl, hpa, hra⟩ := (ha.below hB).elem (i := i) (v := vVal a[i]) (by simp [hia])
    obtain ⟨pb, ob, rfl, hpb, hrb⟩ := (hb.below hB).elem (i := i) (v := vVal b[i]) (by simp [hib])
    refine ⟨rfl, kPar_vals (fun j => ([.slice (some ⟨pa, oa, none⟩) a.length ac, .int .i64 i, .pointer (some ⟨pa, oa + i * 3, none⟩), vVal a[i], .slice (some ⟨pb, ob, none⟩) b.length bc, .int .i64 i, .pointer (some ⟨pb, ob + i * 3, none⟩), vVal b[i], .int .i64 (ordV a[i] b[i])] : List Value).getD j undef) ?_ ?_⟩
    · refine ⟨fun S vs V hI _ _ hd => pv_step hI (Below.refl _ _) rfl, fun S vs V hI _ _ hd => pv_step hI (Below.refl _ _) rfl, fun S vs V hI _ _ hd => ?_, fun S vs V hI _ _ hd => ?_, fun S vs V hI _ _ hd => pv_step hI (Below.refl _ _) rfl, fun S vs V hI _ _ hd => pv_step hI (Below.refl _ _) rfl, fun S vs V hI _ _ hd => ?_, fun S vs V hI _ _ hd => ?_, fun S vs V hI _ _ hd => ?_, trivial⟩
      · rw [hI.2 0 (hd 0 (by simp)), hI.2 1 (hd 1 (by simp))]; exact kIa22 hia (pv_step hI (Below.refl _ _) rfl)
      · rw [hI.2 2 (hd 2 (by simp))]; exact kLd49 (rangeAt_keep hra (hI.1.block _ hpa)) (pv_step hI (Below.refl _ _) rfl)
      · rw [hI.2 4 (hd 4 (by simp)), hI.2 5 (hd 5 (by simp))]; exact kIa22 hib (pv_step hI (Below.refl _ _) rfl)
      · rw [hI.2 6 (hd 6 (by simp))]; exact kLd49 (rangeAt_keep hrb (hI.1.block _ hpb)) (pv_step hI (Below.refl _ _) rfl)
      · rw [hI.2 3 (hd 3 (by simp)), hI.2 7 (hd 7 (by simp))]; exact kCall_i (Try.call71 _ _) (ord71 _ _ _ _ fun V' hB' => pv_step hI hB' rfl)
    · intro vs V hG hd
      rw [hd 8 (by omega)]
      have hBV := hB.trans (hG.mono hB.size)
      refine kNe_int (kIf_ne (fun e => ?_) (fun e => kBin_add (kD_i ⟨⟨i + 1, by rw [wrap_id (by omega) (by omega)]; rfl, hBV, hia, fun j hj => ?_⟩, ?_⟩)))
      · have hh := h _ hBV
        rw [ordL_drop a b i hpre, List.drop_eq_getElem_cons hia, List.drop_eq_getElem_cons hib, ordL, if_pos e] at hh
        exact hh
      · by_cases hj2 : j < i
        · exact hpre j hj2
        · have : j = i := by omega
          subst this
          have := (ordV_zero _ _).1 e
          exact ⟨a[j], by simp [hia], by rw [this]; simp [hib]⟩
      · rw [wrap_id (by omega) (by omega)]; show a.length - ((i : Int) + 1).toNat < a.length - (i : Int).toNat; omega
  · intro J hJ
    refine kLen22 (kBin_lss (kIf_d (fun e => kLen22 (kBin_lss (kIf_d (fun e2 => kD_i (hJ _ _ ⟨hB, by omega, by omega⟩)) (fun e2 => tailA _ hB (by omega))))) (fun e => kIf_f (tailA _ hB (by omega)))))

theorem same35 (a b : List AV) (w : World) (ao bo : Option Addr) (ac bc : Nat) (ha : Sl w ao 3 (a.map vVal)) (hb : Sl w bo 3 (b.map vVal)) (hal : a.length ≤ 1000000) (hbl : b.length ≤ 1000000) (R : Ending → World → Prop)
    (h : ∀ W, Below w.heap.size w W → R (.returned (.bool (decide (a = b)))) W) : Calls Try.prog 35 #[.slice ao a.length ac, .slice bo b.length bc] w R := by
  refine c35 _ _ _ _ _ _ _ _ ?_
  unfold vc35
  refine kCall_i (Try.call76 _ _) (ord76 a b w ao bo ac bc ha hb hal hbl _ fun W hB => kEq_int ?_)
  have := h W hB
  have e : (ordL a b == 0) = decide (a = b) := by
    by_cases hab : a = b
    · simp [hab, (ordL_zero b b).2 rfl]
    · have : ordL a b ≠ 0 := fun h => hab ((ordL_zero a b).1 h)
      simp [hab, this]
  rw [e]; exact this
theorem same14 (a b : List AV) (w : World) (ao bo : Option Addr) (ac bc : Nat) (ha : Sl w ao 3 (a.map vVal)) (hb : Sl w bo 3 (b.map vVal)) (hal : a.length ≤ 1000000) (hbl : b.length ≤ 1000000) (R : Ending → World → Prop)
    (h : ∀ W, Below w.heap.size w W → R (.returned (.bool (decide (a = b)))) W) : Calls Try.prog 14 #[.slice ao a.length ac, .slice bo b.length bc] w R := by
  refine c14 _ _ _ _ _ _ _ _ ?_
  unfold vc14
  exact kCall_i (Try.call35 _ _) (same35 a b w ao bo ac bc ha hb hal hbl _ h)
end Go.L
namespace Go.L
open Go Go.RowKit Go.Proofs
set_option linter.unusedSimpArgs false
set_option linter.unusedVariables false

theorem num15 (n : Int) (w : World) (R : Ending → World → Prop) (h : R (.returned (.int .i64 n)) w) : Calls Try.prog 15 #[.int .i64 n] w R := c15 _ _ _ h

theorem few10 (l : List AV) (w : World) (lo : Option Addr) (lc : Nat) (hl : Sl w lo 3 (l.map vVal)) (hb : l.length ≤ 9223372036854775807) (R : Ending → World → Prop)
    (h : R (.returned (.bool (decide ((∀ r ∈ l, r.2.2.size ≤ 1100) ∧ l.length ≤ 40)))) w) : Calls Try.prog 10 #[.slice lo l.length lc] w R := by
  refine c10 _ _ _ _ _ ?_
  unfold vc10
  refine ⟨⟨fun cs W => ∃ i : Nat, cs = [.int .i64 i] ∧ W = w ∧ i ≤ l.length ∧ ∀ r ∈ l.take i, r.2.2.size ≤ 1100, fun cs _ => l.length - (match cs with | [.int _ i] => i.toNat | _ => 0), ⟨0, rfl, rfl, by omega, by simp⟩, ?_⟩⟩
  rintro cs ds W ⟨i, rfl, rfl, hile, hpre⟩
  dsimp only [List.getD_cons_zero]
  refine kLen22 (kBin_lss (kIf_d (fun e => ?_) (fun e => ?_)))
  · have hlt : i < l.length := by omega
    obtain ⟨b, o, rfl, hbl, hr⟩ := hl.elem (i := i) (v := vVal l[i]) (by simp [hlt])
    refine kIa22 hlt (kFa49 _ (by omega) (kLoad_cell (c := ⟨Try.prog, _, false⟩) Try.isAgg9 (hr 2 _ rfl) (kLen9 (kBin_gtr (kIf_d (fun e2 => ?_) (fun e2 => ?_))))))
    · rw [decide_eq_false] at h
      · exact h
      · intro hh
        have := hh.1 l[i] (List.getElem_mem hlt)
        have e2 : (l[i].2.2.size : Int) > 1100 := e2
        omega
    · refine kBin_add (kD_i ⟨⟨i + 1, by rw [wrap_id (by omega) (by omega)]; rfl, rfl, hlt, fun r hr => ?_⟩, ?_⟩)
      · rw [List.take_succ_eq_append_getElem hlt] at hr
        rcases List.mem_append.1 hr with hr | hr
        · exact hpre r hr
        · simp at hr; subst hr
          have e2 : ¬ (l[i].2.2.size : Int) > 1100 := e2
          omega
      · rw [wrap_id (by omega) (by omega)]; show l.length - ((i : Int) + 1).toNat < l.length - (i : Int).toNat; omega
  · have hi : i = l.length := by omega
    subst hi
    rw [List.take_length] at hpre
    refine kLen22 (kBin_leq ?_)
    have : decide ((l.length : Int) ≤ 40) = decide ((∀ r ∈ l, r.2.2.size ≤ 1100) ∧ l.length ≤ 40) := by
      apply decide_eq_decide.2
      constructor
      · intro h; exact ⟨hpre, by omega⟩
      · intro h; have := h.2; omega
    rw [this]; exact h

/-! ### Picking -/
def okAt (n : Nat) (is : List Int) : Prop := ∀ i ∈ is, 0 ≤ i ∧ i < n
instance (n : Nat) (is : List Int) : Decidable (okAt n is) := by unfold okAt; infer_instance
def pick (l : List AV) (is : List Int) : List AV := is.filterMap (fun i => l[i.toNat]?)
theorem E22 (w : World) : Elt Try.prog 22 49 3 32 := ⟨Try.underlying22, ⟨Try.t49, _, info_of (Try.typeInfo49 w), rfl, rfl, rfl, rfl⟩, by omega, by omega⟩

theorem pick_succ (l : List AV) (is : List Int) {i : Nat} (hlt : i < is.length) (h1 : 0 ≤ is[i]) (h2 : is[i] < l.length) (hok : okAt l.length (is.take i)) :
    okAt l.length (is.take (i + 1)) ∧ ∃ r, l[is[i].toNat]? = some r ∧ pick l (is.take (i + 1)) = pick l (is.take i) ++ [r] := by
  have hlt2 : is[i].toNat < l.length := by omega
  refine ⟨?_, l[is[i].toNat], by simp [hlt2], ?_⟩
  · rw [List.take_succ_eq_append_getElem hlt]
    intro z hz
    rcases List.mem_append.1 hz with hz | hz
    · exact hok z hz
    · simp at hz; subst hz; exact ⟨h1, h2⟩
  · rw [List.take_succ_eq_append_getElem hlt]
    simp only [pick, List.filterMap_append]
    simp [hlt2]

theorem kIa23 {X : Chain → World → Prop} {q : Bool} {w : World} {b o n cp : Nat} {i : Nat} {k : Value → World → Prop} (hi : i < n) (h : k (.pointer (some ⟨b, o + i * 1, none⟩)) w) : kIa ⟨Try.prog, X, q⟩ w 23 (.slice (some ⟨b, o, none⟩) n cp) (.int .i64 i) k :=
  kIa_sl (c := ⟨Try.prog, X, q⟩) Try.underlying23 Try.sizeOf3 hi h
theorem kIa22i {X : Chain → World → Prop} {q : Bool} {w : World} {b o n cp : Nat} {z : Int} {k : Value → World → Prop} (h0 : 0 ≤ z) (h1 : z < n) (h : k (.pointer (some ⟨b, o + z.toNat * 3, none⟩)) w) : kIa ⟨Try.prog, X, q⟩ w 22 (.slice (some ⟨b, o, none⟩) n cp) (.int .i64 z) k :=
  kIa_int (c := ⟨Try.prog, X, q⟩) Try.underlying22 Try.sizeOf49 h0 h1 h
theorem kLd3 {X : Chain → World → Prop} {q : Bool} {w : World} {a : Addr} {v : Value} {k : Value → World → Prop} (hv : w.cell? a = some v) (h : k v w) : kLoad ⟨Try.prog, X, q⟩ w 3 (.pointer (some a)) k := kLoad_cell (c := ⟨Try.prog, X, q⟩) Try.isAgg3 hv h

/-- What a picking returns: no values, or the row of those picked. -/
def PickR (l : List AV) (is : List Int) (w : World) (R : Ending → World → Prop) (bad : Value) (good : Value) : Prop :=
  ∀ W, Below w.heap.size w W → (¬ okAt l.length is → R (.returned (.tuple #[.slice none 0 0, bad])) W) ∧
    (okAt l.length is → ∀ x, W.ownsRow w.heap.size 49 3 x is.length (flat ((pick l is).map vVal)) → R (.returned (.tuple #[x, good])) W)

theorem picked34 (l : List AV) (is : List Int) (w : World) (lo ao : Option Addr) (lc ac : Nat) (hl : Sl w lo 3 (l.map vVal)) (hi : Sl w ao 1 (is.map vInt)) (hb : is.length ≤ 1000000) (hb2 : l.length ≤ 1000000) (R : Ending → World → Prop)
    (h : PickR l is w R (.bool false) (.bool true)) : Calls Try.prog 34 #[.slice lo l.length lc, .slice ao is.length ac] w R := by
  refine c34 _ _ _ _ _ _ _ _ ?_
  unfold vc34
  refine kLen23 ⟨⟨fun cs W => ∃ (i : Nat) (x : Value), i ≤ is.length ∧ cs = [x, .int .i64 i] ∧ Below w.heap.size w W ∧ okAt l.length (is.take i) ∧ W.ownsRow w.heap.size 49 3 x i (flat ((pick l (is.take i)).map vVal)),
    fun cs _ => is.length - (match cs with | [_, .int _ i] => i.toNat | _ => 0), ⟨0, _, Nat.zero_le _, rfl, Below.refl _ _, by simp [okAt], World.ownsRow_nil _ _ _ _⟩, ?_⟩⟩
  rintro cs ds W ⟨i, x, hile, rfl, hB, hok, hown⟩
  dsimp only [List.getD_cons_zero, List.getD_cons_succ]
  refine kBin_lss (kIf_d (fun hlt => ?_) (fun hge => ?_))
  · have hlt' : i < is.length := by omega
    obtain ⟨b, o, rfl, hbl, hr⟩ := (hi.below hB).elem (i := i) (v := vInt is[i]) (by simp [hlt'])
    refine kIa23 hlt' (kLd3 (hr 0 _ rfl) (kJn_i ?_))
    have bad : ¬ (0 ≤ is[i] ∧ is[i] < l.length) → ¬ okAt l.length is := fun h h2 => h (h2 _ (List.getElem_mem hlt'))
    refine kBin_lss (kIf_d (fun hneg => kIf_t ((h W hB).1 (bad (by omega)))) (fun hpos => ?_))
    refine kLen22 (kBin_geq (kIf_d (fun hbig => (h W hB).1 (bad (by omega))) (fun hsm => kD_i fun ds => ?_)))
    obtain ⟨hok', r, hr2, hp⟩ := pick_succ l is hlt' (by omega) (by omega) hok
    obtain ⟨b2, o2, rfl, hbl2, hr3⟩ := (hl.below hB).elem (i := is[i].toNat) (v := vVal r) (by simp [hr2])
    refine kIa22i (by omega) (by omega) (kLd49 hr3 ?_)
    refine kApp1 (E22 W) hown (vVal_size r) (vVal_one r) (by simp [maxLen]; omega) (by omega) hB.size ?_
    intro x' W' hown' hg hat
    refine kBin_add (kD_i ⟨⟨i + 1, x', hlt', by rw [wrap_id (by omega) (by omega)]; rfl, below_grown hB hown hg hB.size, hok', ?_⟩, ?_⟩)
    · rw [hp]; simpa [flat] using hown'
    · rw [wrap_id (by omega) (by omega)]; show is.length - ((i : Int) + 1).toNat < is.length - (i : Int).toNat; omega
  · have : i = is.length := by omega
    subst this
    rw [List.take_length] at hok hown
    exact (h W hB).2 hok x hown

theorem Pick12 (l : List AV) (is : List Int) (w : World) (lo ao : Option Addr) (lc ac : Nat) (hl : Sl w lo 3 (l.map vVal)) (hi : Sl w ao 1 (is.map vInt)) (hb : is.length ≤ 1000000) (hb2 : l.length ≤ 1000000) (R : Ending → World → Prop)
    (h : PickR l is w R (.int .i64 4) (.int .i64 0)) : Calls Try.prog 12 #[.slice lo l.length lc, .slice ao is.length ac] w R := by
  refine c12 _ _ _ _ _ _ _ _ ?_
  unfold vc12
  refine kCall_i (Try.call34 _ _) (picked34 l is w lo ao lc ac hl hi hb hb2 _ fun W hB => ⟨fun hn => ?_, fun hk x hx => ?_⟩)
  · exact kExt_0 (kExt_1 (kUn_not (kIf_t ((h W hB).1 hn))))
  · exact kExt_0 (kExt_1 (kUn_not (kIf_f ((h W hB).2 hk x hx))))

theorem refPick13 (l : List AV) (is : List Int) (w : World) (lo ao : Option Addr) (lc ac : Nat) (hl : Sl w lo 3 (l.map vVal)) (hi : Sl w ao 1 (is.map vInt)) (hb : is.length ≤ 1000000) (hb2 : l.length ≤ 1000000) (R : Ending → World → Prop)
    (h : PickR l is w R (.bool false) (.bool true)) : Calls Try.prog 13 #[.slice lo l.length lc, .slice ao is.length ac] w R := by
  refine c13 _ _ _ _ _ _ _ _ ?_
  unfold vc13
  refine ⟨⟨fun cs W => ∃ (i : Nat) (x : Value), i ≤ is.length ∧ cs = [x, .int .i64 i] ∧ Below w.heap.size w W ∧ okAt l.length (is.take i) ∧ W.ownsRow w.heap.size 49 3 x i (flat ((pick l (is.take i)).map vVal)),
    fun cs _ => is.length - (match cs with | [_, .int _ i] => i.toNat | _ => 0), ⟨0, _, Nat.zero_le _, rfl, Below.refl _ _, by simp [okAt], World.ownsRow_nil _ _ _ _⟩, ?_⟩⟩
  rintro cs ds W ⟨i, x, hile, rfl, hB, hok, hown⟩
  dsimp only [List.getD_cons_zero, List.getD_cons_succ]
  refine kLen23 (kBin_lss (kIf_d (fun hlt => ?_) (fun hge => ?_)))
  · have hlt' : i < is.length := by omega
    obtain ⟨b, o, rfl, hbl, hr⟩ := (hi.below hB).elem (i := i) (v := vInt is[i]) (by simp [hlt'])
    have bad : ¬ (0 ≤ is[i] ∧ is[i] < l.length) → ¬ okAt l.length is := fun h h2 => h (h2 _ (List.getElem_mem hlt'))
    refine kJn_i (kIa23 hlt' (kLd3 (hr 0 _ rfl) ?_))
    refine kBin_lss (kIf_d (fun hneg => kIf_t ((h W hB).1 (bad (by omega)))) (fun hpos => ?_))
    refine kIa23 hlt' (kLd3 (hr 0 _ rfl) (kLen22 (kBin_geq (kIf_d (fun hbig => (h W hB).1 (bad (by omega))) (fun hsm => kD_i fun ds => ?_)))))
    refine kIa23 hlt' (kLd3 (hr 0 _ rfl) ?_)
    obtain ⟨hok', r, hr2, hp⟩ := pick_succ l is hlt' (by omega) (by omega) hok
    obtain ⟨b2, o2, rfl, hbl2, hr3⟩ := (hl.below hB).elem (i := is[i].toNat) (v := vVal r) (by simp [hr2])
    refine kIa22i (by omega) (by omega) (kLd49 hr3 ?_)
    refine kApp1 (E22 W) hown (vVal_size r) (vVal_one r) (by simp [maxLen]; omega) (by omega) hB.size ?_
    intro x' W' hown' hg hat
    refine kBin_add (kD_i ⟨⟨i + 1, x', hlt', by rw [wrap_id (by omega) (by omega)]; rfl, below_grown hB hown hg hB.size, hok', ?_⟩, ?_⟩)
    · rw [hp]; simpa [flat] using hown'
    · rw [wrap_id (by omega) (by omega)]; show is.length - ((i : Int) + 1).toNat < is.length - (i : Int).toNat; omega
  · have : i = is.length := by omega
    subst this
    rw [List.take_length] at hok hown
    exact (h W hB).2 hok x hown
end Go.L
namespace Go.L
open Go Go.RowKit Go.Proofs
set_option linter.unusedSimpArgs false
set_option linter.unusedVariables false

theorem kCallV_i {P : Program} {X : Chain → World → Prop} {w : World} {f : FuncId} {args caps : Array Value} {k : Value → World → Prop} (hc : (callFunc f (args ++ caps)).run P w = .ok (.enter f (args ++ caps)) w)
    (h : Calls P f (args ++ caps) w (after k X)) : kCallV ⟨P, X, false⟩ w (.func (.func f) #[] caps) args k := ⟨by
  show kNext _ _ _
  have : (do let d ← Deferred.ofValue (.func (.func f) #[] caps) args; invoke d.target d.args : Sem Next).run P w = .ok (.enter f (args ++ caps)) w := by
    simp [Deferred.ofValue, invoke, hc]
  rw [this]; exact h⟩

def fitsB (l : List AV) (ts : List Int) : Bool := decide (l.length = ts.length) && (l.zip ts).all (fun p => isB p.1 p.2)

theorem fitsB_true {l : List AV} {ts : List Int} (hl : l.length = ts.length) (h : ∀ (j : Nat) (h1 : j < l.length) (h2 : j < ts.length), isB l[j] ts[j] = true) : fitsB l ts = true := by
  simp only [fitsB, hl, decide_true, Bool.true_and, List.all_eq_true]
  intro p hp
  obtain ⟨j, hj, hp⟩ := List.mem_iff_getElem.1 hp
  simp at hj
  rw [List.getElem_zip] at hp
  subst hp
  exact h j (by omega) (by omega)
theorem fitsB_false {l : List AV} {ts : List Int} {j : Nat} (h1 : j < l.length) (h2 : j < ts.length) (h : isB l[j] ts[j] = false) : fitsB l ts = false := by
  have : ((l.zip ts).all fun p => isB p.1 p.2) = false := by
    rw [List.all_eq_false]
    refine ⟨(l[j], ts[j]), ?_, by simp [h]⟩
    rw [List.mem_iff_getElem]
    exact ⟨j, by simp; omega, by simp⟩
  simp [fitsB, this]
theorem fitsB_len {l : List AV} {ts : List Int} (h : l.length ≠ ts.length) : fitsB l ts = false := by simp [fitsB, h]

theorem kIa24 {X : Chain → World → Prop} {q : Bool} {w : World} {b o n cp : Nat} {i : Nat} {k : Value → World → Prop} (hi : i < n) (h : k (.pointer (some ⟨b, o + i * 1, none⟩)) w) : kIa ⟨Try.prog, X, q⟩ w 24 (.slice (some ⟨b, o, none⟩) n cp) (.int .i64 i) k :=
  kIa_sl (c := ⟨Try.prog, X, q⟩) Try.underlying24 Try.sizeOf27 hi h
theorem kLdS {X : Chain → World → Prop} {q : Bool} {w : World} {t : TypeId} {a : Addr} {v : Value} {k : Value → World → Prop} (ht : scal t = true) (hv : w.cell? a = some v) (h : k v w) : kLoad ⟨Try.prog, X, q⟩ w t (.pointer (some a)) k := kLoad_cell (c := ⟨Try.prog, X, q⟩) (scal_agg ht) hv h

theorem eqF36 (l : List AV) (ts : List Int) (w : World) (lo to : Option Addr) (lc tc : Nat) (hl : Sl w lo 3 (l.map vVal)) (ht : Sl w to 1 (ts.map vInt)) (hb : l.length ≤ 1000000) (R : Ending → World → Prop)
    (h : ∀ W, Below w.heap.size w W → R (.returned (.bool (fitsB l ts))) W) : Calls Try.prog 36 #[.slice lo l.length lc, .slice to ts.length tc, .func (.func 37) #[] #[]] w R := by
  refine c36 _ _ _ _ _ _ _ _ _ ?_
  unfold vc36
  refine kLen22 (kLen24 (kNe_int (kIf_ne (fun e => ?_) (fun e => kLen22 ?_))))
  · have := h w (Below.refl _ _); rwa [fitsB_len (by omega)] at this
  refine ⟨⟨fun cs W => ∃ i : Nat, cs = [.int .i64 i] ∧ Below w.heap.size w W ∧ i ≤ l.length ∧ ∀ (j : Nat) (h1 : j < l.length) (h2 : j < ts.length), j < i → isB l[j] ts[j] = true, fun cs _ => l.length - (match cs with | [.int _ i] => i.toNat | _ => 0), ⟨0, rfl, Below.refl _ _, by omega, fun j _ _ hj => by omega⟩, ?_⟩⟩
  rintro cs ds W ⟨i, rfl, hB, hile, hpre⟩
  dsimp only [List.getD_cons_zero]
  refine kBin_lss (kIf_d (fun hlt => ?_) (fun hge => ?_))
  · have hil : i < l.length := by omega
    have hit : i < ts.length := by omega
    obtain ⟨b, o, rfl, hbl, hr⟩ := hl.elem (i := i) (v := vVal l[i]) (by simp [hil])
    obtain ⟨b2, o2, rfl, hbl2, hr2⟩ := ht.elem (i := i) (v := vInt ts[i]) (by simp [hit])
    have hS : St w [] W := ⟨hB, by simp, by simp⟩
    refine kIa22 hil (kLd49 (rangeAt_keep hr (hB.block _ hbl)) (kAlloc_st Try.zeroValue49 hS fun b3 W hS => kStoreA_st hS 0 rfl rfl (by simp [Value.oneCell']) Try.sizeOf49 fun W hS => ?_))
    refine kIa24 hit (kLdS rfl ((rangeAt_keep hr2 (hS.below.block _ hbl2)) 0 _ rfl) (kLoadA_st (c := ⟨Try.prog, _, false⟩) hS 0 rfl Try.underlying49 rfl Try.sizeOf49 rfl ?_))
    refine kCallV_i (Try.call37 _ _) (is37 l[i] ts[i] W _ fun W' hB' => ?_)
    have hS := hS.bel hB'
    refine kUn_not (kIf_b (fun e2 => ?_) (fun e2 => ?_))
    · have := h _ hS.below; rwa [fitsB_false hil hit (by simpa using e2)] at this
    · refine kBin_add (kD_i ⟨⟨i + 1, by rw [wrap_id (by omega) (by omega)]; rfl, hS.below, hil, fun j h1 h2 hj => ?_⟩, ?_⟩)
      · by_cases hj2 : j < i
        · exact hpre j h1 h2 hj2
        · have : j = i := by omega
          subst this; simpa using e2
      · rw [wrap_id (by omega) (by omega)]; show l.length - ((i : Int) + 1).toNat < l.length - (i : Int).toNat; omega
  · have := h _ hB; rwa [fitsB_true (by omega) (fun j h1 h2 => hpre j h1 h2 (by omega))] at this

theorem Fits16 (l : List AV) (ts : List Int) (w : World) (lo to : Option Addr) (lc tc : Nat) (hl : Sl w lo 3 (l.map vVal)) (ht : Sl w to 1 (ts.map vInt)) (hb : l.length ≤ 1000000) (R : Ending → World → Prop)
    (h : ∀ W, Below w.heap.size w W → R (.returned (.bool (fitsB l ts))) W) : Calls Try.prog 16 #[.slice lo l.length lc, .slice to ts.length tc] w R := by
  refine c16 _ _ _ _ _ _ _ _ ?_
  unfold vc16
  exact kCall_i (Try.call36 _ _) (eqF36 l ts w lo to lc tc hl ht hb _ h)

theorem refFits17 (l : List AV) (ts : List Int) (w : World) (lo to : Option Addr) (lc tc : Nat) (hl : Sl w lo 3 (l.map vVal)) (ht : Sl w to 1 (ts.map vInt)) (hb : l.length ≤ 1000000) (R : Ending → World → Prop)
    (h : ∀ W, Below w.heap.size w W → R (.returned (.bool (fitsB l ts))) W) : Calls Try.prog 17 #[.slice lo l.length lc, .slice to ts.length tc] w R := by
  refine c17 _ _ _ _ _ _ _ _ ?_
  unfold vc17
  refine kLen22 (kLen23 (kNe_int (kIf_ne (fun e => ?_) (fun e => ?_))))
  · have := h w (Below.refl _ _); rwa [fitsB_len (by omega)] at this
  refine ⟨⟨fun cs W => ∃ i : Nat, cs = [.int .i64 i] ∧ Below w.heap.size w W ∧ i ≤ l.length ∧ ∀ (j : Nat) (h1 : j < l.length) (h2 : j < ts.length), j < i → isB l[j] ts[j] = true, fun cs _ => l.length - (match cs with | [.int _ i] => i.toNat | _ => 0), ⟨0, rfl, Below.refl _ _, by omega, fun j _ _ hj => by omega⟩, ?_⟩⟩
  rintro cs ds W ⟨i, rfl, hB, hile, hpre⟩
  dsimp only [List.getD_cons_zero]
  refine kLen22 (kBin_lss (kIf_d (fun hlt => ?_) (fun hge => ?_)))
  · have hil : i < l.length := by omega
    have hit : i < ts.length := by omega
    obtain ⟨pa, oa, rfl, hpa, hra⟩ := (hl.below hB).elem (i := i) (v := vVal l[i]) (by simp [hil])
    obtain ⟨pb, ob, rfl, hpb, hrb⟩ := (ht.below hB).elem (i := i) (v := vInt ts[i]) (by simp [hit])
    refine ⟨rfl, kPar_vals (fun j => ([.slice (some ⟨pa, oa, none⟩) l.length lc, .int .i64 i, .pointer (some ⟨pa, oa + i * 3, none⟩), vVal l[i], .slice (some ⟨pb, ob, none⟩) ts.length tc, .int .i64 i, .pointer (some ⟨pb, ob + i * 1, none⟩), .int .i64 ts[i], .bool (isB l[i] ts[i]), .bool (!isB l[i] ts[i])] : List Value).getD j undef) ?_ ?_⟩
    · refine ⟨fun S vs V hI _ _ hd => pv_step hI (Below.refl _ _) rfl, fun S vs V hI _ _ hd => pv_step hI (Below.refl _ _) rfl, fun S vs V hI _ _ hd => ?_, fun S vs V hI _ _ hd => ?_, fun S vs V hI _ _ hd => pv_step hI (Below.refl _ _) rfl, fun S vs V hI _ _ hd => pv_step hI (Below.refl _ _) rfl, fun S vs V hI _ _ hd => ?_, fun S vs V hI _ _ hd => ?_, fun S vs V hI _ _ hd => ?_, fun S vs V hI _ _ hd => ?_, trivial⟩
      · rw [hI.2 0 (hd 0 (by simp)), hI.2 1 (hd 1 (by simp))]; exact kIa22 hil (pv_step hI (Below.refl _ _) rfl)
      · rw [hI.2 2 (hd 2 (by simp))]; exact kLd49 (rangeAt_keep hra (hI.1.block _ hpa)) (pv_step hI (Below.refl _ _) rfl)
      · rw [hI.2 4 (hd 4 (by simp)), hI.2 5 (hd 5 (by simp))]; exact kIa23 hit (pv_step hI (Below.refl _ _) rfl)
      · rw [hI.2 6 (hd 6 (by simp))]; exact kLdS rfl ((rangeAt_keep hrb (hI.1.block _ hpb)) 0 _ rfl) (pv_step hI (Below.refl _ _) rfl)
      · rw [hI.2 3 (hd 3 (by simp)), hI.2 7 (hd 7 (by simp))]; exact kCall_i (Try.call38 _ _) (is38 _ _ _ _ fun V' hB' => pv_step hI hB' rfl)
      · rw [hI.2 8 (hd 8 (by simp))]; exact kUn_not (pv_step hI (Below.refl _ _) rfl)
    · intro vs V hG hd
      rw [hd 9 (by omega)]
      have hBV := hB.trans (hG.mono hB.size)
      refine kIf_b (fun e2 => ?_) (fun e2 => kBin_add (kD_i ⟨⟨i + 1, by rw [wrap_id (by omega) (by omega)]; rfl, hBV, hil, fun j h1 h2 hj => ?_⟩, ?_⟩))
      · have := h _ hBV; rwa [fitsB_false hil hit (by simpa using e2)] at this
      · by_cases hj2 : j < i
        · exact hpre j h1 h2 hj2
        · have : j = i := by omega
          subst this; simpa using e2
      · rw [wrap_id (by omega) (by omega)]; show l.length - ((i : Int) + 1).toNat < l.length - (i : Int).toNat; omega
  · have := h _ hB; rwa [fitsB_true (by omega) (fun j h1 h2 => hpre j h1 h2 (by omega))] at this
end Go.L
namespace Go.L
open Go Go.RowKit Go.Proofs
set_option linter.unusedSimpArgs false
set_option linter.unusedVariables false

def vB (b : Nat) : Value := .int .u8 b
def numB (n : Nat) : List Nat := if h : n < 128 then [n] else (n % 128 + 128) :: numB (n / 128)
  termination_by n
  decreasing_by omega

theorem E38 (w : World) : Elt Try.prog 38 5 1 1 := ⟨Try.underlying38, ⟨Try.t5, _, info_of (Try.typeInfo5 w), rfl, rfl, rfl, rfl⟩, by omega, by omega⟩

theorem bits_or_128 (m : Nat) : bits .or .u8 ((m : Int) % 256) 128 = ((m % 128 + 128 : Nat) : Int) := by
  have h : ∀ x : Nat, x < 256 → bits .or .u8 (x : Int) 128 = ((x % 128 + 128 : Nat) : Int) := by decide +kernel
  have := h (m % 256) (by omega)
  rw [show ((m : Int) % 256) = ((m % 256 : Nat) : Int) by omega, this]
  congr 1
  omega

section
variable {c : Cx} {w : World} {k : Value → World → Prop} {t : TypeId}
theorem kBin_or {q : IntKind} {a b : Int} (h : k (.int q (bits .or q a b)) w) : kBin c w .or t (.int q a) (.int q b) k := ⟨kVal_pure (fun _ => by rw [binOp_or, intBits_or]; rfl) h⟩
theorem kBin_xor {q : IntKind} {a b : Int} (h : k (.int q (bits .xor q a b)) w) : kBin c w .xor t (.int q a) (.int q b) k := ⟨kVal_pure (fun _ => by rw [binOp_xor, intBits_xor]; rfl) h⟩
theorem kBin_shr {q yk : IntKind} {x y : Int} (h0 : 0 ≤ y) (h1 : y ≤ q.bits) (h : k (.int q (x / 2 ^ y.toNat)) w) : kBin c w .shr t (.int q x) (.int yk y) k := ⟨kVal_pure (fun _ => by rw [binOp_shr, shift_shr q yk x y h0 h1]; rfl) h⟩
theorem kBin_shl {q yk : IntKind} {x y : Int} (h0 : 0 ≤ y) (h1 : y ≤ q.bits) (h : k (.int q (q.wrap (x * 2 ^ y.toNat))) w) : kBin c w .shl t (.int q x) (.int yk y) k := ⟨kVal_pure (fun _ => by rw [binOp_shl, shift_shl q yk x y h0 h1]; rfl) h⟩
end
theorem kCv84_5 {X : Chain → World → Prop} {q : Bool} {w : World} {k : Value → World → Prop} {a : Nat} (h : k (.int .u8 ((a : Int) % 256)) w) : kConv ⟨Try.prog, X, q⟩ w 84 5 (.int .u64 a) k :=
  kConv_int (c := ⟨Try.prog, X, q⟩) (q' := .u8) (by rw [show (⟨Try.prog, X, q⟩ : Cx).P.underlying 84 = _ from Try.underlying84]; rfl) Try.underlying5 (by
    have : IntKind.u8.wrap (a : Int) = (a : Int) % 256 := by simp [IntKind.wrap, IntKind.bits, IntKind.signed]
    rw [this]; exact h)

theorem vB_size (b : Nat) : (vB b).cells.size = 1 := rfl
theorem vB_one (b : Nat) : ∀ u ∈ (vB b).cells.toList, u.oneCell' = true := by simp [vB, Value.cells, Value.oneCell']

theorem number77 (n : Nat) (hn : n < 18446744073709551616) (w : World) (R : Ending → World → Prop)
    (h : ∀ x W, Below w.heap.size w W → W.ownsRow w.heap.size 5 1 x (numB n).length ((numB n).map vB) → (numB n).length ≤ 10 → R (.returned x) W) : Calls Try.prog 77 #[.int .u64 n] w R := by
  refine c77 _ _ _ ?_
  unfold vc77
  refine ⟨⟨fun cs W => ∃ (m : Nat) (x : Value) (p : List Nat), cs = [x, .int .u64 m] ∧ Below w.heap.size w W ∧ W.ownsRow w.heap.size 5 1 x p.length (p.map vB) ∧ numB n = p ++ numB m ∧ m * 128 ^ p.length ≤ n ∧ (p = [] ∨ 1 ≤ m),
    fun cs _ => (match cs with | [_, .int _ i] => i.toNat | _ => 0), ⟨n, _, [], rfl, Below.refl _ _, World.ownsRow_nil _ _ _ _, rfl, by simp, .inl rfl⟩, ?_⟩⟩
  rintro cs ds W ⟨m, x, p, rfl, hB, hown, heq, hle, hp⟩
  dsimp only [List.getD_cons_zero, List.getD_cons_succ]
  have hlen : p.length ≤ 9 := by
    rcases hp with rfl | hp
    · simp
    · rcases Nat.lt_or_ge p.length 10 with h1 | h1
      · omega
      · have h2 : 128 ^ 10 ≤ 128 ^ p.length := Nat.pow_le_pow_right (by omega) h1
        have h3 : 128 ^ p.length ≤ m * 128 ^ p.length := Nat.le_mul_of_pos_left _ hp
        have : (128 : Nat) ^ 10 = 1180591620717411303424 := by decide
        omega
  refine kBin_geq (kIf_d (fun hbig => ?_) (fun hsm => ?_))
  · have hm : 128 ≤ m := by omega
    refine kCv84_5 (kBin_or ?_)
    rw [bits_or_128]
    refine kApp1 (E38 W) hown (v := vB (m % 128 + 128)) rfl (vB_one _) (by simp [maxLen]; omega) (by omega) hB.size ?_
    intro x' W' hown' hg hat
    refine kBin_shr (by omega) (by simp [IntKind.bits]) (kD_i ⟨⟨m / 128, x', p ++ [m % 128 + 128], ?_, below_grown hB hown hg hB.size, ?_, ?_, ?_, .inr (by omega)⟩, ?_⟩)
    · congr 3
    · rw [List.length_append, List.map_append]; exact hown'
    · rw [heq]; conv => lhs; rw [numB]
      simp [show ¬ m < 128 by omega]
    · rw [List.length_append, List.length_singleton, Nat.pow_succ]
      have : m / 128 * (128 ^ p.length * 128) = m / 128 * 128 * 128 ^ p.length := by rw [Nat.mul_comm (128 ^ p.length), Nat.mul_assoc]
      rw [this]
      exact Nat.le_trans (Nat.mul_le_mul_right _ (Nat.div_mul_le_self m 128)) hle
    · show ((m : Int) / 2 ^ (7 : Int).toNat).toNat < (m : Int).toNat
      have : ((2 : Int) ^ (7 : Int).toNat) = 128 := by decide
      rw [this]; omega
  · have hm : m < 128 := by omega
    refine kCv84_5 ?_
    rw [show ((m : Int) % 256) = (m : Int) by omega]
    refine kApp1 (E38 W) hown (v := vB m) rfl (vB_one _) (by simp [maxLen]; omega) (by omega) hB.size ?_
    intro x' W' hown' hg hat
    have e : numB n = p ++ [m] := by rw [heq, numB]; simp [hm]
    refine h x' W' (below_grown hB hown hg hB.size) ?_ (by rw [e]; simp; omega)
    rw [e, List.length_append, List.map_append]; exact hown'
end Go.L
namespace Go.L
open Go Go.RowKit Go.Proofs
set_option linter.unusedSimpArgs false
set_option linter.unusedVariables false

def bl (s : ByteArray) : List Nat := s.data.toList.map (·.toNat)
theorem bl_length (s : ByteArray) : (bl s).length = s.size := by simp [bl]
theorem strCells_bl (s : ByteArray) : Lib.strCells s = (bl s).map vB := by
  simp [Lib.strCells, bl, vB, Function.comp_def]

theorem kAppStrP {P : Program} {X : Chain → World → Prop} {w : World} {t u e : TypeId} {i : TypeInfo} (ht : P.underlying t = some (.slice e)) (hu : P.underlying u = some .string) (hi : P.info? e = some i) (hz : i.zero = some (.int .u8 0)) (hs : i.size = 1) (hby : i.bytes = 1)
    {base n : Nat} {x : Value} {xs : List Value} {s : ByteArray} {cs : Array Bool} {ty : TypeId} {k : Value → World → Prop}
    (hown : w.ownsRow base e 1 x n xs) (hm : n + s.size ≤ 140737488355328) (hbase : base ≤ w.heap.size)
    (h : ∀ x' w', w'.ownsRow base e 1 x' (n + s.size) (xs ++ (bl s).map vB) → w.grownBy w' x.ownBlock → k x' w') :
    kBlt ⟨P, X, false⟩ w .append #[t, u] ty cs #[x, .string s] k := by
  obtain ⟨x', w', hr, ho, hg, _⟩ := Lib.run_append_own_string (P := P) w base t u ty e i ht hu hi hz hs hby x n xs hown s (by simp [maxLen]; omega) hm hbase
  rw [strCells_bl] at ho
  refine ⟨?_⟩
  show kNext _ _ _
  simp only [builtin, Sem.run_bind, hr, Result.andThen_ok, Sem.run_pure]
  exact h x' w' ho hg
theorem kAppStr {X : Chain → World → Prop} {w : World} {base n : Nat} {x : Value} {xs : List Value} {s : ByteArray} {cs : Array Bool} {ty : TypeId} {k : Value → World → Prop}
    (hown : w.ownsRow base 5 1 x n xs) (hm : n + s.size ≤ 140737488355328) (hbase : base ≤ w.heap.size)
    (h : ∀ x' w', w'.ownsRow base 5 1 x' (n + s.size) (xs ++ (bl s).map vB) → w.grownBy w' x.ownBlock → k x' w') :
    kBlt ⟨Try.prog, X, false⟩ w .append #[38, 9] ty cs #[x, .string s] k := kAppStrP Try.underlying38 Try.underlying9 (info_of (Try.typeInfo5 w)) rfl rfl rfl hown hm hbase h

theorem kBuildS_row {P : Program} {X : Chain → World → Prop} {w : World} {t e : TypeId} {sz by_ : Nat} (E : Elt P t e sz by_) {base : Nat} (hbase : base ≤ w.heap.size) (vs : List Value) {n : Nat} {parts : Array (Nat × Value)} {k : Value → World → Prop} (hp : parts.toList = (vs.zipIdx 0).map fun x => (x.2, x.1)) (hn : vs.length = n) (h0 : 0 < n) (h1 : n ≤ 1024)
    (hv : ∀ v ∈ vs, v.cells.size = sz) (h : ∀ x W, W.ownsRow base e sz x n (flat vs) → w.grownBy W none → (∀ j, x.ownBlock = some j → w.heap.size ≤ j) → k x W) : kBuildS ⟨P, X, false⟩ w t n parts k := by
  refine ⟨kVal_do (run_buildSlice_row E w vs n parts hp hn h0 h1 hv) (h _ _ ?_ (World.grownBy_alloc w _ _) ?_)⟩
  · have := World.ownsRow_lit (base := base) (e := e) (size := sz) w (vs.flatMap fun v => v.cells.toList).toArray n hbase (by simp [maxLen]; omega) (by
      have : ∀ vs : List Value, (∀ v ∈ vs, v.cells.size = sz) → (vs.flatMap fun v => v.cells.toList).length = vs.length * sz := by
        intro vs; induction vs with
        | nil => simp
        | cons a l ih => intro h; rw [List.flatMap_cons, List.length_append, ih (fun v hv => h v (List.mem_cons_of_mem _ hv)), List.length_cons, Nat.succ_mul, Array.length_toList, h a (List.mem_cons_self ..), Nat.add_comm]
      rw [List.size_toArray, this vs hv, hn])
    simpa [flat] using this
  · intro j hj; cases hj; exact Nat.le_refl _

def strB (s : ByteArray) : List Nat := numB s.size ++ bl s
theorem kCv3_84 {X : Chain → World → Prop} {q : Bool} {w : World} {k : Value → World → Prop} {a : Nat} (ha : a < 18446744073709551616) (h : k (.int .u64 (a : Int)) w) : kConv ⟨Try.prog, X, q⟩ w 3 84 (.int .i64 a) k :=
  kConv_int (c := ⟨Try.prog, X, q⟩) (q' := .u64) (by rw [show (⟨Try.prog, X, q⟩ : Cx).P.underlying 3 = _ from Try.underlying3]; rfl) Try.underlying84 (by
    have : IntKind.u64.wrap (a : Int) = (a : Int) := by simp [IntKind.wrap, IntKind.bits, IntKind.signed]; omega
    rw [this]; exact h)

/-- A function that makes a row of bytes. -/
def Makes (w : World) (bs : List Nat) (R : Ending → World → Prop) : Prop :=
  ∀ x W, Below w.heap.size w W → W.ownsRow w.heap.size 5 1 x bs.length (bs.map vB) → R (.returned x) W
theorem ownsRow_rebase {W : World} {a b : Nat} {e : TypeId} {sz n : Nat} {x : Value} {xs : List Value} (h : W.ownsRow a e sz x n xs) (hb : b ≤ a) : W.ownsRow b e sz x n xs := ⟨h.1, h.2.imp id fun ⟨g, cap, cur, h1, h2, h3⟩ => ⟨g, cap, cur, h1, Nat.le_trans hb h2, h3⟩⟩

theorem string114 (s : ByteArray) (hs : s.size ≤ 1000000) (w : World) (R : Ending → World → Prop) (h : Makes w (strB s) R) : Calls Try.prog 114 #[.string s] w R := by
  refine c114 _ _ _ ?_
  unfold vc114
  refine kLen9 (kCv3_84 (by omega) (kCall_i (Try.call77 _ _) (number77 _ (by omega) _ _ fun x W hB hown hlen => ?_)))
  refine kAppStr hown (by omega) hB.size fun x' W' hown' hg => ?_
  refine h x' W' (below_grown hB hown hg hB.size) ?_
  rw [strB, List.length_append, bl_length, List.map_append]; exact hown'

theorem lay113 (r : AV) (hs : r.2.2.size ≤ 1000000) (w : World) (R : Ending → World → Prop) (h : Makes w (strB r.2.2) R) : Calls Try.prog 113 #[vVal r] w R := by
  refine c113 _ _ _ _ _ ?_
  unfold vc113
  refine kBox_st (St.start w) fun b W hS => kFa49 _ (by omega) (kLd hS 0 rfl rfl rfl (kCall_i (Try.call114 _ _) (string114 _ hs _ _ fun x W' hB hown => ?_)))
  exact h x W' (hS.bel hB).below (ownsRow_rebase hown hS.size)

theorem lay115 (r : AV) (w : World) (R : Ending → World → Prop) (h : Makes w [] R) : Calls Try.prog 115 #[vVal r] w R := by
  refine c115 _ _ _ _ _ ?_
  unfold vc115
  exact kBox_st (St.start w) fun b W hS => h _ _ hS.below (World.ownsRow_nil _ _ _ _)

theorem lay116 (r : AV) (h0 : 0 ≤ r.2.1) (h1 : r.2.1 ≤ 1) (w : World) (R : Ending → World → Prop) (h : Makes w [r.2.1.toNat] R) : Calls Try.prog 116 #[vVal r] w R := by
  refine c116 _ _ _ _ _ ?_
  unfold vc116
  refine kBox_st (St.start w) fun b W hS => kFa49 _ (by omega) (kLd hS 0 rfl rfl rfl ?_)
  refine kConv_int (c := ⟨Try.prog, _, false⟩) (q' := .u8) (by rw [show (Cx.mk Try.prog _ false).P.underlying 2 = _ from Try.underlying2]; rfl) Try.underlying5 ?_
  have hw : IntKind.u8.wrap r.2.1 = (r.2.1.toNat : Int) := by simp [IntKind.wrap, IntKind.bits, IntKind.signed]; omega
  rw [hw]
  generalize r.2.1.toNat = z at h ⊢
  refine kBuildS_row (E38 W) (base := w.heap.size) hS.size [vB z] rfl rfl (by omega) (by omega) (by simp [vB_size]) fun x W' ho hg _ => ?_
  exact h _ _ (hS.grow hg).below ho
end Go.L
namespace Go.L
open Go Go.RowKit Go.Proofs
set_option linter.unusedSimpArgs false
set_option linter.unusedVariables false

def zig (n : Int) : Nat := if 0 ≤ n then (2 * n).toNat else (-2 * n - 1).toNat

theorem xor_zero64 (a : Nat) (ha : a < 18446744073709551616) : bits .xor .u64 a 0 = a := by
  have h : ((BitVec.ofInt 64 (a : Int)) ^^^ (BitVec.ofInt 64 0)).toNat = a := by
    rw [show BitVec.ofInt 64 0 = 0#64 by rfl, BitVec.xor_zero, BitVec.toNat_ofInt]; omega
  show IntKind.u64.wrap (((BitVec.ofInt 64 (a : Int)) ^^^ (BitVec.ofInt 64 0)).toNat : Int) = a
  rw [h]; simp [IntKind.wrap, IntKind.bits, IntKind.signed]; omega
theorem xor_ones64 (a : Nat) (ha : a < 18446744073709551616) : bits .xor .u64 a 18446744073709551615 = ((18446744073709551615 - a : Nat) : Int) := by
  have h : ((BitVec.ofInt 64 (a : Int)) ^^^ (BitVec.ofInt 64 18446744073709551615)).toNat = 18446744073709551615 - a := by
    rw [show BitVec.ofInt 64 18446744073709551615 = BitVec.allOnes 64 by rfl, BitVec.xor_allOnes, BitVec.toNat_not, BitVec.toNat_ofInt]; omega
  show IntKind.u64.wrap (((BitVec.ofInt 64 (a : Int)) ^^^ (BitVec.ofInt 64 18446744073709551615)).toNat : Int) = _
  rw [h]; simp [IntKind.wrap, IntKind.bits, IntKind.signed]; omega

theorem kCv2_84 {X : Chain → World → Prop} {q : Bool} {w : World} {k : Value → World → Prop} {a : Int} {b : Nat} (hb : a % 18446744073709551616 = b) (h : k (.int .u64 b) w) : kConv ⟨Try.prog, X, q⟩ w 2 84 (.int .i64 a) k :=
  kConv_int (c := ⟨Try.prog, X, q⟩) (q' := .u64) (by rw [show (Cx.mk Try.prog X q).P.underlying 2 = _ from Try.underlying2]; rfl) Try.underlying84 (by
    have : IntKind.u64.wrap a = b := by simp [IntKind.wrap, IntKind.bits, IntKind.signed]; omega
    rw [this]; exact h)

theorem lay117 (r : AV) (h0 : -9223372036854775808 ≤ r.2.1) (h1 : r.2.1 ≤ 9223372036854775807) (w : World) (R : Ending → World → Prop) (h : Makes w (numB (zig r.2.1)) R) : Calls Try.prog 117 #[vVal r] w R := by
  refine c117 _ _ _ _ _ ?_
  unfold vc117
  have hz : zig r.2.1 < 18446744073709551616 := by unfold zig; split <;> omega
  refine kBox_st (St.start w) fun b W hS => kFa49 _ (by omega) (kLd hS 0 rfl rfl rfl (kBin_shl (by omega) (by simp [IntKind.bits]) ?_))
  have e1 : (2 : Int) ^ (1 : Int).toNat = 2 := by decide
  have e63 : (2 : Int) ^ (63 : Int).toNat = 9223372036854775808 := by decide
  rw [e1]
  have hw : (IntKind.i64.wrap (r.2.1 * 2)) % 18446744073709551616 = (r.2.1 * 2) % 18446744073709551616 := by simp [IntKind.wrap, IntKind.bits, IntKind.signed]; omega
  refine kCv2_84 (b := ((r.2.1 * 2) % 18446744073709551616).toNat) (by omega) (kFa49 _ (by omega) (kLd hS 0 rfl rfl rfl (kBin_shr (by omega) (by simp [IntKind.bits]) ?_)))
  rw [e63]
  have key : ∀ m : Nat, (m : Int) = (zig r.2.1 : Nat) → kCall (cR Try.prog R) W 77 #[.int .u64 (m : Int)] fun v12 w_11 => R (.returned v12) w_11 := by
    intro m hm
    have hm : m = zig r.2.1 := by omega
    subst hm
    refine kCall_i (Try.call77 _ _) (number77 _ hz _ _ fun x W' hB hown _ => ?_)
    exact h x W' (hS.bel hB).below (ownsRow_rebase hown hS.size)
  by_cases hn : r.2.1 < 0
  · refine kCv2_84 (b := 18446744073709551615) (by omega) (kBin_xor ?_)
    rw [show ((18446744073709551615 : Nat) : Int) = 18446744073709551615 by rfl, xor_ones64 _ (by omega)]
    refine key _ ?_
    unfold zig; rw [if_neg (by omega)]; omega
  · refine kCv2_84 (b := 0) (by omega) (kBin_xor ?_)
    rw [show ((0 : Nat) : Int) = 0 by rfl, xor_zero64 _ (by omega)]
    refine key _ ?_
    unfold zig; rw [if_pos (by omega)]; omega

/-- The bytes that follow a value's type. -/
def layB (r : AV) : List Nat := if r.1 = 1 then [r.2.1.toNat] else if r.1 = 2 then numB (zig r.2.1) else if r.1 = 3 ∨ r.1 = 4 then strB r.2.2 else []
end Go.L
namespace Go.L
open Go Go.RowKit Go.Proofs
set_option linter.unusedSimpArgs false
set_option linter.unusedVariables false

section
variable {P : Program} {X : Chain → World → Prop} {w w0 : World} {L : List Own} {k : Value → World → Prop} {c : Cx}
theorem kMkMap_st {t : TypeId} (hS : St w0 L w) (h : ∀ b W, St w0 (L ++ [.ob b (.map #[] 0)]) W → k (.map (some b)) W) : kMkMap ⟨P, X, false⟩ w t none k :=
  ⟨kVal_do (run_makeMap_plain w t) (h _ _ (hS.push (World.grownBy_alloc w _ _) ⟨hS.size, World.alloc_heap_new w _⟩ (fun k hk => by cases hk; exact Nat.le_refl _)))⟩
theorem kUpd_st {k : World → Prop} {t kt et : TypeId} {d : TypeDesc} {key v : Value} (hS : St w0 L w) (i : Nat) {b clock : Nat} {es : Array MapEntry} (hi : L[i]? = some (.ob b (.map es clock))) (hm : P.underlying t = some (.map kt et)) (hk : P.underlying kt = some d)
    (hkey : MapKept.IsKey d key) (hf : Instr.findNow d key es.toList 0 = some none) (h : ∀ W, St w0 (L.set i (.ob b (.map (es.push { key, val := v, born := clock }) (clock + 1)))) W → k W) : kUpd ⟨P, X, false⟩ w t (.map (some b)) key v k := by
  have hg := hS.get i hi
  have hb : b < w.heap.size := (Array.getElem?_eq_some_iff.1 hg.2).1
  have hc : (Instr.checkKey false 10000 kt key).run P w = .ok () w := MapKept.run_checkKey hk hkey false 9999
  refine ⟨kUnit_do (w' := { w with heap := w.heap.setIfInBounds b (.map (es.push { key, val := v, born := clock }) (clock + 1)) }) ?_ (h _ (hS.set i hi ?_ ⟨hg.1, by simp [hb]⟩ (.inl rfl)))⟩
  · simp [Instr.mapUpdate, run_underlying hm, MapKept.run_getObj_map hg.2, hc, MapKept.run_findKey hk hf, MapKept.run_setObj_map _ hg.2, Result.andThen]
  · refine ⟨rfl, rfl, rfl, by simp, fun j hj hne => ?_⟩
    have : b ≠ j := fun e => hne (by rw [← e]; rfl)
    simp [Array.getElem?_setIfInBounds_ne this]
theorem kLook_map {t kt et : TypeId} {d : TypeDesc} {key v : Value} {b clock j : Nat} {es : Array MapEntry} (hb : w.heap[b]? = some (.map es clock)) (hm : c.P.underlying t = some (.map kt et)) (hk : c.P.underlying kt = some d)
    (hkey : MapKept.IsKey d key) (hf : Instr.findNow d key es.toList 0 = some (some (j, v))) (h : k v w) : kLook c w t (.map (some b)) key false k :=
  ⟨kVal_look (fun n => by
    have hg : (w.drewN n).heap[b]? = some (.map es clock) := hb
    have hc : ∀ e, (Instr.checkKey e 10000 kt key).run c.P (w.drewN n) = .ok () (w.drewN n) := fun e => MapKept.run_checkKey hk hkey e 9999
    simp [Instr.lookup, run_underlying hm, MapKept.run_getObj_map hg, hc, MapKept.run_findKey hk hf, Result.andThen]) h⟩
end

def laidEs : Array MapEntry := #[{ key := .int .i64 0, val := .func (.func 115) #[] #[], born := 0 }, { key := .int .i64 1, val := .func (.func 116) #[] #[], born := 1 }, { key := .int .i64 2, val := .func (.func 117) #[] #[], born := 2 },
  { key := .int .i64 3, val := .func (.func 113) #[] #[], born := 3 }, { key := .int .i64 4, val := .func (.func 113) #[] #[], born := 4 }]

theorem laid79 (w : World) (R : Ending → World → Prop) (h : ∀ b W, Below w.heap.size w W → w.heap.size ≤ b → W.heap[b]? = some (.map laidEs 5) → R (.returned (.map (some b))) W) : Calls Try.prog 79 #[] w R := by
  refine c79 _ _ ?_
  unfold vc79
  refine kMkMap_st (St.start w) fun b W hS => ?_
  refine kUpd_st hS 0 rfl Try.underlying126 Try.underlying47 rfl rfl fun W hS => ?_
  refine kUpd_st hS 0 rfl Try.underlying126 Try.underlying47 rfl rfl fun W hS => ?_
  refine kUpd_st hS 0 rfl Try.underlying126 Try.underlying47 rfl rfl fun W hS => ?_
  refine kUpd_st hS 0 rfl Try.underlying126 Try.underlying47 rfl rfl fun W hS => ?_
  refine kUpd_st hS 0 rfl Try.underlying126 Try.underlying47 rfl rfl fun W hS => ?_
  have hg := hS.get 0 rfl
  exact h b W hS.below hg.1 hg.2

def fnOf (t : Int) : FuncId := if t = 0 then 115 else if t = 1 then 116 else if t = 2 then 117 else 113
theorem laid_find (t : Int) (h0 : 0 ≤ t) (h4 : t ≤ 4) : ∃ j, Instr.findNow (.int .i64) (.int .i64 t) laidEs.toList 0 = some (some (j, .func (.func (fnOf t)) #[] #[])) := by
  have : t = 0 ∨ t = 1 ∨ t = 2 ∨ t = 3 ∨ t = 4 := by omega
  rcases this with rfl | rfl | rfl | rfl | rfl <;> exact ⟨_, rfl⟩
/-- The int64 of a value that came in. -/
def Rng (r : AV) : Prop := -9223372036854775808 ≤ r.2.1 ∧ r.2.1 ≤ 9223372036854775807
theorem lay_call (r : AV) (hc : checkE r = 0) (hr : Rng r) (w : World) (R : Ending → World → Prop) (h : Makes w (layB r) R) :
    (∀ args w, (callFunc (fnOf r.1) args).run Try.prog w = .ok (.enter (fnOf r.1) args) w) ∧ Calls Try.prog (fnOf r.1) #[vVal r] w R := by
  obtain ⟨t, n, s⟩ := r
  have hs : s.size ≤ 1000 := by
    simp only [checkE] at hc
    rcases Nat.lt_or_ge 1000 s.size with h1 | h1
    · rw [if_pos h1] at hc; omega
    · exact h1
  have hrange : 0 ≤ t ∧ t ≤ 4 ∧ (t = 1 → n = 0 ∨ n = 1) := by
    simp only [checkE] at hc
    rw [if_neg (by omega)] at hc
    split at hc
    · omega
    · rename_i hh; refine ⟨by omega, by omega, fun h1 => by omega⟩
  have : t = 0 ∨ t = 1 ∨ t = 2 ∨ t = 3 ∨ t = 4 := by omega
  rcases this with rfl | rfl | rfl | rfl | rfl
  · exact ⟨Try.call115, lay115 _ w R (by simpa [layB] using h)⟩
  · have hn := hrange.2.2 rfl
    exact ⟨Try.call116, lay116 _ (by show 0 ≤ n; omega) (by show n ≤ 1; omega) w R (by simpa [layB] using h)⟩
  · exact ⟨Try.call117, lay117 _ hr.1 hr.2 w R (by simpa [layB] using h)⟩
  · exact ⟨Try.call113, lay113 _ (by show s.size ≤ 1000000; omega) w R (by simpa [layB] using h)⟩
  · exact ⟨Try.call113, lay113 _ (by show s.size ≤ 1000000; omega) w R (by simpa [layB] using h)⟩
end Go.L
namespace Go.L
open Go Go.RowKit Go.Proofs
set_option linter.unusedSimpArgs false
set_option linter.unusedVariables false

theorem kCallV_y {P : Program} {X : Chain → World → Prop} {w : World} {l : Nat} {args : Array Value} {R : Ending → World → Prop} {k : Value → World → Prop} (h : YieldC P l args w R) (hk : ∀ e w', R e w' → after k X e w') :
    kCallV ⟨P, X, false⟩ w (.func (.yield l) #[] #[]) args k := by
  obtain ⟨fn, tmps, asn, body, hrun, hr⟩ := h
  refine ⟨?_⟩
  show kNext _ _ _
  have : (do let d ← Deferred.ofValue (.func (.yield l) #[] #[]) args; invoke d.target d.args : Sem Next).run P w = .ok (.round l fn tmps asn body) w := by
    simp [Deferred.ofValue, invoke, hrun]
  rw [this]
  exact hr.mono hk

theorem iter112 {rows : List AV} {w : World} {b : Nat} {a : Option Addr} {cp : Nat} (hbox : w.heap[b]? = some (.cells #[.slice a rows.length cp] 22 (0, 0))) (hlen : rows.length ≤ 4611686018427387904) {J : Nat → World → Prop}
    (hJ : ∀ i W, J i W → Sl W a 3 (rows.map vVal)) : Iter Try.prog (.func (.func 112) #[] #[.pointer (some ⟨b, 0, none⟩)]) rows.length (fun i => [(rows.map vVal).getD i undef].toArray) J w := by
  refine ⟨112, #[.pointer (some ⟨b, 0, none⟩)], rfl, Try.call112, ?_⟩
  intro l J' Z' W hB hsJ hsZ hJ' hy h0
  show Calls Try.prog 112 #[.func (.yield l) #[] #[], .pointer (some ⟨b, 0, none⟩)] W _
  refine c112 _ _ _ _ ?_
  unfold vc112
  have hbl : b < w.heap.size := (Array.getElem?_eq_some_iff.1 hbox).1
  have hcell : W.cell? ⟨b, 0, none⟩ = some (.slice a rows.length cp) := by
    rw [cell_of_row W b 0 #[.slice a rows.length cp] 22 (0, 0) (by rw [hB.block b hbl]; exact hbox)]; rfl
  refine kLdS rfl hcell (kLen22 ⟨⟨fun cs V => ∃ i : Nat, cs = [.int .i64 i] ∧ i ≤ rows.length ∧ J' i V, fun cs _ => rows.length - (match cs with | [.int _ i] => i.toNat | _ => 0), ⟨0, rfl, Nat.zero_le _, h0⟩, ?_⟩⟩)
  rintro cs ds V ⟨i, rfl, hile, hJi⟩
  dsimp only [List.getD_cons_zero]
  refine kBin_lss (kIf_d (fun e => ?_) (fun e => ?_))
  · have hil : i < rows.length := by omega
    obtain ⟨pb, po, rfl, hpb, hpr⟩ := (hJ i V (hJ' i V hJi)).elem (i := i) (v := vVal rows[i]) (by simp [hil])
    refine kIa22 hil (kLd49 hpr (kAlloc_st Try.zeroValue49 (St.start V) fun b3 V1 hS => kStoreA_st hS 0 rfl rfl (by simp [Value.oneCell']) Try.sizeOf49 fun V2 hS => kLoadA_st (c := ⟨Try.prog, _, false⟩) hS 0 rfl Try.underlying49 rfl Try.sizeOf49 rfl ?_))
    have hx : ([(rows.map vVal).getD i undef] : List Value).toArray = #[vVal rows[i]] := by simp [hil]
    have hyy := hy i V2 hil (hsJ i V V2 hJi hS.below)
    dsimp only at hyy
    rw [hx] at hyy
    refine kCallV_y hyy ?_
    intro en W' hen
    cases en with
    | outgrown => exact hen.elim
    | panicked ch => exact hen
    | returned v =>
      rcases hen with ⟨rfl, hj⟩ | ⟨rfl, hz⟩
      · refine kUn_not (kIf_f (kBin_add (kD_i ⟨⟨i + 1, by rw [wrap_id (by omega) (by omega)]; rfl, hil, hj⟩, ?_⟩)))
        rw [wrap_id (by omega) (by omega)]; show rows.length - ((i : Int) + 1).toNat < rows.length - (i : Int).toNat; omega
      · exact kUn_not (kIf_t (.inr hz))
  · have : i = rows.length := by omega
    subst this
    exact .inl hJi

theorem values78 (a : Option Addr) (n cp : Nat) (w : World) (R : Ending → World → Prop) (h : ∀ b W, Below w.heap.size w W → w.heap.size ≤ b → W.heap[b]? = some (.cells #[.slice a n cp] 22 (0, 0)) → R (.returned (.func (.func 112) #[] #[.pointer (some ⟨b, 0, none⟩)])) W) :
    Calls Try.prog 78 #[.slice a n cp] w R := by
  refine c78 _ _ _ _ _ ?_
  unfold vc78
  refine kBox_st (St.start w) fun b W hS => h b W hS.below (hS.get 0 rfl).1 (hS.get 0 rfl).2
end Go.L
namespace Go.L
open Go Go.RowKit Go.Proofs
set_option linter.unusedSimpArgs false
set_option linter.unusedVariables false

theorem St.take {w0 : World} {L : List Own} {W : World} (h : St w0 L W) (k : Nat) : St w0 (L.take k) W :=
  ⟨h.below, fun o ho => h.all o (List.mem_of_mem_take ho), fun i j a b ha hb hij => by
    have key : ∀ (i : Nat) (a : Own), (L.take k)[i]? = some a → L[i]? = some a := fun i a ha => by
      by_cases hi : i < k
      · rwa [List.getElem?_take_of_lt hi] at ha
      · rw [List.getElem?_eq_none (by simp; omega)] at ha; cases ha
    exact h.apart i j a b (key i a ha) (key j b hb) hij⟩

/-- Cells only. -/
def Own.cl : Own → Prop
  | .ob _ _ => False
  | _ => True
theorem Own.cl_blk {base : Nat} {W : World} {o : Own} (h : o.holds base W) (hc : o.cl) : ∀ b, o.blk = some b → ∃ c t f, W.heap[b]? = some (.cells c t f) := by
  intro b hb
  cases o with
  | bx b' t cs => cases hb; exact ⟨_, _, _, h.2⟩
  | row x e sz n xs =>
    rcases h.2 with ⟨rfl, _⟩ | ⟨g, cap, cur, rfl, _, hg, _⟩
    · cases hb
    · cases hb; exact ⟨_, _, _, hg⟩
  | ob b' o => exact hc.elim
theorem St.turn {w0 : World} {L : List Own} {W W' : World} {row : Option Nat} (h : St w0 L W) (hcl : ∀ o ∈ L, o.cl) (hg : W.grownBy W' row) (hr : ∀ r, row = some r → w0.heap.size ≤ r ∧ ∃ o : Obj, W.heap[r]? = some o ∧ o.isCells = false) : St w0 L W' := by
  refine ⟨h.below.grown hg h.size fun k hk => (hr k hk).1, fun o ho => Own.kept (h.all o ho) hg ?_, h.apart⟩
  cases hb : o.blk with
  | none => exact .inl rfl
  | some b =>
    right
    intro he
    obtain ⟨_, o', ho', hn⟩ := hr b he.symm
    obtain ⟨c, t, f, hc⟩ := Own.cl_blk (h.all o ho) (hcl o ho) b hb
    rw [hc] at ho'
    cases ho'
    simp [Obj.isCells] at hn
theorem Below.turn {w0 W W' : World} {row : Option Nat} (h : Below w0.heap.size w0 W) (hg : W.grownBy W' row) (hr : ∀ r, row = some r → w0.heap.size ≤ r ∧ ∃ o : Obj, W.heap[r]? = some o ∧ o.isCells = false) : Below w0.heap.size w0 W' :=
  h.grown hg h.size fun k hk => (hr k hk).1

/-- Something that was there already comes under watch. -/
theorem St.adopt {w0 W : World} {L : List Own} (h : St w0 L W) {o : Own} (ho : o.holds w0.heap.size W) (hne : ∀ p ∈ L, p.blk = none ∨ p.blk ≠ o.blk) : St w0 (L ++ [o]) W := by
  refine ⟨h.below, fun p hp => ?_, fun i j a b ha hb hij => ?_⟩
  · rcases List.mem_append.1 hp with hp | hp
    · exact h.all p hp
    · simp at hp; subst hp; exact ho
  · have key : ∀ (i : Nat) (a : Own), (L ++ [o])[i]? = some a → (i < L.length ∧ L[i]? = some a) ∨ (i = L.length ∧ a = o) := by
      intro i a ha
      by_cases hi : i < L.length
      · rw [List.getElem?_append_left hi] at ha; exact .inl ⟨hi, ha⟩
      · have hlt := (List.getElem?_eq_some_iff.1 ha).1
        simp at hlt
        have : i = L.length := by omega
        subst this
        simp at ha
        exact .inr ⟨rfl, ha.symm⟩
    rcases key i a ha with ⟨_, ha'⟩ | ⟨hi, hao⟩ <;> rcases key j b hb with ⟨_, hb'⟩ | ⟨hj, hbo⟩
    · exact h.apart i j a b ha' hb' hij
    · rw [hbo]; exact hne a (List.mem_of_getElem? ha')
    · rw [hao]
      rcases hne b (List.mem_of_getElem? hb') with h1 | h1
      · cases hk : o.blk with
        | none => exact .inl rfl
        | some k => exact .inr (by rw [h1]; simp)
      · exact .inr (Ne.symm h1)
    · exact absurd (hi.trans hj.symm) hij

/-- What an encoding panics with: the first value that does not check. -/
def badE : List AV → Int
  | [] => 0
  | r :: rs => if checkE r ≠ 0 then checkE r else badE rs
def encB (rows : List AV) : List Nat := numB rows.length ++ rows.flatMap (fun r => r.1.toNat :: layB r)
def encE (rows : List AV) : Int := if badE rows ≠ 0 then badE rows else if rows.length ≤ 32 ∧ (encB rows).length ≤ 4000 then 0 else 3

theorem kAppRow_st {P : Program} {X : Chain → World → Prop} {w w0 : World} {t e : TypeId} {sz by_ : Nat} (E : Elt P t e sz by_) {L : List Own} (hS : St w0 L w) (i j : Nat) {n m : Nat} {x y : Value} {xs ys : List Value} (hi : L[i]? = some (.row x e sz n xs)) (hj : L[j]? = some (.row y e sz m ys))
    {cs : Array Bool} {ty : TypeId} {k : Value → World → Prop} (h1 : ∀ u ∈ ys, u.oneCell' = true) (hmax : n + m ≤ maxLen) (hby : (n + m) * by_ ≤ 140737488355328)
    (h : ∀ x' W, St w0 (L.set i (.row x' e sz (n + m) (xs ++ ys))) W → k x' W) : kBlt ⟨P, X, false⟩ w .append #[t, t] ty cs #[x, y] k := by
  obtain ⟨ii, z, hin, hz, hs, hb, hzs⟩ := E.info
  have hx : w.ownsRow w0.heap.size e sz x n xs := hS.get i hi
  have hy : w.ownsRow w0.heap.size e sz y m ys := hS.get j hj
  have fin : ∀ x' W, (Builtin.append_ #[t, t] ty #[x, y]).run P w = .ok x' W → W.ownsRow w0.heap.size e sz x' (n + m) (xs ++ ys) → w.grownBy W x.ownBlock → (x'.ownBlock = x.ownBlock ∨ x'.ownBlock = some w.heap.size) → kBlt ⟨P, X, false⟩ w .append #[t, t] ty cs #[x, y] k := by
    intro x' W hr ho hg hbk
    refine ⟨?_⟩
    show kNext _ _ _
    simp only [builtin, Sem.run_bind, hr, Result.andThen_ok, Sem.run_pure]
    refine h x' W (hS.set i hi hg ho (hbk.imp id fun hb k hk => ?_))
    have hk : x'.ownBlock = some k := hk
    rw [hb] at hk; cases hk; exact Nat.le_refl _
  rcases hy.2 with ⟨rfl, rfl⟩ | ⟨g, cap, cur, rfl, _, hg, _⟩
  · have hys : ys = [] := List.eq_nil_of_length_eq_zero (by simpa using hy.1)
    subst hys
    refine fin x w (run_append_owned_none w w0.heap.size t ty e ii sz E.sl hin x n xs hx) (by simpa using hx) ⟨rfl, rfl, rfl, Nat.le_refl _, fun _ _ _ => rfl⟩ (.inl rfl)
  · obtain ⟨v', w', hr, h2, h3, _, h5⟩ := run_append_own_at (P := P) w w0.heap.size t ty e ii z sz by_ E.sl hin hz hs hb hzs E.pos x n xs hx ⟨g, 0, none⟩ m cap ys hy.1 (hy.cells rfl) h1 hmax hby hS.size
    exact fin v' w' hr h2 h3 h5
/-- A slice literal: a new row. -/
theorem kBuildS_st {P : Program} {X : Chain → World → Prop} {w w0 : World} {t e : TypeId} {sz by_ : Nat} (E : Elt P t e sz by_) {L : List Own} (hS : St w0 L w) (vs : List Value) {n : Nat} {parts : Array (Nat × Value)} {k : Value → World → Prop} (hp : parts.toList = (vs.zipIdx 0).map fun x => (x.2, x.1)) (hn : vs.length = n) (h0 : 0 < n) (h1 : n ≤ 1024)
    (hv : ∀ v ∈ vs, v.cells.size = sz) (h : ∀ x W, St w0 (L ++ [.row x e sz n (flat vs)]) W → k x W) : kBuildS ⟨P, X, false⟩ w t n parts k :=
  kBuildS_row E hS.size vs hp hn h0 h1 hv fun x W ho hg hb => h x W (hS.push hg ho hb)
/-- What a call has made. -/
theorem St.made {w0 w W : World} {L : List Own} (hS : St w0 L w) (hB : Below w.heap.size w W) {x : Value} {e : TypeId} {sz n : Nat} {xs : List Value} (ho : W.ownsRow w.heap.size e sz x n xs) : St w0 (L ++ [.row x e sz n xs]) W :=
  hS.push (grown_of_below hB) (ownsRow_rebase ho hS.size) fun k hk => (World.ownsRow.lt ho k hk).1
end Go.L
namespace Go.L
open Go Go.RowKit Go.Proofs
set_option linter.unusedSimpArgs false
set_option linter.unusedVariables false

section
variable (w0 : World) (r : AV) (b3 bv b4 : Nat) (q1 q2 : Own) (x sl : Value) (m : Nat) (bs : List Nat)
/-- What is owned around the region. -/
def eL (x' : Value) (n : Nat) (ys : List Nat) : List Own := [.row x' 5 1 n (ys.map vB), .bx b3 38 #[x], .bx bv 22 #[sl], .bx b4 49 (vVal r).cells, q1, q2]
def eVal : Nat → Value := fun j => ([x, .pointer (some ⟨b4, 0, none⟩), .int .i64 r.1, vB r.1.toNat, undef, undef, undef, .pointer (some ⟨b4, 0, none⟩), .int .i64 r.1, .func (.func (fnOf r.1)) #[] #[], vVal r] : List Value).getD j undef
def eIs (j : Nat) : Bool := j == 4 || j == 5 || j == 6 || j == 11 || j == 12
def ePh (S : Nat → Bool) (vs : Nat → Value) (W : World) : Prop :=
  if S 12 then St w0 (eL r b3 bv b4 q1 q2 x sl (vs 12) (m + 1 + (layB r).length) (bs ++ [r.1.toNat] ++ layB r)) W
  else if S 11 then St w0 (eL r b3 bv b4 q1 q2 x sl (vs 5) (m + 1) (bs ++ [r.1.toNat]) ++ [.row (vs 11) 5 1 (layB r).length ((layB r).map vB)]) W
  else if S 6 then ∃ g, vs 6 = .map (some g) ∧ St w0 (eL r b3 bv b4 q1 q2 x sl (vs 5) (m + 1) (bs ++ [r.1.toNat]) ++ [.ob g (.map laidEs 5)]) W
  else if S 5 then St w0 (eL r b3 bv b4 q1 q2 x sl (vs 5) (m + 1) (bs ++ [r.1.toNat])) W
  else if S 4 then St w0 (eL r b3 bv b4 q1 q2 x sl x m bs ++ [.row (vs 4) 5 1 1 [vB r.1.toNat]]) W
  else St w0 (eL r b3 bv b4 q1 q2 x sl x m bs) W
def eInv : PInv := fun S vs W => (∀ j, S j = true → eIs j = false → vs j = eVal r b4 x j) ∧ ePh w0 r b3 bv b4 q1 q2 x sl m bs S vs W

variable {w0 r b3 bv b4 q1 q2 x sl m bs}
theorem ePh_keep {S : Nat → Bool} {vs : Nat → Value} {W : World} {i : Nat} {v : Value} (hi : eIs i = false) (h : ePh w0 r b3 bv b4 q1 q2 x sl m bs S vs W) : ePh w0 r b3 bv b4 q1 q2 x sl m bs (inc S i) (setV vs i v) W := by
  simp only [eIs, Bool.or_eq_false_iff, beq_eq_false_iff_ne] at hi
  obtain ⟨⟨⟨⟨h4, h5⟩, h6⟩, h11⟩, h12⟩ := hi
  have e : ∀ j, j ≠ i → inc S i j = S j ∧ setV vs i v j = vs j := fun j hj => by simp [inc, setV, hj]
  simp only [ePh, (e 4 (Ne.symm h4)).1, (e 5 (Ne.symm h5)).1, (e 6 (Ne.symm h6)).1, (e 11 (Ne.symm h11)).1, (e 12 (Ne.symm h12)).1, (e 4 (Ne.symm h4)).2, (e 5 (Ne.symm h5)).2, (e 6 (Ne.symm h6)).2, (e 11 (Ne.symm h11)).2, (e 12 (Ne.symm h12)).2] at h ⊢
  exact h
theorem eInv_pure {S : Nat → Bool} {vs : Nat → Value} {W : World} {i : Nat} {v : Value} (hi : eIs i = false) (h : eInv w0 r b3 bv b4 q1 q2 x sl m bs S vs W) (hv : v = eVal r b4 x i) : eInv w0 r b3 bv b4 q1 q2 x sl m bs (inc S i) (setV vs i v) W :=
  ⟨fun j hj hji => by
    by_cases e : j = i
    · subst e; simpa [setV] using hv
    · simp only [inc, show (j == i) = false by simpa using e, Bool.false_or] at hj
      simp only [setV, if_neg e]; exact h.1 j hj hji, ePh_keep hi h.2⟩
theorem eInv_eff {S : Nat → Bool} {vs : Nat → Value} {W W' : World} {i : Nat} {v : Value} (hi : eIs i = true) (h : eInv w0 r b3 bv b4 q1 q2 x sl m bs S vs W) (hp : ePh w0 r b3 bv b4 q1 q2 x sl m bs (inc S i) (setV vs i v) W') : eInv w0 r b3 bv b4 q1 q2 x sl m bs (inc S i) (setV vs i v) W' :=
  ⟨fun j hj hji => by
    have e : j ≠ i := fun e => by rw [e, hi] at hji; cases hji
    simp only [inc, show (j == i) = false by simpa using e, Bool.false_or] at hj
    simp only [setV, if_neg e]; exact h.1 j hj hji, hp⟩
/-- The boxes, in every phase. -/
theorem ePh_box {S : Nat → Bool} {vs : Nat → Value} {W : World} (h : ePh w0 r b3 bv b4 q1 q2 x sl m bs S vs W) : ∃ L, St w0 L W ∧ L[1]? = some (.bx b3 38 #[x]) ∧ L[3]? = some (.bx b4 49 (vVal r).cells) := by
  unfold ePh at h
  split at h
  · exact ⟨_, h, rfl, rfl⟩
  split at h
  · exact ⟨_, h, rfl, rfl⟩
  split at h
  · obtain ⟨g, _, h⟩ := h; exact ⟨_, h, rfl, rfl⟩
  split at h
  · exact ⟨_, h, rfl, rfl⟩
  split at h
  · exact ⟨_, h, rfl, rfl⟩
  · exact ⟨_, h, rfl, rfl⟩
end
end Go.L
namespace Go.L
open Go Go.RowKit Go.Proofs
set_option linter.unusedSimpArgs false
set_option linter.unusedVariables false

theorem numB_len : ∀ (k n : Nat), 1 ≤ k → n < 128 ^ k → (numB n).length ≤ k
  | 0, n, h, _ => by omega
  | k + 1, n, _, hn => by
    rw [numB]
    split
    · simp
    · rename_i h
      have hk : 1 ≤ k := by
        rcases Nat.eq_zero_or_pos k with rfl | hk
        · simp at hn; omega
        · exact hk
      have : n / 128 < 128 ^ k := by rw [Nat.pow_succ] at hn; omega
      have := numB_len k (n / 128) hk this
      simp; omega
theorem numB_len64 {n : Nat} (h : n < 18446744073709551616) : (numB n).length ≤ 10 :=
  numB_len 10 n (by omega) (Nat.lt_of_lt_of_le h (by decide))
theorem layB_len (r : AV) (hs : r.2.2.size ≤ 1000) (hr : Rng r) : (layB r).length ≤ 1020 := by
  obtain ⟨t, n, s⟩ := r
  have h1 : zig n < 18446744073709551616 := by
    obtain ⟨h1, h2⟩ := hr
    have h1 : -9223372036854775808 ≤ n := h1
    have h2 : n ≤ 9223372036854775807 := h2
    unfold zig; split <;> omega
  have hs : s.size ≤ 1000 := hs
  have h2 := numB_len64 h1
  have h3 := numB_len64 (n := s.size) (by omega)
  have h4 := bl_length s
  simp only [layB]
  split
  · simp
  split
  · omega
  split
  · rw [strB, List.length_append, h4]; omega
  · simp

theorem region41 {w0 V : World} {r : AV} {b3 bv b4 : Nat} {q1 q2 : Own} {x sl : Value} {m : Nat} {bs : List Nat} (hS : St w0 (eL r b3 bv b4 q1 q2 x sl x m bs) V) (hc : checkE r = 0) (hr : Rng r) (hmb : m ≤ 100000000) (hlay : (layB r).length ≤ 2000) {tail : (Nat → Value) → World → Prop}
    (ht : ∀ vs W, St w0 (eL r b3 bv b4 q1 q2 x sl (vs 12) (m + 1 + (layB r).length) (bs ++ [r.1.toNat] ++ layB r)) W → tail vs W) :
 kPar V 13 [[], [], [1], [2], [3], [0, 4], [5], [], [7], [6, 8], [], [9, 10, 6], [5, 11], [12, 0, 1, 2, 3, 4, 5, 6, 7, 8, 9, 10, 11]] (fun Inv Cl =>
 (∀ (S : Nat → Bool) (vs : Nat → Value) (w_15 : World), Inv S vs w_15 → Cl S → S 0 = false → (∀ j, j ∈ ([] : List Nat) → S j = true) →
 kLoad (cN Try.prog) w_15 38 (.pointer (some ⟨b3, 0, none⟩)) fun v19 w_16 =>
 Inv (inc S 0) (setV vs 0 v19) w_16) ∧
 (∀ (S_1 : Nat → Bool) (vs_1 : Nat → Value) (w_17 : World), Inv S_1 vs_1 w_17 → Cl S_1 → S_1 1 = false → (∀ j, j ∈ ([] : List Nat) → S_1 j = true) →
 kFa (cN Try.prog) w_17 49 (.pointer (some ⟨b4, 0, none⟩)) 0 fun v20 w_18 =>
 Inv (inc S_1 1) (setV vs_1 1 v20) w_18) ∧
 (∀ (S_2 : Nat → Bool) (vs_2 : Nat → Value) (w_19 : World), Inv S_2 vs_2 w_19 → Cl S_2 → S_2 2 = false → (∀ j, j ∈ ([1] : List Nat) → S_2 j = true) →
 kLoad (cN Try.prog) w_19 47 (vs_2 1) fun v21 w_20 =>
 Inv (inc S_2 2) (setV vs_2 2 v21) w_20) ∧
 (∀ (S_3 : Nat → Bool) (vs_3 : Nat → Value) (w_21 : World), Inv S_3 vs_3 w_21 → Cl S_3 → S_3 3 = false → (∀ j, j ∈ ([2] : List Nat) → S_3 j = true) →
 kConv (cN Try.prog) w_21 47 5 (vs_3 2) fun v22 w_22 =>
 Inv (inc S_3 3) (setV vs_3 3 v22) w_22) ∧
 (∀ (S_4 : Nat → Bool) (vs_4 : Nat → Value) (w_23 : World), Inv S_4 vs_4 w_23 → Cl S_4 → S_4 4 = false → (∀ j, j ∈ ([3] : List Nat) → S_4 j = true) →
 kBuildS (cN Try.prog) w_23 38 1 #[(0, (vs_4 3))] fun v23 w_24 =>
 Inv (inc S_4 4) (setV vs_4 4 v23) w_24) ∧
 (∀ (S_5 : Nat → Bool) (vs_5 : Nat → Value) (w_25 : World), Inv S_5 vs_5 w_25 → Cl S_5 → S_5 5 = false → (∀ j, j ∈ ([0, 4] : List Nat) → S_5 j = true) →
 kBlt (cN Try.prog) w_25 .append #[38, 38] 38 #[false, false] #[(vs_5 0), (vs_5 4)] fun v24 w_26 =>
 Inv (inc S_5 5) (setV vs_5 5 v24) w_26) ∧
 (∀ (S_6 : Nat → Bool) (vs_6 : Nat → Value) (w_27 : World), Inv S_6 vs_6 w_27 → Cl S_6 → S_6 6 = false → (∀ j, j ∈ ([5] : List Nat) → S_6 j = true) →
 kCall (cN Try.prog) w_27 79 #[] fun v25 w_28 =>
 Inv (inc S_6 6) (setV vs_6 6 v25) w_28) ∧
 (∀ (S_7 : Nat → Bool) (vs_7 : Nat → Value) (w_29 : World), Inv S_7 vs_7 w_29 → Cl S_7 → S_7 7 = false → (∀ j, j ∈ ([] : List Nat) → S_7 j = true) →
 kFa (cN Try.prog) w_29 49 (.pointer (some ⟨b4, 0, none⟩)) 0 fun v26 w_30 =>
 Inv (inc S_7 7) (setV vs_7 7 v26) w_30) ∧
 (∀ (S_8 : Nat → Bool) (vs_8 : Nat → Value) (w_31 : World), Inv S_8 vs_8 w_31 → Cl S_8 → S_8 8 = false → (∀ j, j ∈ ([7] : List Nat) → S_8 j = true) →
 kLoad (cN Try.prog) w_31 47 (vs_8 7) fun v27 w_32 =>
 Inv (inc S_8 8) (setV vs_8 8 v27) w_32) ∧
 (∀ (S_9 : Nat → Bool) (vs_9 : Nat → Value) (w_33 : World), Inv S_9 vs_9 w_33 → Cl S_9 → S_9 9 = false → (∀ j, j ∈ ([6, 8] : List Nat) → S_9 j = true) →
 kLook (cN Try.prog) w_33 126 (vs_9 6) (vs_9 8) false fun v28 w_34 =>
 Inv (inc S_9 9) (setV vs_9 9 v28) w_34) ∧
 (∀ (S_10 : Nat → Bool) (vs_10 : Nat → Value) (w_35 : World), Inv S_10 vs_10 w_35 → Cl S_10 → S_10 10 = false → (∀ j, j ∈ ([] : List Nat) → S_10 j = true) →
 kLoad (cN Try.prog) w_35 49 (.pointer (some ⟨b4, 0, none⟩)) fun v29 w_36 =>
 Inv (inc S_10 10) (setV vs_10 10 v29) w_36) ∧
 (∀ (S_11 : Nat → Bool) (vs_11 : Nat → Value) (w_37 : World), Inv S_11 vs_11 w_37 → Cl S_11 → S_11 11 = false → (∀ j, j ∈ ([9, 10, 6] : List Nat) → S_11 j = true) →
 kCallV (cN Try.prog) w_37 (vs_11 9) #[(vs_11 10)] fun v30 w_38 =>
 Inv (inc S_11 11) (setV vs_11 11 v30) w_38) ∧
 (∀ (S_12 : Nat → Bool) (vs_12 : Nat → Value) (w_39 : World), Inv S_12 vs_12 w_39 → Cl S_12 → S_12 12 = false → (∀ j, j ∈ ([5, 11] : List Nat) → S_12 j = true) →
 kBlt (cN Try.prog) w_39 .append #[38, 38] 38 #[false, false] #[(vs_12 5), (vs_12 11)] fun v31 w_40 =>
 Inv (inc S_12 12) (setV vs_12 12 v31) w_40) ∧
 True) tail := by
  have hrange : 0 ≤ r.1 ∧ r.1 ≤ 4 := by
    simp only [checkE] at hc
    split at hc
    · omega
    · split at hc
      · omega
      · rename_i h; omega
  refine ⟨eInv w0 r b3 bv b4 q1 q2 x sl m bs, fun vs => ⟨fun j h => (by cases h), by simpa [ePh] using hS.drewN 1⟩, ⟨?_, ?_, ?_, ?_, ?_, ?_, ?_, ?_, ?_, ?_, ?_, ?_, ?_, trivial⟩, fun S vs W hI hd => ht vs W (by have := hI.2; unfold ePh at this; rwa [if_pos (hd 12 (by omega))] at this)⟩
  · intro S vs W hI hC hSi hd
    obtain ⟨L, hL, h1, h3⟩ := ePh_box hI.2
    exact kLd hL 1 h1 rfl rfl (eInv_pure rfl hI rfl)
  · intro S vs W hI hC hSi hd
    exact kFa49 _ (by omega) (eInv_pure rfl hI rfl)
  · intro S vs W hI hC hSi hd
    rw [hI.1 1 (hd 1 (by simp)) rfl]
    obtain ⟨L, hL, h1, h3⟩ := ePh_box hI.2
    exact kLd hL 3 h3 rfl rfl (eInv_pure rfl hI rfl)
  · intro S vs W hI hC hSi hd
    rw [hI.1 2 (hd 2 (by simp)) rfl]
    refine kConv_int (c := ⟨Try.prog, _, false⟩) (q' := .u8) (by rw [show (Cx.mk Try.prog _ false).P.underlying 47 = _ from Try.underlying47]; rfl) Try.underlying5 (eInv_pure rfl hI ?_)
    show Value.int .u8 (IntKind.u8.wrap r.1) = vB r.1.toNat
    have : IntKind.u8.wrap r.1 = (r.1.toNat : Int) := by simp [IntKind.wrap, IntKind.bits, IntKind.signed]; omega
    rw [this]; rfl
  · intro S vs W hI hC hSi hd
    have f5 : S 5 = false := by cases h : S 5 with | false => rfl | true => exact absurd (hC 5 h 4 (by simp)) (by simp [hSi])
    have f6 : S 6 = false := by cases h : S 6 with | false => rfl | true => exact absurd (hC 6 h 5 (by simp)) (by simp [f5])
    have f11 : S 11 = false := by cases h : S 11 with | false => rfl | true => exact absurd (hC 11 h 6 (by simp)) (by simp [f6])
    have f12 : S 12 = false := by cases h : S 12 with | false => rfl | true => exact absurd (hC 12 h 5 (by simp)) (by simp [f5])
    rw [hI.1 3 (hd 3 (by simp)) rfl]
    have hp := hI.2
    simp only [ePh, f12, f11, f6, f5, hSi, Bool.false_eq_true, if_false] at hp
    refine kBuildS_st (E38 W) hp [vB r.1.toNat] rfl rfl (by omega) (by omega) (by simp [vB_size]) fun y W' hS' => eInv_eff rfl hI ?_
    have h2 : St w0 (eL r b3 bv b4 q1 q2 x sl x m bs ++ [Own.row y 5 1 1 [vB r.1.toNat]]) W' := hS'
    simpa [ePh, inc, setV, f12, f11, f6, f5] using h2
  · intro S vs W hI hC hSi hd
    have f6 : S 6 = false := by cases h : S 6 with | false => rfl | true => exact absurd (hC 6 h 5 (by simp)) (by simp [hSi])
    have f11 : S 11 = false := by cases h : S 11 with | false => rfl | true => exact absurd (hC 11 h 6 (by simp)) (by simp [f6])
    have f12 : S 12 = false := by cases h : S 12 with | false => rfl | true => exact absurd (hC 12 h 5 (by simp)) (by simp [hSi])
    have t4 := hd 4 (by simp)
    rw [hI.1 0 (hd 0 (by simp)) rfl]
    have hp := hI.2
    simp only [ePh, f12, f11, f6, hSi, t4, Bool.false_eq_true, if_false, if_true] at hp
    refine kAppRow_st (E38 W) hp 0 6 rfl rfl (by simp [vB, Value.oneCell']) (by simp [maxLen]; omega) (by omega) fun y W' hS' => eInv_eff rfl hI ?_
    have h2 := hS'.take 6
    simp only [ePh, inc, setV, f12, f11, f6]
    simpa [eL] using h2
  · intro S vs W hI hC hSi hd
    have f11 : S 11 = false := by cases h : S 11 with | false => rfl | true => exact absurd (hC 11 h 6 (by simp)) (by simp [hSi])
    have f12 : S 12 = false := by cases h : S 12 with | false => rfl | true => exact absurd (hC 12 h 11 (by simp)) (by simp [f11])
    have t5 := hd 5 (by simp)
    have hp := hI.2
    simp only [ePh, f12, f11, hSi, t5, Bool.false_eq_true, if_false, if_true] at hp
    refine kCall_i (Try.call79 _ _) (laid79 _ _ fun b W' hB hb hm => eInv_eff rfl hI ?_)
    have h2 := hp.push (grown_of_below hB) (o := .ob b (.map laidEs 5)) ⟨Nat.le_trans hp.size hb, hm⟩ (fun k hk => by cases hk; exact hb)
    simp only [ePh, inc, setV, f12, f11]
    exact ⟨b, rfl, by simpa using h2⟩
  · intro S vs W hI hC hSi hd
    exact kFa49 _ (by omega) (eInv_pure rfl hI rfl)
  · intro S vs W hI hC hSi hd
    rw [hI.1 7 (hd 7 (by simp)) rfl]
    obtain ⟨L, hL, h1, h3⟩ := ePh_box hI.2
    exact kLd hL 3 h3 rfl rfl (eInv_pure rfl hI rfl)
  · intro S vs W hI hC hSi hd
    have t6 := hd 6 (by simp)
    have f11 : S 11 = false := by cases h : S 11 with | false => rfl | true => exact absurd (hC 11 h 9 (by simp)) (by simp [hSi])
    have f12 : S 12 = false := by cases h : S 12 with | false => rfl | true => exact absurd (hC 12 h 11 (by simp)) (by simp [f11])
    rw [hI.1 8 (hd 8 (by simp)) rfl]
    have hp := hI.2
    simp only [ePh, f12, f11, t6, Bool.false_eq_true, if_false, if_true] at hp
    obtain ⟨g, hg, hp⟩ := hp
    rw [hg]
    obtain ⟨j, hj⟩ := laid_find r.1 hrange.1 hrange.2
    exact kLook_map (c := ⟨Try.prog, _, false⟩) (hp.get 6 rfl).2 Try.underlying126 Try.underlying47 rfl hj (eInv_pure rfl hI rfl)
  · intro S vs W hI hC hSi hd
    obtain ⟨L, hL, h1, h3⟩ := ePh_box hI.2
    exact kLoadA_st (c := ⟨Try.prog, _, false⟩) hL 3 h3 Try.underlying49 rfl Try.sizeOf49 rfl (eInv_pure rfl hI rfl)
  · intro S vs W hI hC hSi hd
    have t6 := hd 6 (by simp)
    have f12 : S 12 = false := by cases h : S 12 with | false => rfl | true => exact absurd (hC 12 h 11 (by simp)) (by simp [hSi])
    rw [hI.1 9 (hd 9 (by simp)) rfl, hI.1 10 (hd 10 (by simp)) rfl]
    have hp := hI.2
    simp only [ePh, f12, hSi, t6, Bool.false_eq_true, if_false, if_true] at hp
    obtain ⟨g, hg, hp⟩ := hp
    have hlc := lay_call r hc hr W
    refine kCallV_i ((hlc (fun _ _ => True) (fun _ _ _ _ => trivial)).1 _ _) ((hlc _ fun y W' hB ho => ?_).2)
    refine eInv_eff rfl hI ?_
    have h2 := (hp.take 6).made hB ho
    simp only [ePh, inc, setV, f12]
    simpa [eL] using h2
  · intro S vs W hI hC hSi hd
    have t5 := hd 5 (by simp)
    have t11 := hd 11 (by simp)
    have hp := hI.2
    simp only [ePh, hSi, t11, Bool.false_eq_true, if_false, if_true] at hp
    refine kAppRow_st (E38 W) hp 0 6 rfl rfl (by simp [vB, Value.oneCell']) (by simp [maxLen]; omega) (by omega) fun y W' hS' => eInv_eff rfl hI ?_
    have h2 := hS'.take 6
    simp only [ePh, inc, setV]
    simpa [eL] using h2
end Go.L
