/- Contracts of single functions: no condition but those that each states. -/
import Derived.Test.YtfajbldbhkkfoaaDoorB1
import Derived.Below
import Derived.Carry
import Derived.ChangeArms
import Derived.Deep.AppendLies
import Derived.Deep.MidRow
import Derived.Great.BuildSlice
import Derived.JoinedCond
import Derived.Laws.Build
import Derived.Laws.BytesArg
import Derived.Laws.Cover1
import Derived.Laws.Slices
import Derived.Laws.Small
import Derived.Laws.StructEq
import Derived.Laws.Tables
import Derived.Lib.AppendStr
import Derived.OpenShut
import Derived.ProofKit
import Derived.Tactics
import Derived.Tactics2
import Derived.WideMake
set_option linter.unusedVariables false
set_option linter.unusedSimpArgs false
namespace Go.L
open Go Go.RowKit Go.Proofs
set_option linter.unusedSimpArgs false
set_option linter.unusedVariables false

def unit : Value := .tuple #[]
def pe (n : Int) (r : Bool) : PanicEntry := { v := .iface 26 (.int .i64 n), recovered := r }
theorem run_ta28 (v : Value) (w : World) : (Instr.typeAssert (.iface 26 v) 20 26 false).run Tryd.prog w = .ok v w := by
  simp [Instr.typeAssert, run_underlying Tryd.underlying26]
theorem caught_idle39 (p c : Value) (w : World) : CallsD Tryd.prog 22 #[p, c] .returning w fun e u' w' => e = .returned unit ∧ u' = .returning ∧ w' = w := by
  refine callsD_of_wpS Tryd.func22 rfl fun c₀ cs hu => ?_
  apply wpS_seq
  apply wpS_region
  simp [wpOpsS, go_sem, recoverD, hu, Tryd.ntmps22, Exit.thenS, Tryd.underlying20]
  apply wpS_seq
  apply wpS_region
  simp [wpOpsS, go_sem, recoverD, hu, Tryd.ntmps22, Exit.thenS, Tryd.underlying20]
  refine wpS_cond (t := false) (by simp [Act.eval, Array.replicate]) ?_
  simp only [Bool.false_eq_true, if_false]
  refine wpS_of_wp (wp_skip ?_)
  cases c₀
  simp_all [bodyPostS, results, Tryd.results39, unit]
theorem caught_panics39 (p : Addr) (x n : Int) (fc : FuncId) (caps : Array Value) (Rc : World → Prop) (w : World) (hc : w.cell? p = some (.int .i64 x)) (hz : w.frozen? p = false)
    (hf : ∀ args w, (callFunc fc args).run Tryd.prog w = .ok (.enter fc args) w) (hcl : Calls Tryd.prog fc caps (w.setCell p (.int .i64 n)) fun e w' => e = .returned unit ∧ Rc w') :
    CallsD Tryd.prog 22 #[.pointer (some p), .func (.func fc) #[] caps] (.panicking [pe n false]) w fun e u' w' =>
      e = .returned unit ∧ u' = .panicking [pe n true] ∧ Rc w' := by
  refine callsD_of_wpS Tryd.func22 rfl fun c₀ cs hu => ?_
  apply wpS_seq
  apply wpS_region
  simp [wpOpsS, go_sem, recoverD, hu, Tryd.ntmps22, Exit.thenS, Tryd.underlying20, pe]
  apply wpS_seq
  apply wpS_region
  simp [wpOpsS, go_sem, recoverD, hu, Tryd.ntmps22, Exit.thenS, Tryd.underlying20]
  refine wpS_cond (t := true) (by simp [Act.eval, Array.replicate]) ?_
  simp only [if_true]
  apply wpS_seq
  apply wpS_region
  simp [wpOpsS, go_sem, run_ta28, hc, hz, bodyPostS, results, Tryd.results39, Exit.thenS, Tryd.underlying26, Tryd.sizeOf26]
  apply wpS_region
  simp [wpOpsS, go_sem, hf, hc, hz, bodyPostS, results, Tryd.results39, Exit.thenS, Oper.upon]
  refine hcl.mono ?_
  rintro e w' ⟨rfl, h⟩
  exact ⟨rfl, h⟩
theorem caught_idle87 (p c : Value) (w : World) : CallsD Tryd.prog 82 #[p, c] .returning w fun e u' w' => e = .returned unit ∧ u' = .returning ∧ w' = w := by
  refine callsD_of_wpS Tryd.func82 rfl fun c₀ cs hu => ?_
  apply wpS_seq
  apply wpS_region
  simp [wpOpsS, go_sem, recoverD, hu, Tryd.ntmps82, Exit.thenS, Tryd.underlying20]
  apply wpS_seq
  apply wpS_region
  simp [wpOpsS, go_sem, recoverD, hu, Tryd.ntmps82, Exit.thenS, Tryd.underlying20]
  refine wpS_cond (t := false) (by simp [Act.eval, Array.replicate]) ?_
  simp only [Bool.false_eq_true, if_false]
  refine wpS_of_wp (wp_skip ?_)
  cases c₀
  simp_all [bodyPostS, results, Tryd.results87, unit]
theorem caught_panics87 (p : Addr) (x n : Int) (fc : FuncId) (caps : Array Value) (Rc : World → Prop) (w : World) (hc : w.cell? p = some (.int .i64 x)) (hz : w.frozen? p = false)
    (hf : ∀ args w, (callFunc fc args).run Tryd.prog w = .ok (.enter fc args) w) (hcl : Calls Tryd.prog fc caps (w.setCell p (.int .i64 n)) fun e w' => e = .returned unit ∧ Rc w') :
    CallsD Tryd.prog 82 #[.pointer (some p), .func (.func fc) #[] caps] (.panicking [pe n false]) w fun e u' w' =>
      e = .returned unit ∧ u' = .panicking [pe n true] ∧ Rc w' := by
  refine callsD_of_wpS Tryd.func82 rfl fun c₀ cs hu => ?_
  apply wpS_seq
  apply wpS_region
  simp [wpOpsS, go_sem, recoverD, hu, Tryd.ntmps82, Exit.thenS, Tryd.underlying20, pe]
  apply wpS_seq
  apply wpS_region
  simp [wpOpsS, go_sem, recoverD, hu, Tryd.ntmps82, Exit.thenS, Tryd.underlying20]
  refine wpS_cond (t := true) (by simp [Act.eval, Array.replicate]) ?_
  simp only [if_true]
  apply wpS_seq
  apply wpS_region
  simp [wpOpsS, go_sem, run_ta28, hc, hz, bodyPostS, results, Tryd.results87, Exit.thenS, Tryd.underlying26, Tryd.sizeOf26]
  apply wpS_region
  simp [wpOpsS, go_sem, hf, hc, hz, bodyPostS, results, Tryd.results87, Exit.thenS, Oper.upon]
  refine hcl.mono ?_
  rintro e w' ⟨rfl, h⟩
  exact ⟨rfl, h⟩
theorem conc28 : Tryd.prog.concrete 26 = true := by simp [Program.concrete, Tryd.underlying26]
theorem must44 (b : Bool) (n : Int) (w : World) (R : Ending → World → Prop) (h1 : b = true → R (.returned unit) w) (h2 : b = false → R (.panicked [pe n false]) w) : Calls Tryd.prog 31 #[.bool b, .int .i64 n] w R := by
  refine c31 _ _ _ _ ?_
  unfold vc31
  refine kUn_not (kIf_b (fun h => ?_) (fun h => ?_))
  · refine kMkI_c conc28 (kPanic_i ?_)
    exact h2 (by simpa using h)
  · exact h1 (by simpa using h)
theorem must120 (b : Bool) (n : Int) (w : World) (R : Ending → World → Prop) (h1 : b = true → R (.returned unit) w) (h2 : b = false → R (.panicked [pe n false]) w) : Calls Tryd.prog 104 #[.bool b, .int .i64 n] w R := by
  refine c104 _ _ _ _ ?_
  unfold vc104
  refine kUn_not (kIf_b (fun h => ?_) (fun h => ?_))
  · refine kMkI_c conc28 (kPanic_i ?_)
    exact h2 (by simpa using h)
  · exact h1 (by simpa using h)
abbrev AV := Int × Int × ByteArray
def vVal (r : AV) : Value := .agg #[.int .i64 r.1, .int .i64 r.2.1, .string r.2.2]
def vInt (i : Int) : Value := .int .i64 i
def flat (vs : List Value) : List Value := vs.flatMap (·.cells.toList)
theorem bytes_toList_inj {a b : ByteArray} : a.toList = b.toList ↔ a = b := by
  rw [ByteArray.toList_eq, ByteArray.toList_eq]
  obtain ⟨⟨x⟩⟩ := a
  obtain ⟨⟨y⟩⟩ := b
  simp
theorem eq49 (a b : AV) (ox oy : Operand) (w : World) : (do eqGuard .eql 41 ox oy (vVal a) (vVal b); binOp .eql 41 (vVal a) (vVal b) : Sem Value).run Tryd.prog w = .ok (.bool (decide (a = b))) w := by
  obtain ⟨a1, a2, a3⟩ := a
  obtain ⟨b1, b2, b3⟩ := b
  simp [go_sem, vVal, Tryd.underlying41, Tryd.eqGuardType41, Tryd.stoodInHeld41, Tryd.underlying39, Tryd.underlying2, Tryd.underlying9, Op.eqFields, bytes_toList_inj]
  by_cases h1 : a1 = b1 <;> by_cases h2 : a2 = b2 <;> by_cases h3 : a3 = b3 <;> simp [h1, h2, h3]
theorem ne49 (a b : AV) (ox oy : Operand) (w : World) : (do eqGuard .neq 41 ox oy (vVal a) (vVal b); binOp .neq 41 (vVal a) (vVal b) : Sem Value).run Tryd.prog w = .ok (.bool (!decide (a = b))) w := by
  obtain ⟨a1, a2, a3⟩ := a
  obtain ⟨b1, b2, b3⟩ := b
  simp [go_sem, vVal, Tryd.underlying41, Tryd.eqGuardType41, Tryd.stoodInHeld41, Tryd.underlying39, Tryd.underlying2, Tryd.underlying9, Op.eqFields, bytes_toList_inj]
  by_cases h1 : a1 = b1 <;> by_cases h2 : a2 = b2 <;> by_cases h3 : a3 = b3 <;> simp [h1, h2, h3]
section
variable {c : Cx} {w : World} {k : Value → World → Prop} {t : TypeId}
theorem kEq_49 {X : Chain → World → Prop} {q : Bool} {a b : AV} {ox oy : Operand} (h : k (.bool (decide (a = b))) w) : kEq ⟨Tryd.prog, X, q⟩ w .eql 41 ox oy (vVal a) (vVal b) k := ⟨kVal_pure (c := ⟨Tryd.prog, X, q⟩) (fun w' => by exact eq49 a b ox oy w') h⟩
theorem kNe_49 {X : Chain → World → Prop} {q : Bool} {a b : AV} {ox oy : Operand} (h : k (.bool (!decide (a = b))) w) : kEq ⟨Tryd.prog, X, q⟩ w .neq 41 ox oy (vVal a) (vVal b) k := ⟨kVal_pure (c := ⟨Tryd.prog, X, q⟩) (fun w' => by exact ne49 a b ox oy w') h⟩
theorem eqGuard_str (op : BinOp) (ox oy : Operand) (a : ByteArray) (v : Value) : eqGuard op t ox oy (.string a) v = pure () := by cases op <;> rfl
theorem kEq_str {a b : ByteArray} {ox oy : Operand} (h : k (.bool (decide (a = b))) w) : kEq c w .eql t ox oy (.string a) (.string b) k :=
  ⟨kVal_pure (fun w' => by
    rw [eqGuard_str, binOp_string_eql]
    have : (a.toList == b.toList) = decide (a = b) := by
      by_cases hab : a = b
      · subst hab; simp
      · have : a.toList ≠ b.toList := fun h => hab (bytes_toList_inj.1 h)
        simp [this, hab]
    rw [this]; rfl) h⟩
theorem kNe_str {a b : ByteArray} {ox oy : Operand} (h : k (.bool (!decide (a = b))) w) : kEq c w .neq t ox oy (.string a) (.string b) k :=
  ⟨kVal_pure (fun w' => by
    rw [eqGuard_str, binOp_string_neq]
    have : (a.toList == b.toList) = decide (a = b) := by
      by_cases hab : a = b
      · subst hab; simp
      · have : a.toList ≠ b.toList := fun h => hab (bytes_toList_inj.1 h)
        simp [this, hab]
    rw [this]; rfl) h⟩
theorem kIf_eq {a b : Int} {A B : Prop} (h1 : a = b → A) (h2 : a ≠ b → B) : kIf (.bool (a == b)) A B :=
  kIf_b (fun h => h1 (by simpa using h)) (fun h => h2 (by simpa using h))
theorem kIf_ne {a b : Int} {A B : Prop} (h1 : a ≠ b → A) (h2 : a = b → B) : kIf (.bool (a != b)) A B :=
  kIf_b (fun h => h1 (by simpa using h)) (fun h => h2 (by simpa using h))
theorem kBin_and {q : IntKind} {a b : Int} (h : k (.int q (bits .and q a b)) w) : kBin c w .and t (.int q a) (.int q b) k := ⟨kVal_pure (fun _ => by rw [binOp_and, intBits_and]; rfl) h⟩
end
/-- The three fields of an api.Value. -/
theorem kFa49 {X : Chain → World → Prop} {q : Bool} {w : World} {b o : Nat} {k : Value → World → Prop} (f : Nat) (hf : f < 3) (h : k (.pointer (some ⟨b, o + f, none⟩)) w) : kFa ⟨Tryd.prog, X, q⟩ w 41 (.pointer (some ⟨b, o, none⟩)) f k := by
  have : f = 0 ∨ f = 1 ∨ f = 2 := by omega
  rcases this with rfl | rfl | rfl
  · exact kFa_i (c := ⟨Tryd.prog, X, q⟩) Tryd.underlying41 rfl (n := 0) Tryd.sizeOf39 h
  · exact kFa_i (c := ⟨Tryd.prog, X, q⟩) Tryd.underlying41 rfl (n := 0) Tryd.sizeOf2 h
  · exact kFa_i (c := ⟨Tryd.prog, X, q⟩) Tryd.underlying41 rfl (n := 0) Tryd.sizeOf9 h
theorem kLd {X : Chain → World → Prop} {q : Bool} {w0 w : World} {L : List Own} {k : Value → World → Prop} {t' : TypeId} (hS : St w0 L w) (i : Nat) {b : Nat} {t : TypeId} {cs : Array Value} (hi : L[i]? = some (.bx b t cs)) {off : Nat} {v : Value} (hv : cs[off]? = some v) (ht : scal t' = true) (h : k v w) :
    kLoad ⟨Tryd.prog, X, q⟩ w t' (.pointer (some ⟨b, off, none⟩)) k := kLoad_st (c := ⟨Tryd.prog, X, q⟩) hS i hi hv (scal_agg ht) h
theorem kLen9 {X : Chain → World → Prop} {q : Bool} {w : World} {k : Value → World → Prop} {ty : TypeId} {s : ByteArray} {cs : Array Bool} (h : k (.int .i64 s.size) w) : kBlt ⟨Tryd.prog, X, q⟩ w .len #[9] ty cs #[.string s] k := kLen_str (c := ⟨Tryd.prog, X, q⟩) Tryd.underlying9 h
theorem kLen22 {X : Chain → World → Prop} {q : Bool} {w : World} {k : Value → World → Prop} {ty : TypeId} {o : Option Addr} {n cp : Nat} {cs : Array Bool} (h : k (.int .i64 n) w) : kBlt ⟨Tryd.prog, X, q⟩ w .len #[22] ty cs #[.slice o n cp] k := kLen_sl (c := ⟨Tryd.prog, X, q⟩) Tryd.underlying22 h
theorem kLen23 {X : Chain → World → Prop} {q : Bool} {w : World} {k : Value → World → Prop} {ty : TypeId} {o : Option Addr} {n cp : Nat} {cs : Array Bool} (h : k (.int .i64 n) w) : kBlt ⟨Tryd.prog, X, q⟩ w .len #[48] ty cs #[.slice o n cp] k := kLen_sl (c := ⟨Tryd.prog, X, q⟩) Tryd.underlying48 h
theorem kSt {X : Chain → World → Prop} {w0 w : World} {L : List Own} {t' : TypeId} {k : World → Prop} (hS : St w0 L w) (i : Nat) {b : Nat} {t : TypeId} {cs : Array Value} (hi : L[i]? = some (.bx b t cs)) {off : Nat} (hoff : off < cs.size) {v : Value} (hv : v.cells = #[v]) (h1 : v.oneCell' = true) (ht : scal t' = true)
    (h : ∀ W, St w0 (L.set i (.bx b t (cs.setIfInBounds off v))) W → k W) : kStore ⟨Tryd.prog, X, false⟩ w t' (.pointer (some ⟨b, off, none⟩)) v k := kStore_st hS i hi hoff hv h1 (scal_size ht) h
/-- What Check answers. -/
def checkE (r : AV) : Int :=
  if 1000 < r.2.2.size then 3
  else if r.1 < 0 ∨ 4 < r.1 ∨ (r.1 < 3 ∧ r.2.2 ≠ ⟨#[]⟩) ∨ (r.1 ≠ 1 ∧ r.1 ≠ 2 ∧ r.2.1 ≠ 0) ∨ (r.1 = 1 ∧ r.2.1 ≠ 0 ∧ r.2.1 ≠ 1) then 2 else 0
theorem bits_and_one (n : Int) : bits .and .i64 n 1 = n % 2 := by
  have h1 : ((BitVec.ofInt 64 n) &&& (BitVec.ofInt 64 1)).toNat = (BitVec.ofInt 64 n).toNat % 2 := by
    rw [BitVec.toNat_and]
    show (BitVec.ofInt 64 n).toNat &&& 1 = _
    exact Nat.and_one_is_mod _
  have h2 : (BitVec.ofInt 64 n).toNat = (n % 18446744073709551616).toNat := by simp [BitVec.toNat_ofInt]
  have h3 : ((BitVec.ofInt IntKind.i64.bits n) &&& (BitVec.ofInt IntKind.i64.bits 1)).toNat = (n % 18446744073709551616).toNat % 2 := by
    rw [← h2]; exact h1
  simp only [bits, h3]
  simp [IntKind.wrap, IntKind.bits, IntKind.signed]
  omega
def bareOf (r : AV) : AV := (r.1, if r.1 = 1 then r.2.1 % 2 else if r.1 = 2 then r.2.1 else 0, if r.1 = 3 ∨ r.1 = 4 then r.2.2 else ⟨#[]⟩)
theorem checkE_bare (r : AV) (h : r.2.2.size ≤ 1000) : checkE r = if r = bareOf r ∧ 0 ≤ r.1 ∧ r.1 ≤ 4 then 0 else 2 := by
  obtain ⟨t, n, s⟩ := r
  have he : s.size ≤ 1000 := h
  simp only [checkE, bareOf, Prod.mk.injEq, true_and]
  rw [if_neg (by omega)]
  grind
theorem kJn_inv {f : (List Value → World → Prop) → Prop} {a : List Value → World → Prop} (I : List Value → World → Prop) (ha : ∀ cs W, I cs W → a cs W) (hf : ∀ J, (∀ cs W, I cs W → J cs W) → f J) : kJn f a := ⟨hf _ ha⟩
theorem built49 (t : Int) : Tryd.prog.built 41 [(0, .int .i64 t)] = some #[.int .i64 t, .int .i64 0, .string ⟨#[]⟩] := by
  have h1 := info_of (Tryd.typeInfo41 default)
  have h2 := info_of (Tryd.typeInfo39 default)
  have h3 := info_of (Tryd.typeInfo2 default)
  have h4 := info_of (Tryd.typeInfo9 default)
  simp [Program.built, h1, Tryd.underlying41, Tryd.t41, h2, h3, h4, Tryd.t39, Tryd.t2, Tryd.t9, Instr.fill]
  exact ⟨⟨rfl, Nat.le_of_ble_eq_true rfl⟩, rfl⟩
theorem right89 (r : AV) (w : World) (R : Ending → World → Prop) (h0 : checkE r = 0 → ∀ W, Below w.heap.size w W → R (.returned unit) W) (h1 : checkE r ≠ 0 → ∀ W, Below w.heap.size w W → R (.panicked [pe (checkE r) false]) W) :
    Calls Tryd.prog 84 #[vVal r] w R := by
  obtain ⟨t, n, s⟩ := r
  refine c84 _ _ _ _ _ ?_
  unfold vc84
  refine kBox_st (St.start w) fun b W hS => ?_
  refine kFa49 _ (by omega) (kLd hS 0 rfl rfl rfl (kLen9 (kBin_leq (kCall_i (Tryd.call104 _ _) (must120 _ _ _ _ (fun hl => ?_) (fun hl => ?_))))))
  · have hl : s.size ≤ 1000 := by simp at hl; omega
    have hce := checkE_bare (t, n, s) hl
    refine kFa49 _ (by omega) (kLd hS 0 rfl rfl rfl (kBuild_i (cs := #[.int .i64 t, .int .i64 0, .string ⟨#[]⟩]) (built49 t) (kAlloc_st Tryd.zeroValue41 hS fun b2 W hS => kStoreA_st hS 1 rfl rfl (by simp [Value.oneCell']) Tryd.sizeOf41 fun W hS => ?_)))
    refine kJn_inv (fun cs W => St w [.bx b 41 (vVal (t, n, s)).cells, .bx b2 41 (vVal (bareOf (t, n, s))).cells] W) ?_ ?_
    · intro cs W hS ds
      refine kLoadA_st hS 1 rfl Tryd.underlying41 rfl Tryd.sizeOf41 rfl (kLoadA_st hS 0 rfl Tryd.underlying41 rfl Tryd.sizeOf41 rfl (kEq_49 (a := bareOf (t, n, s)) (b := (t, n, s)) (kIf_d (fun h => ?_) (fun h => ?_))))
      · refine kFa49 _ (by omega) (kLd hS 0 rfl rfl rfl (kBin_geq (kIf_d (fun h2 => ?_) (fun h2 => ?_))))
        · refine kFa49 _ (by omega) (kLd hS 0 rfl rfl rfl (kBin_leq (kCall_i (Tryd.call104 _ _) (must120 _ _ _ _ (fun hl => ?_) (fun hl => ?_)))))
          · exact h0 (by rw [hce, if_pos ⟨h.symm, by simpa using h2, by simpa using hl⟩]) _ hS.below
          · have : checkE (t, n, s) = 2 := by rw [hce, if_neg]; intro hh; simp at hl; have := hh.2.2; simp at this; omega
            have h3 := h1 (by omega) _ hS.below; rw [this] at h3; exact h3
        · refine kCall_i (Tryd.call104 _ _) (must120 _ _ _ _ (fun hl => by cases hl) (fun hl => ?_))
          have : checkE (t, n, s) = 2 := by rw [hce, if_neg]; intro hh; exact h2 (by simpa using hh.2.1)
          have h3 := h1 (by omega) _ hS.below; rw [this] at h3; exact h3
      · refine kCall_i (Tryd.call104 _ _) (must120 _ _ _ _ (fun hl => by cases hl) (fun hl => ?_))
        have : checkE (t, n, s) = 2 := by rw [hce, if_neg]; intro hh; exact h hh.1.symm
        have h3 := h1 (by omega) _ hS.below; rw [this] at h3; exact h3
    · intro J hJ
      refine kFa49 _ (by omega) (kLd hS 0 rfl rfl rfl (kEq_int (kIf_eq (fun e1 => ?_) (fun e1 => ?_))))
      · refine kFa49 _ (by omega) (kLd hS 0 rfl rfl rfl (kBin_and (kFa49 _ (by omega) (kSt hS 1 rfl (by simp) rfl rfl rfl fun W hS => kD_i (hJ _ _ ?_)))))
        have e1 : t = 1 := e1
        subst e1
        rw [bits_and_one] at hS
        exact hS
      refine kEq_int (kIf_eq (fun e2 => ?_) (fun e2 => ?_))
      · refine kFa49 _ (by omega) (kLd hS 0 rfl rfl rfl (kFa49 _ (by omega) (kSt hS 1 rfl (by simp) rfl rfl rfl fun W hS => kD_i (hJ _ _ ?_))))
        have e2 : t = 2 := e2
        subst e2
        exact hS
      refine kJn_inv (fun cs W => St w [.bx b 41 (vVal (t, n, s)).cells, .bx b2 41 #[.int .i64 t, .int .i64 0, .string ⟨#[]⟩]] W ∧ cs = [.bool (decide (t = 3 ∨ t = 4))]) ?_ ?_
      · rintro cs W ⟨hS, rfl⟩ ds
        refine kIf_d (fun e3 => ?_) (fun e3 => ?_)
        · refine kFa49 _ (by omega) (kLd hS 0 rfl rfl rfl (kFa49 _ (by omega) (kSt hS 1 rfl (by simp) rfl rfl rfl fun W hS => kD_i (hJ _ _ ?_))))
          have : vVal (bareOf (t, n, s)) = .agg #[.int .i64 t, .int .i64 0, .string s] := by
            have h1 : t ≠ 1 := e1
            have h2 : t ≠ 2 := e2
            simp [vVal, bareOf, h1, h2, e3]
          rw [this]; exact hS
        · refine kD_i (hJ _ _ ?_)
          have : vVal (bareOf (t, n, s)) = .agg #[.int .i64 t, .int .i64 0, .string ⟨#[]⟩] := by
            have h1 : t ≠ 1 := e1
            have h2 : t ≠ 2 := e2
            simp [vVal, bareOf, h1, h2, e3]
          rw [this]; exact hS
      · intro J1 hJ1
        refine kEq_int (kIf_eq (fun e3 => ?_) (fun e3 => ?_))
        · have e3 : t = 3 := e3
          exact kD_i (hJ1 _ _ ⟨hS, by subst e3; rfl⟩)
        · have e3 : t ≠ 3 := e3
          refine kEq_int (kD_i (hJ1 _ _ ⟨hS, ?_⟩))
          by_cases e4 : t = 4
          · subst e4; rfl
          · simp [e3, e4]
  · have : checkE (t, n, s) = 3 := by simp [checkE]; simp at hl; omega
    have h2 := h1 (by omega) _ hS.below
    rw [this] at h2; exact h2
theorem St.setCell {w0 w : World} {L : List Own} (hS : St w0 L w) (i : Nat) {b : Nat} {t : TypeId} {cs : Array Value} (hi : L[i]? = some (.bx b t cs)) (off : Nat) (v : Value) : St w0 (L.set i (.bx b t (cs.setIfInBounds off v))) (w.setCell ⟨b, off, none⟩ v) := by
  have hg := hS.get i hi
  have hheap : (w.setCell ⟨b, off, none⟩ v).heap[b]? = some (.cells (cs.setIfInBounds off v) t (0, 0)) := by
    simp [World.setCell, Array.getElem?_modify, hg.2]
  refine hS.set i hi ?_ ⟨hg.1, hheap⟩ (.inl rfl)
  refine ⟨rfl, rfl, rfl, by simp [World.setCell], fun k hk hne => ?_⟩
  exact Below.heap_setCell w ⟨b, off, none⟩ v k (fun e => hne (by rw [e]; rfl))
theorem St.unfrozen {w0 w : World} {L : List Own} (hS : St w0 L w) (i : Nat) {b : Nat} {t : TypeId} {cs : Array Value} (hi : L[i]? = some (.bx b t cs)) (off : Nat) : w.frozen? ⟨b, off, none⟩ = false := by
  simp [World.frozen?, (hS.get i hi).2]
theorem RetK_cell {R : Ending → World → Prop} {w : World} {a : Addr} {t : TypeId} {v : Value} (ht : scal t = true) (hc : w.cell? a = some v) (h : R (.returned v) w) : RetK Tryd.prog [.cell (.pointer (some a)) t] R w :=
  ⟨v, by simp [resSem, asAddr, loadVar, scal_agg ht, hc], h⟩
theorem Lv_ret87 {p c : Value} {rs : List RV} {R : Ending → World → Prop} {w : World} (h : RetK Tryd.prog rs R w) : Lv Tryd.prog rs R [{ target := .fn (.func 82) #[], args := #[p, c] }] .returning w :=
  ⟨rfl, Tryd.call82, (caught_idle87 p c w).mono (by rintro e u' w' ⟨rfl, rfl, rfl⟩; exact h)⟩
theorem Lv_pan87 {w0 : World} {L : List Own} {rs : List RV} {R : Ending → World → Prop} {w : World} (hS : St w0 L w) (i : Nat) {b : Nat} {t : TypeId} {x n : Int} (hi : L[i]? = some (.bx b t #[.int .i64 x]))
    {fc : FuncId} {caps : Array Value} (Rc : World → Prop) (hf : ∀ args w, (callFunc fc args).run Tryd.prog w = .ok (.enter fc args) w)
    (hcl : ∀ W, St w0 (L.set i (.bx b t #[.int .i64 n])) W → Calls Tryd.prog fc caps W fun e w' => e = .returned unit ∧ Rc w') (h : ∀ W, Rc W → RetK Tryd.prog rs R W) :
    Lv Tryd.prog rs R [{ target := .fn (.func 82) #[], args := #[.pointer (some ⟨b, 0, none⟩), .func (.func fc) #[] caps] }] (.panicking [pe n false]) w :=
  ⟨rfl, Tryd.call82, (caught_panics87 ⟨b, 0, none⟩ x n fc caps Rc w (hS.cell i hi 0 rfl) (hS.unfrozen i hi 0) hf (hcl _ (hS.setCell i hi 0 _))).mono (by rintro e u' w' ⟨rfl, rfl, hR⟩; exact h _ hR)⟩
theorem check57 (r : AV) (w : World) (R : Ending → World → Prop) (h : ∀ W, Below w.heap.size w W → R (.returned (.int .i64 (checkE r))) W) : Calls Tryd.prog 42 #[vVal r] w R := by
  refine c42 _ _ _ _ _ ?_
  unfold vc42
  refine kBox_st (St.start w) fun b W hS => kAlloc_st Tryd.zeroValue26 hS fun b2 W hS => ?_
  refine kLoadA_st (c := ⟨Tryd.prog, _, false⟩) hS 0 rfl Tryd.underlying41 rfl Tryd.sizeOf41 rfl ?_
  refine kCall_i (Tryd.call84 _ _) (right89 r _ _ (fun he W hB => ?_) (fun he W hB => ?_))
  · have hS := hS.bel hB
    refine kSt hS 1 rfl (by simp [Value.cells]) rfl rfl rfl fun W hS => Lv_ret87 (RetK_cell rfl (hS.cell 1 rfl 0 rfl) ?_)
    rw [he] at h
    exact h _ hS.below
  · have hS := hS.bel hB
    refine Lv_pan87 hS 1 rfl (fun W => St w [Own.bx b 41 (vVal r).cells, Own.bx b2 26 #[.int .i64 (checkE r)]] W) Tryd.call83 (fun W hS => ?_) (fun W hS => RetK_cell rfl (hS.cell 1 rfl 0 rfl) (h _ hS.below))
    refine c83 _ _ ⟨rfl, hS⟩
/-- Order of two numbers; of two values; of two rows (as the reference has it). -/
def ordN (a b : Int) : Int := if a < b then -1 else if a > b then 1 else 0
theorem num108 (a b : Int) (w : World) (R : Ending → World → Prop) (h : R (.returned (.int .i64 (ordN a b))) w) : Calls Tryd.prog 91 #[.int .i64 a, .int .i64 b] w R := by
  refine c91 _ _ _ _ ?_
  unfold vc91
  unfold ordN at h
  refine kBin_lss (kIf_d (fun e => ?_) (fun e => kBin_gtr (kIf_d (fun e2 => ?_) (fun e2 => ?_))))
  · rwa [if_pos e] at h
  · rwa [if_neg e, if_pos e2] at h
  · rwa [if_neg e, if_neg e2] at h
def ordS (a b : ByteArray) : Int := if Op.bytesLess a.toList b.toList then -1 else if ¬ (Op.bytesLess a.toList b.toList ∨ a = b) then 1 else 0
def ordV (a b : AV) : Int := if ordN a.1 b.1 ≠ 0 then ordN a.1 b.1 else if ordN a.2.1 b.2.1 ≠ 0 then ordN a.2.1 b.2.1 else ordS a.2.2 b.2.2
theorem ordV_zero (a b : AV) : ordV a b = 0 ↔ a = b := by
  obtain ⟨a1, a2, a3⟩ := a
  obtain ⟨b1, b2, b3⟩ := b
  have hn : ∀ x y : Int, ordN x y = 0 ↔ x = y := fun x y => by simp only [ordN]; constructor <;> intro h <;> (repeat' split at *) <;> omega
  have hs : ∀ x y : ByteArray, ordS x y = 0 ↔ x = y := fun x y => by
    have irr : ∀ l : List UInt8, Op.bytesLess l l = false := by
      intro l; induction l with
      | nil => rfl
      | cons c l ih => simp [Op.bytesLess, ih]
    simp only [ordS]
    constructor
    · intro h
      split at h
      · omega
      · rename_i h1
        split at h
        · omega
        · rename_i h2
          have := Decidable.not_not.1 h2
          rcases this with h3 | h3
          · exact absurd h3 h1
          · exact h3
    · rintro rfl; simp [irr]
  simp only [ordV, Prod.mk.injEq, ← hn a1 b1, ← hn a2 b2, ← hs a3 b3]
  constructor
  · intro h
    split at h
    · rename_i h1; exact absurd h h1
    · rename_i h1
      split at h
      · rename_i h2; exact absurd h h2
      · rename_i h2; exact ⟨Decidable.not_not.1 h1, Decidable.not_not.1 h2, h⟩
  · rintro ⟨h1, h2, h3⟩; simp [h1, h2, h3]
section
variable {c : Cx} {w : World} {k : Value → World → Prop} {t : TypeId} {a b : ByteArray}
theorem kLss_str (h : k (.bool (Op.bytesLess a.toList b.toList)) w) : kBin c w .lss t (.string a) (.string b) k := ⟨kVal_pure (fun _ => by rw [binOp_string_lss]; rfl) h⟩
theorem kGtr_str (h : k (.bool !(Op.bytesLess a.toList b.toList || decide (a = b))) w) : kBin c w .gtr t (.string a) (.string b) k := ⟨kVal_pure (fun _ => by
  rw [binOp_string_gtr]
  have : (a.toList == b.toList) = decide (a = b) := by
    by_cases hab : a = b
    · subst hab; simp
    · have : a.toList ≠ b.toList := fun h => hab (bytes_toList_inj.1 h)
      simp [this, hab]
  rw [this]; rfl) h⟩
end
theorem ord71 (a b : AV) (w : World) (R : Ending → World → Prop) (h : ∀ W, Below w.heap.size w W → R (.returned (.int .i64 (ordV a b))) W) : Calls Tryd.prog 44 #[vVal a, vVal b] w R := by
  refine c44 _ _ _ _ _ _ _ _ ?_
  unfold vc44
  refine kBox_st (St.start w) fun b1 W hS => kBox_st hS fun b2 W hS => ?_
  refine kFa49 _ (by omega) (kLd hS 0 rfl rfl rfl (kFa49 _ (by omega) (kLd hS 1 rfl rfl rfl (kCall_i (Tryd.call91 _ _) (num108 _ _ _ _ ?_)))))
  refine kNe_int (kIf_ne (fun e => ?_) (fun e => ?_))
  · have := h _ hS.below; rw [ordV, if_pos e] at this; exact this
  refine kFa49 _ (by omega) (kLd hS 0 rfl rfl rfl (kFa49 _ (by omega) (kLd hS 1 rfl rfl rfl (kCall_i (Tryd.call91 _ _) (num108 _ _ _ _ ?_)))))
  refine kNe_int (kIf_ne (fun e2 => ?_) (fun e2 => ?_))
  · have := h _ hS.below; rw [ordV, if_neg (by simpa using e), if_pos e2] at this; exact this
  have hh := h _ hS.below
  rw [ordV, if_neg (by simpa using e), if_neg (by simpa using e2), ordS] at hh
  refine kFa49 _ (by omega) (kLd hS 0 rfl rfl rfl (kFa49 _ (by omega) (kLd hS 1 rfl rfl rfl (kLss_str (kIf_b (fun e3 => ?_) (fun e3 => ?_))))))
  · rw [if_pos e3] at hh; exact hh
  rw [if_neg (by simp; exact e3)] at hh
  refine kFa49 _ (by omega) (kLd hS 0 rfl rfl rfl (kFa49 _ (by omega) (kLd hS 1 rfl rfl rfl (kGtr_str (kIf_b (fun e4 => ?_) (fun e4 => ?_))))))
  · rw [if_pos (by simpa using e4)] at hh; exact hh
  · rw [if_neg (by
      intro hc
      simp only [Bool.not_eq_false', Bool.or_eq_true, decide_eq_true_eq] at e4
      exact hc e4)] at hh; exact hh
/-- The order of rows. -/
def ordL : List AV → List AV → Int
  | a :: x, b :: y => if ordV a b ≠ 0 then ordV a b else ordL x y
  | [], [] => 0
  | [], _ :: _ => -1
  | _ :: _, [] => 1
theorem ordL_zero : ∀ a b : List AV, ordL a b = 0 ↔ a = b
  | [], [] => by simp [ordL]
  | [], _ :: _ => by simp [ordL]
  | _ :: _, [] => by simp [ordL]
  | a :: x, b :: y => by
    simp only [ordL, List.cons.injEq, ← ordV_zero a b, ← ordL_zero x y]
    constructor
    · intro h
      split at h
      · rename_i h1; exact absurd h h1
      · rename_i h1; exact ⟨Decidable.not_not.1 h1, h⟩
    · rintro ⟨h1, h2⟩; simp [h1, h2]
theorem ordL_drop (a b : List AV) : ∀ i, (∀ j, j < i → ∃ x, a[j]? = some x ∧ b[j]? = some x) → ordL a b = ordL (a.drop i) (b.drop i)
  | 0, _ => rfl
  | i + 1, h => by
    rw [ordL_drop a b i (fun j hj => h j (by omega))]
    obtain ⟨x, ha, hb⟩ := h i (by omega)
    obtain ⟨hia, ha⟩ := List.getElem?_eq_some_iff.1 ha
    obtain ⟨hib, hb⟩ := List.getElem?_eq_some_iff.1 hb
    rw [List.drop_eq_getElem_cons hia, List.drop_eq_getElem_cons hib, ha, hb, ordL, if_neg (by simp [(ordV_zero x x).2 rfl])]
/-- A region that draws its order and only makes new things, each of its values known beforehand. -/
def PVals (w : World) (val : Nat → Value) : PInv := fun S vs W => Below w.heap.size w W ∧ ∀ j, S j = true → vs j = val j
theorem pv_step {w V V' : World} {S : Nat → Bool} {vs val : Nat → Value} {i : Nat} {v : Value} (h : PVals w val S vs V) (hB : Below V.heap.size V V') (hv : v = val i) : PVals w val (inc S i) (setV vs i v) V' :=
  ⟨h.1.trans (hB.mono h.1.size), fun j hj => by
    by_cases hji : j = i
    · subst hji; simpa [setV] using hv
    · simp only [inc, show (j == i) = false by simpa using hji, Bool.false_or] at hj
      simp only [setV, if_neg hji]; exact h.2 j hj⟩
theorem kPar_vals {w : World} {m : Nat} {D : List (List Nat)} {obl : PInv → ((Nat → Bool) → Prop) → Prop} {tail : (Nat → Value) → World → Prop} (val : Nat → Value) (h : obl (PVals w val) (Clo D))
    (ht : ∀ vs W, Below w.heap.size w W → (∀ j, j < m → vs j = val j) → tail vs W) : kPar w m D obl tail :=
  ⟨PVals w val, fun vs => ⟨⟨rfl, rfl, rfl, Nat.le_refl _, fun _ _ => rfl⟩, fun _ h => by cases h⟩, h, fun S vs W hI hS => ht vs W hI.1 fun j hj => hI.2 j (hS j hj)⟩
theorem wrap_id {a : Int} (h0 : -9223372036854775808 ≤ a) (h1 : a ≤ 9223372036854775807) : IntKind.i64.wrap a = a := by
  simp [IntKind.wrap, IntKind.bits, IntKind.signed]; omega
theorem vVal_size (r : AV) : (vVal r).cells.size = 3 := rfl
theorem vVal_one (r : AV) : ∀ u ∈ (vVal r).cells.toList, u.oneCell' = true := by
  simp [vVal, Value.cells, Value.oneCell']
theorem kIa22 {X : Chain → World → Prop} {q : Bool} {w : World} {b o n cp : Nat} {i : Nat} {k : Value → World → Prop} (hi : i < n) (h : k (.pointer (some ⟨b, o + i * 3, none⟩)) w) : kIa ⟨Tryd.prog, X, q⟩ w 22 (.slice (some ⟨b, o, none⟩) n cp) (.int .i64 i) k :=
  kIa_sl (c := ⟨Tryd.prog, X, q⟩) Tryd.underlying22 Tryd.sizeOf41 hi h
theorem kLd49 {X : Chain → World → Prop} {q : Bool} {w : World} {b o : Nat} {r : AV} {k : Value → World → Prop} (hr : w.rangeAt b o (vVal r).cells.toList) (h : k (vVal r) w) : kLoad ⟨Tryd.prog, X, q⟩ w 41 (.pointer (some ⟨b, o, none⟩)) k :=
  kLoad_elt (c := ⟨Tryd.prog, X, q⟩) hr rfl Tryd.underlying41 rfl Tryd.typeInfo41 rfl h
theorem ord76 (a b : List AV) (w : World) (ao bo : Option Addr) (ac bc : Nat) (ha : Sl w ao 3 (a.map vVal)) (hb : Sl w bo 3 (b.map vVal)) (hal : a.length ≤ 1000000) (hbl : b.length ≤ 1000000) (R : Ending → World → Prop)
    (h : ∀ W, Below w.heap.size w W → R (.returned (.int .i64 (ordL a b))) W) : Calls Tryd.prog 26 #[.slice ao a.length ac, .slice bo b.length bc] w R := by
  refine c26 _ _ _ _ _ _ _ _ ?_
  unfold vc26
  refine ⟨⟨fun cs W => ∃ i : Nat, cs = [.int .i64 i] ∧ Below w.heap.size w W ∧ i ≤ a.length ∧ ∀ j, j < i → ∃ x, a[j]? = some x ∧ b[j]? = some x,
    fun cs _ => a.length - (match cs with | [.int _ i] => i.toNat | _ => 0), ⟨0, rfl, Below.refl _ _, by omega, fun j hj => by omega⟩, ?_⟩⟩
  rintro cs ds W ⟨i, rfl, hB, hile, hpre⟩
  dsimp only [List.getD_cons_zero]
  have tailA : ∀ W, Below w.heap.size w W → ¬ (i < a.length ∧ i < b.length) → kBlt (cR Tryd.prog R) W .len #[22] 3 #[false] #[(.slice ao a.length ac)] fun v32 w_15 =>
      kBlt (cR Tryd.prog R) w_15 .len #[22] 3 #[false] #[(.slice bo b.length bc)] fun v34 w_16 =>
      kBin (cR Tryd.prog R) w_16 .lss 3 v32 v34 fun v35 w_17 =>
      kIf v35 (R (.returned (.int .i64 (-1))) w_17) (
      kBlt (cR Tryd.prog R) w_17 .len #[22] 3 #[false] #[(.slice ao a.length ac)] fun v37 w_18 =>
      kBlt (cR Tryd.prog R) w_18 .len #[22] 3 #[false] #[(.slice bo b.length bc)] fun v39 w_19 =>
      kBin (cR Tryd.prog R) w_19 .gtr 3 v37 v39 fun v40 w_20 =>
      kIf v40 (R (.returned (.int .i64 1)) w_20) (R (.returned (.int .i64 0)) w_20)) := by
    intro W hB hn
    have hh := h W hB
    rw [ordL_drop a b i hpre] at hh
    have hib : i ≤ b.length := by
      rcases Nat.eq_zero_or_pos i with h0 | h0
      · omega
      · obtain ⟨x, _, hx⟩ := hpre (i - 1) (by omega)
        have := (List.getElem?_eq_some_iff.1 hx).1
        omega
    refine kLen22 (kLen22 (kBin_lss (kIf_d (fun e => ?_) (fun e => kLen22 (kLen22 (kBin_gtr (kIf_d (fun e2 => ?_) (fun e2 => ?_))))))))
    · have h1 : a.drop i = [] := List.drop_eq_nil_of_le (by omega)
      have h2 : i < b.length := by omega
      rw [h1, List.drop_eq_getElem_cons h2, ordL] at hh; exact hh
    · have h1 : b.drop i = [] := List.drop_eq_nil_of_le (by omega)
      have h2 : i < a.length := by omega
      rw [h1, List.drop_eq_getElem_cons h2, ordL] at hh; exact hh
    · have h1 : a.drop i = [] := List.drop_eq_nil_of_le (by omega)
      have h2 : b.drop i = [] := List.drop_eq_nil_of_le (by omega)
      rw [h1, h2, ordL] at hh; exact hh
  refine kJn_inv (fun cs W' => Below w.heap.size w W' ∧ i < a.length ∧ i < b.length) ?_ ?_
  · rintro cs W ⟨hB, hia, hib⟩ ds
    obtain ⟨pa, oa, rfl, hpa, hra⟩ := (ha.below hB).elem (i := i) (v := vVal a[i]) (by simp [hia])
    obtain ⟨pb, ob, rfl, hpb, hrb⟩ := (hb.below hB).elem (i := i) (v := vVal b[i]) (by simp [hib])
    refine ⟨rfl, kPar_vals (fun j => ([.slice (some ⟨pa, oa, none⟩) a.length ac, .int .i64 i, .pointer (some ⟨pa, oa + i * 3, none⟩), vVal a[i], .slice (some ⟨pb, ob, none⟩) b.length bc, .int .i64 i, .pointer (some ⟨pb, ob + i * 3, none⟩), vVal b[i], .int .i64 (ordV a[i] b[i])] : List Value).getD j undef) ?_ ?_⟩
    · refine ⟨fun S vs V hI _ _ hd => pv_step hI (Below.refl _ _) rfl, fun S vs V hI _ _ hd => pv_step hI (Below.refl _ _) rfl, fun S vs V hI _ _ hd => ?_, fun S vs V hI _ _ hd => ?_, fun S vs V hI _ _ hd => pv_step hI (Below.refl _ _) rfl, fun S vs V hI _ _ hd => pv_step hI (Below.refl _ _) rfl, fun S vs V hI _ _ hd => ?_, fun S vs V hI _ _ hd => ?_, fun S vs V hI _ _ hd => ?_, trivial⟩
      · rw [hI.2 0 (hd 0 (by simp)), hI.2 1 (hd 1 (by simp))]; exact kIa22 hia (pv_step hI (Below.refl _ _) rfl)
      · rw [hI.2 2 (hd 2 (by simp))]; exact kLd49 (rangeAt_keep hra (hI.1.block _ hpa)) (pv_step hI (Below.refl _ _) rfl)
      · rw [hI.2 4 (hd 4 (by simp)), hI.2 5 (hd 5 (by simp))]; exact kIa22 hib (pv_step hI (Below.refl _ _) rfl)
      · rw [hI.2 6 (hd 6 (by simp))]; exact kLd49 (rangeAt_keep hrb (hI.1.block _ hpb)) (pv_step hI (Below.refl _ _) rfl)
      · rw [hI.2 3 (hd 3 (by simp)), hI.2 7 (hd 7 (by simp))]; exact kCall_i (Tryd.call44 _ _) (ord71 _ _ _ _ fun V' hB' => pv_step hI hB' rfl)
    · intro vs V hG hd
      rw [hd 8 (by omega)]
      have hBV := hB.trans (hG.mono hB.size)
      refine kNe_int (kIf_ne (fun e => ?_) (fun e => kBin_add (kD_i ⟨⟨i + 1, by rw [wrap_id (by omega) (by omega)]; rfl, hBV, hia, fun j hj => ?_⟩, ?_⟩)))
      · have hh := h _ hBV
        rw [ordL_drop a b i hpre, List.drop_eq_getElem_cons hia, List.drop_eq_getElem_cons hib, ordL, if_pos e] at hh
        exact hh
      · by_cases hj2 : j < i
        · exact hpre j hj2
        · have : j = i := by omega
          subst this
          have := (ordV_zero _ _).1 e
          exact ⟨a[j], by simp [hia], by rw [this]; simp [hib]⟩
      · rw [wrap_id (by omega) (by omega)]; show a.length - ((i : Int) + 1).toNat < a.length - (i : Int).toNat; omega
  · intro J hJ
    refine kLen22 (kBin_lss (kIf_d (fun e => kLen22 (kBin_lss (kIf_d (fun e2 => kD_i (hJ _ _ ⟨hB, by omega, by omega⟩)) (fun e2 => tailA _ hB (by omega))))) (fun e => kIf_f (tailA _ hB (by omega)))))
theorem same35 (a b : List AV) (w : World) (ao bo : Option Addr) (ac bc : Nat) (ha : Sl w ao 3 (a.map vVal)) (hb : Sl w bo 3 (b.map vVal)) (hal : a.length ≤ 1000000) (hbl : b.length ≤ 1000000) (R : Ending → World → Prop)
    (h : ∀ W, Below w.heap.size w W → R (.returned (.bool (decide (a = b)))) W) : Calls Tryd.prog 11 #[.slice ao a.length ac, .slice bo b.length bc] w R := by
  refine c11 _ _ _ _ _ _ _ _ ?_
  unfold vc11
  refine kCall_i (Tryd.call26 _ _) (ord76 a b w ao bo ac bc ha hb hal hbl _ fun W hB => kEq_int ?_)
  have := h W hB
  have e : (ordL a b == 0) = decide (a = b) := by
    by_cases hab : a = b
    · simp [hab, (ordL_zero b b).2 rfl]
    · have : ordL a b ≠ 0 := fun h => hab ((ordL_zero a b).1 h)
      simp [hab, this]
  rw [e]; exact this
theorem E22 (w : World) : Elt Tryd.prog 22 41 3 32 := ⟨Tryd.underlying22, ⟨Tryd.t41, _, info_of (Tryd.typeInfo41 w), rfl, rfl, rfl, rfl⟩, by omega, by omega⟩
theorem kIa23 {X : Chain → World → Prop} {q : Bool} {w : World} {b o n cp : Nat} {i : Nat} {k : Value → World → Prop} (hi : i < n) (h : k (.pointer (some ⟨b, o + i * 1, none⟩)) w) : kIa ⟨Tryd.prog, X, q⟩ w 48 (.slice (some ⟨b, o, none⟩) n cp) (.int .i64 i) k :=
  kIa_sl (c := ⟨Tryd.prog, X, q⟩) Tryd.underlying48 Tryd.sizeOf3 hi h
theorem kCallV_i {P : Program} {X : Chain → World → Prop} {w : World} {f : FuncId} {args caps : Array Value} {k : Value → World → Prop} (hc : (callFunc f (args ++ caps)).run P w = .ok (.enter f (args ++ caps)) w)
    (h : Calls P f (args ++ caps) w (after k X)) : kCallV ⟨P, X, false⟩ w (.func (.func f) #[] caps) args k := ⟨by
  show kNext _ _ _
  have : (do let d ← Deferred.ofValue (.func (.func f) #[] caps) args; invoke d.target d.args : Sem Next).run P w = .ok (.enter f (args ++ caps)) w := by
    simp [Deferred.ofValue, invoke, hc]
  rw [this]; exact h⟩
theorem kLdS {X : Chain → World → Prop} {q : Bool} {w : World} {t : TypeId} {a : Addr} {v : Value} {k : Value → World → Prop} (ht : scal t = true) (hv : w.cell? a = some v) (h : k v w) : kLoad ⟨Tryd.prog, X, q⟩ w t (.pointer (some a)) k := kLoad_cell (c := ⟨Tryd.prog, X, q⟩) (scal_agg ht) hv h
def vB (b : Nat) : Value := .int .u8 b
theorem E38 (w : World) : Elt Tryd.prog 25 5 1 1 := ⟨Tryd.underlying25, ⟨Tryd.t5, _, info_of (Tryd.typeInfo5 w), rfl, rfl, rfl, rfl⟩, by omega, by omega⟩
section
variable {c : Cx} {w : World} {k : Value → World → Prop} {t : TypeId}
theorem kBin_or {q : IntKind} {a b : Int} (h : k (.int q (bits .or q a b)) w) : kBin c w .or t (.int q a) (.int q b) k := ⟨kVal_pure (fun _ => by rw [binOp_or, intBits_or]; rfl) h⟩
theorem kBin_xor {q : IntKind} {a b : Int} (h : k (.int q (bits .xor q a b)) w) : kBin c w .xor t (.int q a) (.int q b) k := ⟨kVal_pure (fun _ => by rw [binOp_xor, intBits_xor]; rfl) h⟩
theorem kBin_shr {q yk : IntKind} {x y : Int} (h0 : 0 ≤ y) (h1 : y ≤ q.bits) (h : k (.int q (x / 2 ^ y.toNat)) w) : kBin c w .shr t (.int q x) (.int yk y) k := ⟨kVal_pure (fun _ => by rw [binOp_shr, shift_shr q yk x y h0 h1]; rfl) h⟩
theorem kBin_shl {q yk : IntKind} {x y : Int} (h0 : 0 ≤ y) (h1 : y ≤ q.bits) (h : k (.int q (q.wrap (x * 2 ^ y.toNat))) w) : kBin c w .shl t (.int q x) (.int yk y) k := ⟨kVal_pure (fun _ => by rw [binOp_shl, shift_shl q yk x y h0 h1]; rfl) h⟩
end
theorem vB_size (b : Nat) : (vB b).cells.size = 1 := rfl
def bl (s : ByteArray) : List Nat := s.data.toList.map (·.toNat)
theorem bl_length (s : ByteArray) : (bl s).length = s.size := by simp [bl]
theorem kBuildS_row {P : Program} {X : Chain → World → Prop} {w : World} {t e : TypeId} {sz by_ : Nat} (E : Elt P t e sz by_) {base : Nat} (hbase : base ≤ w.heap.size) (vs : List Value) {n : Nat} {parts : Array (Nat × Value)} {k : Value → World → Prop} (hp : parts.toList = (vs.zipIdx 0).map fun x => (x.2, x.1)) (hn : vs.length = n) (h0 : 0 < n) (h1 : n ≤ 1024)
    (hv : ∀ v ∈ vs, v.cells.size = sz) (h : ∀ x W, W.ownsRow base e sz x n (flat vs) → w.grownBy W none → (∀ j, x.ownBlock = some j → w.heap.size ≤ j) → k x W) : kBuildS ⟨P, X, false⟩ w t n parts k := by
  refine ⟨kVal_do (run_buildSlice_row E w vs n parts hp hn h0 h1 hv) (h _ _ ?_ (World.grownBy_alloc w _ _) ?_)⟩
  · have := World.ownsRow_lit (base := base) (e := e) (size := sz) w (vs.flatMap fun v => v.cells.toList).toArray n hbase (by simp [maxLen]; omega) (by
      have : ∀ vs : List Value, (∀ v ∈ vs, v.cells.size = sz) → (vs.flatMap fun v => v.cells.toList).length = vs.length * sz := by
        intro vs; induction vs with
        | nil => simp
        | cons a l ih => intro h; rw [List.flatMap_cons, List.length_append, ih (fun v hv => h v (List.mem_cons_of_mem _ hv)), List.length_cons, Nat.succ_mul, Array.length_toList, h a (List.mem_cons_self ..), Nat.add_comm]
      rw [List.size_toArray, this vs hv, hn])
    simpa [flat] using this
  · intro j hj; cases hj; exact Nat.le_refl _
theorem ownsRow_rebase {W : World} {a b : Nat} {e : TypeId} {sz n : Nat} {x : Value} {xs : List Value} (h : W.ownsRow a e sz x n xs) (hb : b ≤ a) : W.ownsRow b e sz x n xs := ⟨h.1, h.2.imp id fun ⟨g, cap, cur, h1, h2, h3⟩ => ⟨g, cap, cur, h1, Nat.le_trans hb h2, h3⟩⟩
theorem kCv2_84 {X : Chain → World → Prop} {q : Bool} {w : World} {k : Value → World → Prop} {a : Int} {b : Nat} (hb : a % 18446744073709551616 = b) (h : k (.int .u64 b) w) : kConv ⟨Tryd.prog, X, q⟩ w 2 71 (.int .i64 a) k :=
  kConv_int (c := ⟨Tryd.prog, X, q⟩) (q' := .u64) (by rw [show (Cx.mk Tryd.prog X q).P.underlying 2 = _ from Tryd.underlying2]; rfl) Tryd.underlying71 (by
    have : IntKind.u64.wrap a = b := by simp [IntKind.wrap, IntKind.bits, IntKind.signed]; omega
    rw [this]; exact h)
section
variable {P : Program} {X : Chain → World → Prop} {w w0 : World} {L : List Own} {k : Value → World → Prop} {c : Cx}
theorem kMkMap_st {t : TypeId} (hS : St w0 L w) (h : ∀ b W, St w0 (L ++ [.ob b (.map #[] 0)]) W → k (.map (some b)) W) : kMkMap ⟨P, X, false⟩ w t none k :=
  ⟨kVal_do (run_makeMap_plain w t) (h _ _ (hS.push (World.grownBy_alloc w _ _) ⟨hS.size, World.alloc_heap_new w _⟩ (fun k hk => by cases hk; exact Nat.le_refl _)))⟩
theorem kUpd_st {k : World → Prop} {t kt et : TypeId} {d : TypeDesc} {key v : Value} (hS : St w0 L w) (i : Nat) {b clock : Nat} {es : Array MapEntry} (hi : L[i]? = some (.ob b (.map es clock))) (hm : P.underlying t = some (.map kt et)) (hk : P.underlying kt = some d)
    (hkey : MapKept.IsKey d key) (hf : Instr.findNow d key es.toList 0 = some none) (h : ∀ W, St w0 (L.set i (.ob b (.map (es.push { key, val := v, born := clock }) (clock + 1)))) W → k W) : kUpd ⟨P, X, false⟩ w t (.map (some b)) key v k := by
  have hg := hS.get i hi
  have hb : b < w.heap.size := (Array.getElem?_eq_some_iff.1 hg.2).1
  have hc : (Instr.checkKey false 10000 kt key).run P w = .ok () w := MapKept.run_checkKey hk hkey false 9999
  refine ⟨kUnit_do (w' := { w with heap := w.heap.setIfInBounds b (.map (es.push { key, val := v, born := clock }) (clock + 1)) }) ?_ (h _ (hS.set i hi ?_ ⟨hg.1, by simp [hb]⟩ (.inl rfl)))⟩
  · simp [Instr.mapUpdate, run_underlying hm, MapKept.run_getObj_map hg.2, hc, MapKept.run_findKey hk hf, MapKept.run_setObj_map _ hg.2, Result.andThen]
  · refine ⟨rfl, rfl, rfl, by simp, fun j hj hne => ?_⟩
    have : b ≠ j := fun e => hne (by rw [← e]; rfl)
    simp [Array.getElem?_setIfInBounds_ne this]
theorem kLook_map {t kt et : TypeId} {d : TypeDesc} {key v : Value} {b clock j : Nat} {es : Array MapEntry} (hb : w.heap[b]? = some (.map es clock)) (hm : c.P.underlying t = some (.map kt et)) (hk : c.P.underlying kt = some d)
    (hkey : MapKept.IsKey d key) (hf : Instr.findNow d key es.toList 0 = some (some (j, v))) (h : k v w) : kLook c w t (.map (some b)) key false k :=
  ⟨kVal_look (fun n => by
    have hg : (w.drewN n).heap[b]? = some (.map es clock) := hb
    have hc : ∀ e, (Instr.checkKey e 10000 kt key).run c.P (w.drewN n) = .ok () (w.drewN n) := fun e => MapKept.run_checkKey hk hkey e 9999
    simp [Instr.lookup, run_underlying hm, MapKept.run_getObj_map hg, hc, MapKept.run_findKey hk hf, Result.andThen]) h⟩
end
/-- The int64 of a value that came in. -/
def Rng (r : AV) : Prop := -9223372036854775808 ≤ r.2.1 ∧ r.2.1 ≤ 9223372036854775807
theorem kCallV_y {P : Program} {X : Chain → World → Prop} {w : World} {l : Nat} {args : Array Value} {R : Ending → World → Prop} {k : Value → World → Prop} (h : YieldC P l args w R) (hk : ∀ e w', R e w' → after k X e w') :
    kCallV ⟨P, X, false⟩ w (.func (.yield l) #[] #[]) args k := by
  obtain ⟨fn, tmps, asn, body, hrun, hr⟩ := h
  refine ⟨?_⟩
  show kNext _ _ _
  have : (do let d ← Deferred.ofValue (.func (.yield l) #[] #[]) args; invoke d.target d.args : Sem Next).run P w = .ok (.round l fn tmps asn body) w := by
    simp [Deferred.ofValue, invoke, hrun]
  rw [this]
  exact hr.mono hk
theorem iter112 {rows : List AV} {w : World} {b : Nat} {a : Option Addr} {cp : Nat} (hbox : w.heap[b]? = some (.cells #[.slice a rows.length cp] 22 (0, 0))) (hlen : rows.length ≤ 4611686018427387904) {J : Nat → World → Prop}
    (hJ : ∀ i W, J i W → Sl W a 3 (rows.map vVal)) : Iter Tryd.prog (.func (.func 81) #[] #[.pointer (some ⟨b, 0, none⟩)]) rows.length (fun i => [(rows.map vVal).getD i undef].toArray) J w := by
  refine ⟨81, #[.pointer (some ⟨b, 0, none⟩)], rfl, Tryd.call81, ?_⟩
  intro l J' Z' W hB hsJ hsZ hJ' hy h0
  show Calls Tryd.prog 81 #[.func (.yield l) #[] #[], .pointer (some ⟨b, 0, none⟩)] W _
  refine c81 _ _ _ _ ?_
  unfold vc81
  have hbl : b < w.heap.size := (Array.getElem?_eq_some_iff.1 hbox).1
  have hcell : W.cell? ⟨b, 0, none⟩ = some (.slice a rows.length cp) := by
    rw [cell_of_row W b 0 #[.slice a rows.length cp] 22 (0, 0) (by rw [hB.block b hbl]; exact hbox)]; rfl
  refine kLdS rfl hcell (kLen22 ⟨⟨fun cs V => ∃ i : Nat, cs = [.int .i64 i] ∧ i ≤ rows.length ∧ J' i V, fun cs _ => rows.length - (match cs with | [.int _ i] => i.toNat | _ => 0), ⟨0, rfl, Nat.zero_le _, h0⟩, ?_⟩⟩)
  rintro cs ds V ⟨i, rfl, hile, hJi⟩
  dsimp only [List.getD_cons_zero]
  refine kBin_lss (kIf_d (fun e => ?_) (fun e => ?_))
  · have hil : i < rows.length := by omega
    obtain ⟨pb, po, rfl, hpb, hpr⟩ := (hJ i V (hJ' i V hJi)).elem (i := i) (v := vVal rows[i]) (by simp [hil])
    refine kIa22 hil (kLd49 hpr (kAlloc_st Tryd.zeroValue41 (St.start V) fun b3 V1 hS => kStoreA_st hS 0 rfl rfl (by simp [Value.oneCell']) Tryd.sizeOf41 fun V2 hS => kLoadA_st (c := ⟨Tryd.prog, _, false⟩) hS 0 rfl Tryd.underlying41 rfl Tryd.sizeOf41 rfl ?_))
    have hx : ([(rows.map vVal).getD i undef] : List Value).toArray = #[vVal rows[i]] := by simp [hil]
    have hyy := hy i V2 hil (hsJ i V V2 hJi hS.below)
    dsimp only at hyy
    rw [hx] at hyy
    refine kCallV_y hyy ?_
    intro en W' hen
    cases en with
    | outgrown => exact hen.elim
    | panicked ch => exact hen
    | returned v =>
      rcases hen with ⟨rfl, hj⟩ | ⟨rfl, hz⟩
      · refine kUn_not (kIf_f (kBin_add (kD_i ⟨⟨i + 1, by rw [wrap_id (by omega) (by omega)]; rfl, hil, hj⟩, ?_⟩)))
        rw [wrap_id (by omega) (by omega)]; show rows.length - ((i : Int) + 1).toNat < rows.length - (i : Int).toNat; omega
      · exact kUn_not (kIf_t (.inr hz))
  · have : i = rows.length := by omega
    subst this
    exact .inl hJi
theorem values78 (a : Option Addr) (n cp : Nat) (w : World) (R : Ending → World → Prop) (h : ∀ b W, Below w.heap.size w W → w.heap.size ≤ b → W.heap[b]? = some (.cells #[.slice a n cp] 22 (0, 0)) → R (.returned (.func (.func 81) #[] #[.pointer (some ⟨b, 0, none⟩)])) W) :
    Calls Tryd.prog 41 #[.slice a n cp] w R := by
  refine c41 _ _ _ _ _ ?_
  unfold vc41
  refine kBox_st (St.start w) fun b W hS => h b W hS.below (hS.get 0 rfl).1 (hS.get 0 rfl).2
theorem St.take {w0 : World} {L : List Own} {W : World} (h : St w0 L W) (k : Nat) : St w0 (L.take k) W :=
  ⟨h.below, fun o ho => h.all o (List.mem_of_mem_take ho), fun i j a b ha hb hij => by
    have key : ∀ (i : Nat) (a : Own), (L.take k)[i]? = some a → L[i]? = some a := fun i a ha => by
      by_cases hi : i < k
      · rwa [List.getElem?_take_of_lt hi] at ha
      · rw [List.getElem?_eq_none (by simp; omega)] at ha; cases ha
    exact h.apart i j a b (key i a ha) (key j b hb) hij⟩
/-- Cells only. -/
def Own.cl : Own → Prop
  | .ob _ _ => False
  | _ => True
theorem Own.cl_blk {base : Nat} {W : World} {o : Own} (h : o.holds base W) (hc : o.cl) : ∀ b, o.blk = some b → ∃ c t f, W.heap[b]? = some (.cells c t f) := by
  intro b hb
  cases o with
  | bx b' t cs => cases hb; exact ⟨_, _, _, h.2⟩
  | row x e sz n xs =>
    rcases h.2 with ⟨rfl, _⟩ | ⟨g, cap, cur, rfl, _, hg, _⟩
    · cases hb
    · cases hb; exact ⟨_, _, _, hg⟩
  | ob b' o => exact hc.elim
theorem St.turn {w0 : World} {L : List Own} {W W' : World} {row : Option Nat} (h : St w0 L W) (hcl : ∀ o ∈ L, o.cl) (hg : W.grownBy W' row) (hr : ∀ r, row = some r → w0.heap.size ≤ r ∧ ∃ o : Obj, W.heap[r]? = some o ∧ o.isCells = false) : St w0 L W' := by
  refine ⟨h.below.grown hg h.size fun k hk => (hr k hk).1, fun o ho => Own.kept (h.all o ho) hg ?_, h.apart⟩
  cases hb : o.blk with
  | none => exact .inl rfl
  | some b =>
    right
    intro he
    obtain ⟨_, o', ho', hn⟩ := hr b he.symm
    obtain ⟨c, t, f, hc⟩ := Own.cl_blk (h.all o ho) (hcl o ho) b hb
    rw [hc] at ho'
    cases ho'
    simp [Obj.isCells] at hn
theorem Below.turn {w0 W W' : World} {row : Option Nat} (h : Below w0.heap.size w0 W) (hg : W.grownBy W' row) (hr : ∀ r, row = some r → w0.heap.size ≤ r ∧ ∃ o : Obj, W.heap[r]? = some o ∧ o.isCells = false) : Below w0.heap.size w0 W' :=
  h.grown hg h.size fun k hk => (hr k hk).1
/-- Something that was there already comes under watch. -/
theorem St.adopt {w0 W : World} {L : List Own} (h : St w0 L W) {o : Own} (ho : o.holds w0.heap.size W) (hne : ∀ p ∈ L, p.blk = none ∨ p.blk ≠ o.blk) : St w0 (L ++ [o]) W := by
  refine ⟨h.below, fun p hp => ?_, fun i j a b ha hb hij => ?_⟩
  · rcases List.mem_append.1 hp with hp | hp
    · exact h.all p hp
    · simp at hp; subst hp; exact ho
  · have key : ∀ (i : Nat) (a : Own), (L ++ [o])[i]? = some a → (i < L.length ∧ L[i]? = some a) ∨ (i = L.length ∧ a = o) := by
      intro i a ha
      by_cases hi : i < L.length
      · rw [List.getElem?_append_left hi] at ha; exact .inl ⟨hi, ha⟩
      · have hlt := (List.getElem?_eq_some_iff.1 ha).1
        simp at hlt
        have : i = L.length := by omega
        subst this
        simp at ha
        exact .inr ⟨rfl, ha.symm⟩
    rcases key i a ha with ⟨_, ha'⟩ | ⟨hi, hao⟩ <;> rcases key j b hb with ⟨_, hb'⟩ | ⟨hj, hbo⟩
    · exact h.apart i j a b ha' hb' hij
    · rw [hbo]; exact hne a (List.mem_of_getElem? ha')
    · rw [hao]
      rcases hne b (List.mem_of_getElem? hb') with h1 | h1
      · cases hk : o.blk with
        | none => exact .inl rfl
        | some k => exact .inr (by rw [h1]; simp)
      · exact .inr (Ne.symm h1)
    · exact absurd (hi.trans hj.symm) hij
/-- What an encoding panics with: the first value that does not check. -/
def badE : List AV → Int
  | [] => 0
  | r :: rs => if checkE r ≠ 0 then checkE r else badE rs
theorem kAppRow_st {P : Program} {X : Chain → World → Prop} {w w0 : World} {t e : TypeId} {sz by_ : Nat} (E : Elt P t e sz by_) {L : List Own} (hS : St w0 L w) (i j : Nat) {n m : Nat} {x y : Value} {xs ys : List Value} (hi : L[i]? = some (.row x e sz n xs)) (hj : L[j]? = some (.row y e sz m ys))
    {cs : Array Bool} {ty : TypeId} {k : Value → World → Prop} (h1 : ∀ u ∈ ys, u.oneCell' = true) (hmax : n + m ≤ maxLen) (hby : (n + m) * by_ ≤ 140737488355328)
    (h : ∀ x' W, St w0 (L.set i (.row x' e sz (n + m) (xs ++ ys))) W → k x' W) : kBlt ⟨P, X, false⟩ w .append #[t, t] ty cs #[x, y] k := by
  obtain ⟨ii, z, hin, hz, hs, hb, hzs⟩ := E.info
  have hx : w.ownsRow w0.heap.size e sz x n xs := hS.get i hi
  have hy : w.ownsRow w0.heap.size e sz y m ys := hS.get j hj
  have fin : ∀ x' W, (Builtin.append_ #[t, t] ty #[x, y]).run P w = .ok x' W → W.ownsRow w0.heap.size e sz x' (n + m) (xs ++ ys) → w.grownBy W x.ownBlock → (x'.ownBlock = x.ownBlock ∨ x'.ownBlock = some w.heap.size) → kBlt ⟨P, X, false⟩ w .append #[t, t] ty cs #[x, y] k := by
    intro x' W hr ho hg hbk
    refine ⟨?_⟩
    show kNext _ _ _
    simp only [builtin, Sem.run_bind, hr, Result.andThen_ok, Sem.run_pure]
    refine h x' W (hS.set i hi hg ho (hbk.imp id fun hb k hk => ?_))
    have hk : x'.ownBlock = some k := hk
    rw [hb] at hk; cases hk; exact Nat.le_refl _
  rcases hy.2 with ⟨rfl, rfl⟩ | ⟨g, cap, cur, rfl, _, hg, _⟩
  · have hys : ys = [] := List.eq_nil_of_length_eq_zero (by simpa using hy.1)
    subst hys
    refine fin x w (run_append_owned_none w w0.heap.size t ty e ii sz E.sl hin x n xs hx) (by simpa using hx) ⟨rfl, rfl, rfl, Nat.le_refl _, fun _ _ _ => rfl⟩ (.inl rfl)
  · obtain ⟨v', w', hr, h2, h3, _, h5⟩ := run_append_own_at (P := P) w w0.heap.size t ty e ii z sz by_ E.sl hin hz hs hb hzs E.pos x n xs hx ⟨g, 0, none⟩ m cap ys hy.1 (hy.cells rfl) h1 hmax hby hS.size
    exact fin v' w' hr h2 h3 h5
/-- A slice literal: a new row. -/
theorem kBuildS_st {P : Program} {X : Chain → World → Prop} {w w0 : World} {t e : TypeId} {sz by_ : Nat} (E : Elt P t e sz by_) {L : List Own} (hS : St w0 L w) (vs : List Value) {n : Nat} {parts : Array (Nat × Value)} {k : Value → World → Prop} (hp : parts.toList = (vs.zipIdx 0).map fun x => (x.2, x.1)) (hn : vs.length = n) (h0 : 0 < n) (h1 : n ≤ 1024)
    (hv : ∀ v ∈ vs, v.cells.size = sz) (h : ∀ x W, St w0 (L ++ [.row x e sz n (flat vs)]) W → k x W) : kBuildS ⟨P, X, false⟩ w t n parts k :=
  kBuildS_row E hS.size vs hp hn h0 h1 hv fun x W ho hg hb => h x W (hS.push hg ho hb)
/-- What a call has made. -/
theorem St.made {w0 w W : World} {L : List Own} (hS : St w0 L w) (hB : Below w.heap.size w W) {x : Value} {e : TypeId} {sz n : Nat} {xs : List Value} (ho : W.ownsRow w.heap.size e sz x n xs) : St w0 (L ++ [.row x e sz n xs]) W :=
  hS.push (grown_of_below hB) (ownsRow_rebase ho hS.size) fun k hk => (World.ownsRow.lt ho k hk).1
theorem badE_take {rows : List AV} {i : Nat} (hi : i < rows.length) (h : ∀ r ∈ rows.take i, checkE r = 0) (hc : checkE rows[i] ≠ 0) : badE rows = checkE rows[i] := by
  induction rows generalizing i with
  | nil => simp at hi
  | cons a l ih =>
    cases i with
    | zero => simp [badE] at hc ⊢; intro h0; exact absurd h0 hc
    | succ i =>
      have ha : checkE a = 0 := h a (by simp)
      simp only [badE, ha, ne_eq, not_true_eq_false, if_false, List.getElem_cons_succ] at hc ⊢
      exact ih (by simpa using hi) (fun r hr => h r (by simp [hr])) hc
theorem badE_all {rows : List AV} (h : ∀ r ∈ rows, checkE r = 0) : badE rows = 0 := by
  induction rows with
  | nil => rfl
  | cons a l ih => simp [badE, h a (by simp), ih (fun r hr => h r (by simp [hr]))]
theorem checkE_size {r : AV} (h : checkE r = 0) : r.2.2.size ≤ 1000 := by
  simp only [checkE] at h
  rcases Nat.lt_or_ge 1000 r.2.2.size with h1 | h1
  · rw [if_pos h1] at h; omega
  · exact h1
theorem RetK_cell2 {R : Ending → World → Prop} {w : World} {a b : Addr} {t u : TypeId} {v v' : Value} (ht : scal t = true) (hu : scal u = true) (hc : w.cell? a = some v) (hd : w.cell? b = some v') (h : R (.returned (.tuple #[v, v'])) w) : RetK Tryd.prog [.cell (.pointer (some a)) t, .cell (.pointer (some b)) u] R w :=
  ⟨.tuple #[v, v'], by simp [resSem, asAddr, loadVar, scal_agg ht, scal_agg hu, hc, hd], h⟩
theorem Lv_ret39 {p c : Value} {rs : List RV} {R : Ending → World → Prop} {w : World} (h : RetK Tryd.prog rs R w) : Lv Tryd.prog rs R [{ target := .fn (.func 22) #[], args := #[p, c] }] .returning w :=
  ⟨rfl, Tryd.call22, (caught_idle39 p c w).mono (by rintro e u' w' ⟨rfl, rfl, rfl⟩; exact h)⟩
theorem Lv_pan39 {w0 : World} {L : List Own} {rs : List RV} {R : Ending → World → Prop} {w : World} (hS : St w0 L w) (i : Nat) {b : Nat} {t : TypeId} {x n : Int} (hi : L[i]? = some (.bx b t #[.int .i64 x]))
    {fc : FuncId} {caps : Array Value} (Rc : World → Prop) (hf : ∀ args w, (callFunc fc args).run Tryd.prog w = .ok (.enter fc args) w)
    (hcl : ∀ W, St w0 (L.set i (.bx b t #[.int .i64 n])) W → Calls Tryd.prog fc caps W fun e w' => e = .returned unit ∧ Rc w') (h : ∀ W, Rc W → RetK Tryd.prog rs R W) :
    Lv Tryd.prog rs R [{ target := .fn (.func 22) #[], args := #[.pointer (some ⟨b, 0, none⟩), .func (.func fc) #[] caps] }] (.panicking [pe n false]) w :=
  ⟨rfl, Tryd.call22, (caught_panics39 ⟨b, 0, none⟩ x n fc caps Rc w (hS.cell i hi 0 rfl) (hS.unfrozen i hi 0) hf (hcl _ (hS.setCell i hi 0 _))).mono (by rintro e u' w' ⟨rfl, rfl, hR⟩; exact h _ hR)⟩
theorem RetK_agg {R : Ending → World → Prop} {w w0 : World} {L : List Own} (hS : St w0 L w) (i : Nat) {b : Nat} {cs : Array Value} (hi : L[i]? = some (.bx b 41 cs)) (hn : cs.size = 3) (h : R (.returned (.agg cs)) w) : RetK Tryd.prog [.cell (.pointer (some ⟨b, 0, none⟩)) 41] R w := by
  refine ⟨.agg cs, ?_, h⟩
  have := run_loadVar_row (P := Tryd.prog) w b 41 41 cs (0, 0) _ (hS.get i hi).2 Tryd.underlying41 rfl (by rw [info_of (Tryd.typeInfo41 w), hn]; rfl)
  simp [resSem, asAddr, this]
theorem built49n (t n : Int) : Tryd.prog.built 41 [(0, .int .i64 t), (1, .int .i64 n)] = some #[.int .i64 t, .int .i64 n, .string ⟨#[]⟩] := by
  have h1 := info_of (Tryd.typeInfo41 default)
  have h2 := info_of (Tryd.typeInfo39 default)
  have h3 := info_of (Tryd.typeInfo2 default)
  have h4 := info_of (Tryd.typeInfo9 default)
  simp [Program.built, h1, Tryd.underlying41, Tryd.t41, h2, h3, h4, Tryd.t39, Tryd.t2, Tryd.t9, Instr.fill]
  exact ⟨⟨rfl, Nat.le_of_ble_eq_true rfl⟩, ⟨rfl, Nat.le_of_ble_eq_true rfl⟩, rfl⟩
/-- A slice of bytes, as it reads. -/
structure Bs (W : World) (a : Option Addr) (n cp : Nat) (bs : List Nat) : Prop where
  sl : Sl W a 1 (bs.map vB)
  len : n = bs.length
  cap : n ≤ cp
theorem Bs.keep {W W' : World} {a : Option Addr} {n cp : Nat} {bs : List Nat} (h : Bs W a n cp bs) (hB : Below W.heap.size W W') : Bs W' a n cp bs := ⟨h.sl.below hB, h.len, h.cap⟩
theorem flat_vB (bs : List Nat) : (bs.map vB).flatMap (·.cells.toList) = bs.map vB := by
  induction bs with
  | nil => rfl
  | cons b l ih => rw [List.map_cons, List.flatMap_cons, ih]; rfl
theorem Bs.drop {W : World} {a : Option Addr} {n cp : Nat} {bs : List Nat} (h : Bs W a n cp bs) {l : Nat} (hl : l ≤ n) : Bs W (if cp = l then a else a.map (·.add (l * 1))) (n - l) (cp - l) (bs.drop l) := by
  refine ⟨⟨fun v hv => by obtain ⟨z, _, rfl⟩ := List.mem_map.1 hv; rfl, ?_⟩, by rw [List.length_drop, h.len], by have := h.cap; omega⟩
  rcases Nat.lt_or_ge l n with h1 | h1
  · right
    rcases h.sl.at_ with he | ⟨b, o, ha, hb, hr⟩
    · have := h.len; rw [List.map_eq_nil_iff] at he; subst he; simp at this; omega
    · refine ⟨b, o + l, ?_, hb, ?_⟩
      · rw [if_neg (by have := h.cap; omega), ha]; simp [Addr.add_mid]
      · rw [flat_vB] at hr ⊢
        intro j v hj
        have := hr (l + j) v (by rw [← hj, List.map_drop, List.getElem?_drop])
        rwa [← Nat.add_assoc] at this
  · left; rw [List.drop_eq_nil_of_le (by rw [← h.len]; exact h1)]; rfl
theorem Bs.take {W : World} {a : Option Addr} {n cp : Nat} {bs : List Nat} (h : Bs W a n cp bs) {l m : Nat} (hl : l ≤ n) (hm : l ≤ m) : Bs W (if m = 0 then a else a.map (·.add (0 * 1))) l m (bs.take l) := by
  have e : (if m = 0 then a else a.map (·.add (0 * 1))) = a := by
    split
    · rfl
    · cases a <;> simp [Addr.add]
  rw [e]
  refine ⟨⟨fun v hv => by obtain ⟨z, _, rfl⟩ := List.mem_map.1 hv; rfl, ?_⟩, by rw [List.length_take, ← h.len]; omega, hm⟩
  rcases h.sl.at_ with he | ⟨b, o, ha, hb, hr⟩
  · left; rw [List.map_eq_nil_iff] at he; subst he; simp
  · right
    refine ⟨b, o, ha, hb, ?_⟩
    rw [flat_vB] at hr ⊢
    intro j v hj
    refine hr j v ?_
    rw [List.map_take] at hj
    have hlt := (List.getElem?_eq_some_iff.1 hj).1
    rwa [List.getElem?_take_of_lt (by simp at hlt; omega)] at hj
section
variable {X : Chain → World → Prop} {q : Bool} {w : World} {k : Value → World → Prop} {a : Option Addr} {n cp : Nat}
theorem kSl38_l {l : Nat} (h1 : l ≤ n) (h : k (.slice (if cp = l then a else a.map (·.add (l * 1))) (n - l) (cp - l)) w) : kSl ⟨Tryd.prog, X, q⟩ w 25 (.slice a n cp) (some (.int .i64 l)) none none k :=
  ⟨kVal_pure (c := ⟨Tryd.prog, X, q⟩) (fun w' => by
    rw [run_sliceAt_slice w' 25 _ _ _ _ (elem_of Tryd.underlying25), run_slice_l w' 25 a n cp (elem_of Tryd.underlying25) .i64 l (by omega) (by omega)]
    rw [show Tryd.prog.elem 25 = 5 by simp [Program.elem, Tryd.underlying25], Tryd.sizeOf5]
    rfl) h⟩
theorem kSl38_hm {l : Nat} (h1 : l ≤ cp) (h : k (.slice (if l = 0 then a else a.map (·.add (0 * 1))) l l) w) : kSl ⟨Tryd.prog, X, q⟩ w 25 (.slice a n cp) none (some (.int .i64 l)) (some (.int .i64 l)) k :=
  ⟨kVal_pure (c := ⟨Tryd.prog, X, q⟩) (fun w' => by
    rw [run_sliceAt_slice w' 25 _ _ _ _ (elem_of Tryd.underlying25), run_slice_hm w' 25 a n cp (elem_of Tryd.underlying25) .i64 .i64 l l (by omega) (by omega) (by omega)]
    rw [show Tryd.prog.elem 25 = 5 by simp [Program.elem, Tryd.underlying25], Tryd.sizeOf5]
    rfl) h⟩
theorem kSl38_h {l : Nat} (h1 : l ≤ cp) (h : k (.slice (if cp = 0 then a else a.map (·.add (0 * 1))) l cp) w) : kSl ⟨Tryd.prog, X, q⟩ w 25 (.slice a n cp) none (some (.int .i64 l)) none k :=
  ⟨kVal_pure (c := ⟨Tryd.prog, X, q⟩) (fun w' => by
    rw [run_sliceAt_slice w' 25 _ _ _ _ (elem_of Tryd.underlying25), run_slice_h w' 25 a n cp (elem_of Tryd.underlying25) .i64 l (by omega) (by omega)]
    rw [show Tryd.prog.elem 25 = 5 by simp [Program.elem, Tryd.underlying25], Tryd.sizeOf5]
    rfl) h⟩
end
theorem kFa81 {X : Chain → World → Prop} {q : Bool} {w : World} {b o : Nat} {k : Value → World → Prop} (h : k (.pointer (some ⟨b, o, none⟩)) w) : kFa ⟨Tryd.prog, X, q⟩ w 62 (.pointer (some ⟨b, o, none⟩)) 0 k :=
  kFa_i (c := ⟨Tryd.prog, X, q⟩) Tryd.underlying62 rfl (n := 0) Tryd.sizeOf25 h
theorem kFa83 {X : Chain → World → Prop} {q : Bool} {w : World} {b o : Nat} {k : Value → World → Prop} (h : k (.pointer (some ⟨b, o, none⟩)) w) : kFa ⟨Tryd.prog, X, q⟩ w 64 (.pointer (some ⟨b, o, none⟩)) 0 k :=
  kFa_i (c := ⟨Tryd.prog, X, q⟩) Tryd.underlying64 rfl (n := 0) Tryd.sizeOf62 h
theorem u64_wrap {n : Nat} (h : n < 18446744073709551616) : IntKind.u64.wrap (n : Int) = n := by
  simp [IntKind.wrap, IntKind.bits, IntKind.signed]; omega
theorem kIa38 {X : Chain → World → Prop} {q : Bool} {w : World} {b o n cp : Nat} {i : Nat} {k : Value → World → Prop} (hi : i < n) (h : k (.pointer (some ⟨b, o + i * 1, none⟩)) w) : kIa ⟨Tryd.prog, X, q⟩ w 25 (.slice (some ⟨b, o, none⟩) n cp) (.int .i64 i) k :=
  kIa_sl (c := ⟨Tryd.prog, X, q⟩) Tryd.underlying25 Tryd.sizeOf5 hi h
theorem kCv5_84 {X : Chain → World → Prop} {q : Bool} {w : World} {k : Value → World → Prop} {a : Nat} (ha : a < 256) (h : k (.int .u64 (a : Int)) w) : kConv ⟨Tryd.prog, X, q⟩ w 5 71 (.int .u8 a) k :=
  kConv_int (c := ⟨Tryd.prog, X, q⟩) (q' := .u64) (by rw [show (Cx.mk Tryd.prog X q).P.underlying 5 = _ from Tryd.underlying5]; rfl) Tryd.underlying71 (by rw [u64_wrap (by omega)]; exact h)
theorem kDrawn_i {A : Prop} (h : A) : kDrawn true A := ⟨rfl, h⟩
theorem kDrew_st {w0 w : World} {L : List Own} {f : World → Prop} (hS : St w0 L w) (h : ∀ W, St w0 L W → f W) : kDrew w f := ⟨fun n => h _ (hS.drewN n)⟩
theorem kSame_i {v : Value} {A : Prop} (h : A) : kSame v v A := ⟨rfl, h⟩
theorem kBoth_i {A B : Prop} (h : A) (h' : B) : kBoth A B := ⟨h, h'⟩
/-- The text of bytes. -/
def mkS (bs : List Nat) : ByteArray := ⟨(bs.map UInt8.ofNat).toArray⟩
theorem mkS_size (bs : List Nat) : (mkS bs).size = bs.length := by simp [mkS, ByteArray.size]
theorem bl_mkS {bs : List Nat} (h : ∀ b ∈ bs, b < 256) : bl (mkS bs) = bs := by
  simp only [bl, mkS, List.map_map]
  conv => rhs; rw [← List.map_id bs]
  apply List.map_congr_left
  intro b hb
  simp [Nat.mod_eq_of_lt (h b hb)]
theorem mkS_bl (s : ByteArray) : mkS (bl s) = s := by
  obtain ⟨⟨l⟩⟩ := s
  simp [mkS, bl, Function.comp_def]
theorem kCv_str {X : Chain → World → Prop} {q : Bool} {W : World} {k : Value → World → Prop} {a : Option Addr} {n cp : Nat} {bs : List Nat} (hB : Bs W a n cp bs) (h : k (.string (mkS bs)) W) : kConv ⟨Tryd.prog, X, q⟩ W 25 9 (.slice a n cp) k := by
  refine ⟨kVal_look (c := ⟨Tryd.prog, X, q⟩) (v := .string (mkS bs)) (fun m => ?_) h⟩
  have e : strOfNums (bs.map (fun (b : Nat) => (b : Int))) = mkS bs := by simp [strOfNums, mkS, Function.comp_def]
  rcases hB.sl.at_ with he | ⟨b, o, ha, hb, hr⟩
  · have : bs = [] := by simpa using he
    subst this
    have hn : n = 0 := by simpa using hB.len
    subst hn
    cases a with
    | none => exact run_convert_bytes_nil (P := Tryd.prog) (W.drewN m) 25 5 Tryd.underlying25 Tryd.underlying5 _ _ 9 Tryd.underlying9
    | some a =>
      rw [run_convert_bytes_string (P := Tryd.prog) (W.drewN m) 25 9 5 _ 0 cp Tryd.underlying25 Tryd.underlying5 Tryd.underlying9, run_bytesToString (W.drewN m) a 0 cp [] (by simp [loadCells, loadCellsFrom])]
      rfl
  · subst ha
    rw [flat_vB] at hr
    rw [run_convert_bytes_arg (P := Tryd.prog) (W.drewN m) 25 5 Tryd.underlying25 Tryd.underlying5 b o n cp (bs.map (fun (b : Nat) => (b : Int))) (by simp [hB.len]) (fun i hi => ?_) 9 Tryd.underlying9, e]
    have hil : i < bs.length := by rw [← hB.len]; exact hi
    have := hr i (vB bs[i]) (by simp [hil])
    simp [hil]; exact this
theorem at_l {L M : List Own} {i : Nat} {o : Own} (h : L[i]? = some o) : (L ++ M)[i]? = some o := by
  rw [List.getElem?_append_left (List.getElem?_eq_some_iff.1 h).1]; exact h
theorem at_r {L : List Own} {o : Own} : (L ++ [o])[L.length]? = some o := by simp
theorem set_l {L M : List Own} {i : Nat} {o : Own} (x : Own) (h : L[i]? = some o) : (L ++ M).set i x = L.set i x ++ M := List.set_append_left _ _ (List.getElem?_eq_some_iff.1 h).1
theorem set_r {L : List Own} {o : Own} (x : Own) : (L ++ [o]).set L.length x = L ++ [x] := by simp
theorem St.init {w0 W : World} {L M : List Own} (h : St w0 (L ++ M) W) : St w0 L W := by
  have := h.take L.length
  simpa using this
theorem kLdR {X : Chain → World → Prop} {q : Bool} {w0 w : World} {L : List Own} {k : Value → World → Prop} {t' : TypeId} {b : Nat} {t : TypeId} {cs : Array Value} (hS : St w0 (L ++ [.bx b t cs]) w) {off : Nat} {v : Value} (hv : cs[off]? = some v) (ht : scal t' = true) (h : k v w) :
    kLoad ⟨Tryd.prog, X, q⟩ w t' (.pointer (some ⟨b, off, none⟩)) k := kLd hS L.length at_r hv ht h
theorem kStR {X : Chain → World → Prop} {w0 w : World} {L : List Own} {t' : TypeId} {k : World → Prop} {b : Nat} {t : TypeId} {cs : Array Value} (hS : St w0 (L ++ [.bx b t cs]) w) {off : Nat} (hoff : off < cs.size) {v : Value} (hv : v.cells = #[v]) (h1 : v.oneCell' = true) (ht : scal t' = true)
    (h : ∀ W, St w0 (L ++ [.bx b t (cs.setIfInBounds off v)]) W → k W) : kStore ⟨Tryd.prog, X, false⟩ w t' (.pointer (some ⟨b, off, none⟩)) v k := kSt hS L.length at_r hoff hv h1 ht (fun W hS => h W (by rwa [set_r] at hS))
theorem kNeg {c : Cx} {w : World} {k : Value → World → Prop} {q : IntKind} {a : Int} (h : k (.int q (q.wrap (-a))) w) : kUn c w .neg (.int q a) k := ⟨kVal_pure (fun _ => by simp [Op.unary, Op.intArith]) h⟩
theorem kCv5_47 {X : Chain → World → Prop} {q : Bool} {w : World} {k : Value → World → Prop} {a : Nat} (ha : a < 256) (h : k (.int .i64 (a : Int)) w) : kConv ⟨Tryd.prog, X, q⟩ w 5 39 (.int .u8 a) k :=
  kConv_int (c := ⟨Tryd.prog, X, q⟩) (q' := .i64) (by rw [show (Cx.mk Tryd.prog X q).P.underlying 5 = _ from Tryd.underlying5]; rfl) Tryd.underlying39 (by
    rw [wrap_id (by omega) (by omega)]; exact h)
theorem kCv5_2 {X : Chain → World → Prop} {q : Bool} {w : World} {k : Value → World → Prop} {a : Nat} (ha : a < 256) (h : k (.int .i64 (a : Int)) w) : kConv ⟨Tryd.prog, X, q⟩ w 5 2 (.int .u8 a) k :=
  kConv_int (c := ⟨Tryd.prog, X, q⟩) (q' := .i64) (by rw [show (Cx.mk Tryd.prog X q).P.underlying 5 = _ from Tryd.underlying5]; rfl) Tryd.underlying2 (by
    rw [wrap_id (by omega) (by omega)]; exact h)
theorem kCv84_2 {X : Chain → World → Prop} {q : Bool} {w : World} {k : Value → World → Prop} {a : Nat} (ha : a < 9223372036854775808) (h : k (.int .i64 (a : Int)) w) : kConv ⟨Tryd.prog, X, q⟩ w 71 2 (.int .u64 a) k :=
  kConv_int (c := ⟨Tryd.prog, X, q⟩) (q' := .i64) (by rw [show (Cx.mk Tryd.prog X q).P.underlying 71 = _ from Tryd.underlying71]; rfl) Tryd.underlying2 (by
    rw [wrap_id (by omega) (by omega)]; exact h)
theorem ret49 {X : Chain → World → Prop} {R : Ending → World → Prop} {w0 W : World} {L : List Own} {b : Nat} {v0 v1 v2 : Value} (hS : St w0 (L ++ [.bx b 41 #[v0, v1, v2]]) W) (h0 : v0.oneCell' = true) (h1 : v1.oneCell' = true) (h2 : v2.oneCell' = true) (h : ∀ W, St w0 (L ++ [.bx b 41 #[v0, v1, v2]]) W → R (.returned (.agg #[v0, v1, v2])) W) :
    kLoad ⟨Tryd.prog, X, false⟩ W 41 (.pointer (some ⟨b, 0, none⟩)) fun v w => kStore ⟨Tryd.prog, X, false⟩ w 41 (.pointer (some ⟨b, 0, none⟩)) v fun w' => RetK Tryd.prog [.cell (.pointer (some ⟨b, 0, none⟩)) 41] R w' := by
  refine kLoadA_st (c := ⟨Tryd.prog, X, false⟩) hS L.length at_r Tryd.underlying41 rfl Tryd.sizeOf41 rfl (kStoreA_st hS L.length at_r rfl (by simp [h0, h1, h2]) Tryd.sizeOf41 fun W hS => ?_)
  rw [set_r] at hS
  exact RetK_agg hS L.length at_r rfl (h _ hS)
theorem Lv_clear42 {w0 : World} {L : List Own} {R : Ending → World → Prop} {w : World} {b2 b3 : Nat} {t2 t3 : TypeId} {x : Value} {z n : Int} (hS : St w0 L w) (h2 : L[0]? = some (.bx b2 t2 #[x])) (h3 : L[1]? = some (.bx b3 t3 #[.int .i64 z]))
    (h : ∀ W, Below w0.heap.size w0 W → R (.returned (.tuple #[.slice none 0 0, .int .i64 n])) W) :
    Lv Tryd.prog [.cell (.pointer (some ⟨b2, 0, none⟩)) 22, .cell (.pointer (some ⟨b3, 0, none⟩)) 26] R [{ target := .fn (.func 22) #[], args := #[.pointer (some ⟨b3, 0, none⟩), .func (.func 29) #[] #[.pointer (some ⟨b2, 0, none⟩)]] }] (.panicking [pe n false]) w := by
  have hl0 := (List.getElem?_eq_some_iff.1 h2).1
  have hl1 := (List.getElem?_eq_some_iff.1 h3).1
  refine Lv_pan39 hS 1 h3 (fun W => St w0 ((L.set 1 (.bx b3 t3 #[.int .i64 n])).set 0 (.bx b2 t2 #[.slice none 0 0])) W) Tryd.call29 (fun W hS => ?_) (fun W hS => RetK_cell2 rfl rfl (hS.cell 0 (by rw [List.getElem?_set_self (by simp; exact hl0)]) 0 rfl) (hS.cell 1 (by rw [List.getElem?_set_ne (by decide), List.getElem?_set_self hl1]) 0 rfl) (h _ hS.below))
  refine c29 _ _ _ ?_
  unfold vc29
  refine kSt hS 0 (cs := #[x]) (by rw [List.getElem?_set_ne (by decide)]; exact h2) (by simp) rfl rfl rfl fun W hS => ⟨rfl, ?_⟩
  exact hS
theorem built81 (a : Option Addr) (n c : Nat) : Tryd.prog.built 62 [(0, .slice a n c)] = some #[.slice a n c] := by
  have h1 := info_of (Tryd.typeInfo62 default)
  have h2 := info_of (Tryd.typeInfo25 default)
  simp [Program.built, h1, Tryd.underlying62, Tryd.t62, h2, Tryd.t25, Instr.fill]
  exact ⟨⟨rfl, Nat.le_of_ble_eq_true rfl⟩, rfl⟩
theorem built83 (a : Option Addr) (n c : Nat) : Tryd.prog.built 64 [(0, .agg #[.slice a n c])] = some #[.slice a n c] := by
  have h1 := info_of (Tryd.typeInfo64 default)
  have h2 := info_of (Tryd.typeInfo62 default)
  simp [Program.built, h1, Tryd.underlying64, Tryd.t64, h2, Tryd.t62, Instr.fill]
  exact ⟨⟨rfl, Nat.le_of_ble_eq_true rfl⟩, rfl⟩
theorem flatMap_vVal_size (rs : List AV) : ∀ v ∈ rs.map vVal, v.cells.size = 3 := by
  intro v hv; obtain ⟨r, _, rfl⟩ := List.mem_map.1 hv; rfl
theorem own_cells {W : World} {base : Nat} {e : TypeId} {sz n : Nat} {x : Value} {xs : List Value} (h : W.ownsRow base e sz x n xs) : x.cells = #[x] ∧ x.oneCell' = true := by
  rcases h.2 with ⟨h, _⟩ | ⟨g, cap, cur, h, _⟩ <;> rw [h] <;> exact ⟨rfl, rfl⟩
theorem kBin_lssU {c : Cx} {w : World} {k : Value → World → Prop} {t : TypeId} {q : IntKind} {a b : Nat} (h : k (.bool (decide (a < b))) w) : kBin c w .lss t (.int q a) (.int q b) k := kBin_lss (by
  have e : decide ((a : Int) < (b : Int)) = decide (a < b) := by simp
  rw [e]; exact h)
theorem Bs.of_owns {W : World} {base : Nat} {y : Value} {bs : List Nat} (h : W.ownsRow base 5 1 y bs.length (bs.map vB)) : ∃ a cp, y = .slice a bs.length cp ∧ Bs W a bs.length cp bs := by
  obtain ⟨ya, yc, rfl, hysl⟩ := Sl.of_owns (vs := bs.map vB) (by intro v hv; obtain ⟨z, _, rfl⟩ := List.mem_map.1 hv; rfl) (by rw [flat_vB]; exact h) (by simp)
  refine ⟨ya, yc, rfl, hysl, rfl, ?_⟩
  rcases h.2 with ⟨h, hn⟩ | ⟨g, cap, cur, h, _, _, _, hcap, _⟩
  · rw [hn]; omega
  · cases h; omega
theorem St.sl {w0 w : World} {L : List Own} (hS : St w0 L w) (i : Nat) {a : Option Addr} {n cp sz : Nat} {e : TypeId} {vs : List Value} (hi : L[i]? = some (.row (.slice a n cp) e sz n (flat vs))) (hv : ∀ v ∈ vs, v.cells.size = sz) (hn : vs.length = n) : Sl w a sz vs := by
  obtain ⟨a', cp', he, h⟩ := Sl.of_owns hv (hS.get i hi) hn
  cases he; exact h
/-- A slice literal. -/
theorem kBS {P : Program} {X : Chain → World → Prop} {w w0 : World} {t e : TypeId} {sz by_ : Nat} (E : Elt P t e sz by_) {L : List Own} (hS : St w0 L w) (vs : List Value) {n : Nat} {parts : Array (Nat × Value)} {k : Value → World → Prop} (hp : parts.toList = (vs.zipIdx 0).map fun x => (x.2, x.1)) (hn : vs.length = n) (h0 : 0 < n) (h1 : n ≤ 1024)
    (hv : ∀ v ∈ vs, v.cells.size = sz) (h : ∀ a cp W, St w0 (L ++ [.row (.slice a n cp) e sz n (flat vs)]) W → Sl W a sz vs → k (.slice a n cp) W) : kBuildS ⟨P, X, false⟩ w t n parts k := by
  refine kBuildS_st E hS vs hp hn h0 h1 hv fun x W hS => ?_
  have ho : W.ownsRow w0.heap.size e sz x n (flat vs) := hS.get L.length at_r
  obtain ⟨a, cp, rfl, hsl⟩ := Sl.of_owns hv ho hn
  exact h a cp W hS hsl
theorem E23 (w : World) : Elt Tryd.prog 48 3 1 8 := ⟨Tryd.underlying48, ⟨Tryd.t3, _, info_of (Tryd.typeInfo3 w), rfl, rfl, rfl, rfl⟩, by omega, by omega⟩
theorem kEq_b4 {X : Chain → World → Prop} {q : Bool} {w : World} {k : Value → World → Prop} {ox oy : Operand} {x y : Bool} (h : k (.bool (x == y)) w) : kEq ⟨Tryd.prog, X, q⟩ w .eql 4 ox oy (.bool x) (.bool y) k := kEq_bool (c := ⟨Tryd.prog, X, q⟩) Tryd.underlying4 h
theorem own : ownKnob Tryd.prog.godebug = none := by kernel_rfl
theorem bl_256 (s : ByteArray) : ∀ b ∈ bl s, b < 256 := by
  intro b hb
  simp only [bl, List.mem_map] at hb
  obtain ⟨c, _, rfl⟩ := hb
  exact c.toNat_lt
theorem RetK_agg1 {R : Ending → World → Prop} {w w0 : World} {L : List Own} (hS : St w0 L w) (i : Nat) {b : Nat} {cs : Array Value} {v : Value} (hi : L[i]? = some (.bx b 41 cs)) (hn : cs.size = 3) (h : R (.returned (.tuple #[.agg cs, v])) w) : RetK Tryd.prog [.cell (.pointer (some ⟨b, 0, none⟩)) 41, .val v] R w := by
  refine ⟨.tuple #[.agg cs, v], ?_, h⟩
  have := run_loadVar_row (P := Tryd.prog) w b 41 41 cs (0, 0) _ (hS.get i hi).2 Tryd.underlying41 rfl (by rw [info_of (Tryd.typeInfo41 w), hn]; rfl)
  simp [resSem, asAddr, this]
theorem built49_0 : Tryd.prog.built 41 [] = some #[.int .i64 0, .int .i64 0, .string ⟨#[]⟩] := by
  have h1 := info_of (Tryd.typeInfo41 default)
  have h2 := info_of (Tryd.typeInfo39 default)
  have h3 := info_of (Tryd.typeInfo2 default)
  have h4 := info_of (Tryd.typeInfo9 default)
  simp [Program.built, h1, h2, h3, h4, Tryd.underlying41, Tryd.t41, Instr.fill, Value.cells]
/-- The marks of loops that are behind. -/
theorem Lv_marks {rs : List RV} {R : Ending → World → Prop} {u : FrameMode} (hu : u ≠ .run) {w0 : World} {b4 : Nat} {t4 : TypeId} {c4 : Array Value} : ∀ (ds : List Nat) (W : World), ds.Nodup → (∀ D ∈ ds, w0.heap.size ≤ D ∧ W.heap[D]? = some (.deferred (some []))) → Below w0.heap.size w0 W → W.heap[b4]? = some (.cells c4 t4 (0, 0)) →
    (∀ V, Below w0.heap.size w0 V → V.heap[b4]? = some (.cells c4 t4 (0, 0)) → Lv Tryd.prog rs R [] u V) → Lv Tryd.prog rs R (ds.map markOf) u W
  | [], W, _, _, hB, h4, h => h W hB h4
  | D :: ds, W, hnd, hd, hB, h4, h => by
    have hD := hd D (List.mem_cons_self ..)
    have hlt := (Array.getElem?_eq_some_iff.1 hD.2).1
    obtain ⟨hn1, hn2⟩ := List.nodup_cons.1 hnd
    have hne4 : D ≠ b4 := fun e => by rw [e, h4] at hD; cases hD.2
    have key : Lv Tryd.prog rs R (ds.map markOf) u (W.putObj D (.deferred none)) := by
      refine Lv_marks hu ds _ hn2 (fun D' hD' => ⟨(hd D' (List.mem_cons_of_mem _ hD')).1, ?_⟩) (Below.turn hB (grownBy_putObj' W D _) (fun r hr => by cases hr; exact ⟨hD.1, _, hD.2, rfl⟩)) ?_ h
      · have : D ≠ D' := fun e => hn1 (e ▸ hD')
        rw [World.putObj_heap_other (by omega)]; exact (hd D' (List.mem_cons_of_mem _ hD')).2
      · rw [World.putObj_heap_other (by omega)]; exact h4
    cases u with
    | run => exact absurd rfl hu
    | returning => exact ⟨hD.2, key⟩
    | panicking ch => exact ⟨hD.2, key⟩
theorem St.pw {w0 W : World} {L : List Own} (h : St w0 L W) : L.Pairwise (fun a b => a.blk = none ∨ a.blk ≠ b.blk) := by
  rw [List.pairwise_iff_getElem]
  intro i j hi hj hij
  exact h.apart i j _ _ (List.getElem?_eq_getElem hi) (List.getElem?_eq_getElem hj) (by omega)
theorem St.ofPw {w0 W : World} {L : List Own} (hb : Below w0.heap.size w0 W) (ha : ∀ o ∈ L, o.holds w0.heap.size W) (hp : L.Pairwise (fun a b => a.blk = none ∨ a.blk ≠ b.blk)) : St w0 L W := by
  have hsym : ∀ a b : Own, (a.blk = none ∨ a.blk ≠ b.blk) → (b.blk = none ∨ b.blk ≠ a.blk) := fun a b h => by
    rcases h with h | h
    · cases hbb : b.blk with
      | none => exact .inl rfl
      | some k => exact .inr (by rw [h]; simp)
    · exact .inr (Ne.symm h)
  refine ⟨hb, ha, fun i j a b hia hjb hij => ?_⟩
  rw [List.pairwise_iff_getElem] at hp
  obtain ⟨hi, rfl⟩ := List.getElem?_eq_some_iff.1 hia
  obtain ⟨hj, rfl⟩ := List.getElem?_eq_some_iff.1 hjb
  rcases Nat.lt_or_ge i j with h | h
  · exact hp i j hi hj h
  · exact hsym _ _ (hp j i hj hi (by omega))
theorem St.perm {w0 W : World} {L L' : List Own} (h : St w0 L W) (hp : L.Perm L') : St w0 L' W :=
  St.ofPw h.below (fun o ho => h.all o (hp.mem_iff.2 ho)) (h.pw.perm hp (fun {a b} h => by
    rcases h with h | h
    · cases hbb : b.blk with
      | none => exact .inl rfl
      | some k => exact .inr (by rw [h]; simp)
    · exact .inr (Ne.symm h)))
theorem St.sub {w0 W : World} {L L' : List Own} (h : St w0 L W) (hs : L'.Sublist L) : St w0 L' W := St.ofPw h.below (fun o ho => h.all o (hs.subset ho)) (h.pw.sublist hs)
/-- The last thing goes to place k. -/
theorem St.ins {w0 W : World} {L : List Own} {o : Own} (h : St w0 (L ++ [o]) W) (k : Nat) : St w0 (L.take k ++ o :: L.drop k) W := by
  refine h.perm ?_
  have e : L ++ [o] = L.take k ++ (L.drop k ++ [o]) := by rw [← List.append_assoc, List.take_append_drop]
  rw [e]
  exact List.Perm.append_left _ (List.perm_append_comm (l₁ := L.drop k) (l₂ := [o]))
theorem St.del {w0 W : World} {L : List Own} (h : St w0 L W) (k : Nat) : St w0 (L.take k ++ L.drop (k + 1)) W := by
  refine h.sub ?_
  conv => rhs; rw [← List.take_append_drop k L]
  exact List.Sublist.append (List.Sublist.refl _) (by rw [← List.drop_drop]; exact List.drop_sublist _ _)
theorem St.turn2 {w0 : World} {L : List Own} {W W' : World} {row : Option Nat} {B : Nat} (h : St w0 L W) (hB : w0.heap.size ≤ B) (hcl : ∀ o ∈ L, o.cl ∨ ∀ b, o.blk = some b → b < B) (hg : W.grownBy W' row) (hr : ∀ r, row = some r → B ≤ r ∧ ∃ o : Obj, W.heap[r]? = some o ∧ o.isCells = false) : St w0 L W' := by
  refine ⟨h.below.grown hg h.size fun k hk => Nat.le_trans hB (hr k hk).1, fun o ho => Own.kept (h.all o ho) hg ?_, h.apart⟩
  cases hb : o.blk with
  | none => exact .inl rfl
  | some b =>
    right
    intro he
    obtain ⟨h1, o', ho', hn⟩ := hr b he.symm
    rcases hcl o ho with hc | hc
    · obtain ⟨c, t, f, hc⟩ := Own.cl_blk (h.all o ho) hc b hb
      rw [hc] at ho'
      cases ho'
      simp [Obj.isCells] at hn
    · have := hc b hb; omega
def marks (ds : List Nat) : List Own := ds.map fun D => .ob D (.deferred (some []))
theorem marks_blk {ds : List Nat} {o : Own} (h : o ∈ marks ds) : ∃ D ∈ ds, o = .ob D (.deferred (some [])) := by
  obtain ⟨D, hD, rfl⟩ := List.mem_map.1 h
  exact ⟨D, hD, rfl⟩
theorem rr_turn {w0 W W' : World} {X : List Own} {ds : List Nat} {row : Option Nat} {B : Nat} (h : St w0 (X ++ marks ds) W) (hX : ∀ o ∈ X, o.cl) (hd : ∀ D ∈ ds, D < B) (hB : w0.heap.size ≤ B) (hg : W.grownBy W' row) (hr : ∀ r, row = some r → B ≤ r ∧ ∃ o : Obj, W.heap[r]? = some o ∧ o.isCells = false) : St w0 (X ++ marks ds) W' := by
  refine h.turn2 hB (fun o ho => ?_) hg hr
  rcases List.mem_append.1 ho with ho | ho
  · exact .inl (hX o ho)
  · obtain ⟨D, hD, rfl⟩ := marks_blk ho
    exact .inr fun b hb => by cases hb; exact hd D hD
theorem rr_adopt {w0 W : World} {X : List Own} {ds : List Nat} {l : Nat} {o : Obj} (h : St w0 (X ++ marks ds) W) (hX : ∀ p ∈ X, p.cl) (hd : ∀ D ∈ ds, D < l) (hl : w0.heap.size ≤ l) (hlo : W.heap[l]? = some o) (hn : o.isCells = false) : ∀ p ∈ X ++ marks ds, p.blk = none ∨ p.blk ≠ (Own.ob l o).blk := by
  intro p hp
  cases hb : p.blk with
  | none => exact .inl rfl
  | some b =>
    right; intro he
    rcases List.mem_append.1 hp with hp' | hp'
    · obtain ⟨c, t, f, hc2⟩ := Own.cl_blk (h.all p hp) (hX p hp') b hb
      cases he; rw [hlo] at hc2; cases hc2; simp [Obj.isCells] at hn
    · obtain ⟨D, hD, rfl⟩ := marks_blk hp'
      cases hb; cases he; have := hd _ hD; omega
theorem ret_int {R : Ending → World → Prop} {w : World} {q : IntKind} {z z' : Int} (h : R (.returned (.int q z)) w) (e : z = z') : R (.returned (.int q z')) w := e ▸ h
theorem ret_bool {R : Ending → World → Prop} {w : World} {z z' : Bool} (h : R (.returned (.bool z)) w) (e : z = z') : R (.returned (.bool z')) w := e ▸ h
/-- What a function that makes a value of its own returns. -/
def RetV (w : World) (r : AV) (R : Ending → World → Prop) : Prop := ∀ W, Below w.heap.size w W → R (.returned (vVal r)) W
theorem RetV.fin {w W : World} {r : AV} {R : Ending → World → Prop} {L : List Own} {b : Nat} {v0 v1 v2 : Value} (h : RetV w r R) (hS : St w L W) (i : Nat) (hi : L[i]? = some (.bx b 41 #[v0, v1, v2])) (e : vVal r = .agg #[v0, v1, v2]) : RetK Tryd.prog [.cell (.pointer (some ⟨b, 0, none⟩)) 41] R W :=
  RetK_agg hS i hi rfl (by rw [← e]; exact h W hS.below)
def ofT (t : Int) : AV := if t = 0 ∨ t = 1 then (1, t, ⟨#[]⟩) else (0, 0, ⟨#[]⟩)
theorem Of51 (t : Int) (w : World) (R : Ending → World → Prop) (h : RetV w (ofT t) R) : Calls Tryd.prog 20 #[.int .i64 t] w R := by
  refine c20 _ _ _ ?_
  unfold vc20
  refine kAlloc_st Tryd.zeroValue41 (St.start w) fun b W hS => kEq_int (kIf_eq (fun e1 => kIf_t ?_) (fun e1 => kEq_int (kIf_eq (fun e2 => ?_) (fun e2 => ?_))))
  · exact kBuild_i (built49n 1 t) (kStoreA_st hS 0 rfl rfl (by simp [Value.oneCell']) Tryd.sizeOf41 fun W hS => h.fin hS 0 rfl (by simp [ofT, e1, vVal]))
  · exact kBuild_i (built49n 1 t) (kStoreA_st hS 0 rfl rfl (by simp [Value.oneCell']) Tryd.sizeOf41 fun W hS => h.fin hS 0 rfl (by simp [ofT, e2, vVal]))
  · exact kBuild_i built49_0 (kStoreA_st hS 0 rfl rfl (by simp [Value.oneCell']) Tryd.sizeOf41 fun W hS => h.fin hS 0 rfl (by simp [ofT, e1, e2, vVal]))
/-- What a function that makes a value of its own answers, or the error that it raises. -/
structure RetE (w : World) (v : AV) (e : Int) (R : Ending → World → Prop) : Prop where
  ok : e = 0 → RetV w v R
  bad : e ≠ 0 → ∀ W, Below w.heap.size w W → R (.panicked [pe e false]) W
def big (z : Int) : Prop := -9223372036854775808 ≤ z ∧ z ≤ 9223372036854775807
def iv (z : Int) : AV := (2, z, ⟨#[]⟩)
theorem RetE.int {w V : World} {R : Ending → World → Prop} {L : List Own} {v : AV} {e : Int} (h : RetE w v e R) (hS : St w L V) : RetE V v e R :=
  ⟨fun he W hB => h.ok he W (hS.bel hB).below, fun he W hB => h.bad he W (hS.bel hB).below⟩
theorem kNe_b4 {X : Chain → World → Prop} {q : Bool} {w : World} {k : Value → World → Prop} {ox oy : Operand} {x y : Bool} (h : k (.bool (x != y)) w) : kEq ⟨Tryd.prog, X, q⟩ w .neq 4 ox oy (.bool x) (.bool y) k := kNe_bool (c := ⟨Tryd.prog, X, q⟩) Tryd.underlying4 h
theorem ob_apart {w0 W : World} {L : List Own} (h : St w0 L W) (hcl : ∀ o ∈ L, o.cl) {l : Nat} {o : Obj} (hlo : W.heap[l]? = some o) (hn : o.isCells = false) : ∀ p ∈ L, p.blk = none ∨ p.blk ≠ (Own.ob l o).blk := by
  intro p hp
  cases hb : p.blk with
  | none => exact .inl rfl
  | some b =>
    right; intro he
    obtain ⟨c, t, f, hc2⟩ := Own.cl_blk (h.all p hp) (hcl p hp) b hb
    cases he; rw [hlo] at hc2; cases hc2; simp [Obj.isCells] at hn
abbrev lpD (l : Nat) (lo : Loop) (D : Nat) : List Own := [.ob l (.loop lo), .ob D (.deferred (some []))]
/-- A range over a function whose things are boxes and rows. -/
theorem kRange_cl {P : Program} {w0 w : World} {g : Value} {np : Nat} {round : Nat → Nat → List Value → World → (Exit → World → Prop) → Prop} {Kn Kr : Nat → World → Prop} {Kx : Nat → Nat → World → Prop} {Kp : Nat → Chain → World → Prop}
    (n : Nat) (xs : Nat → List Value) (A : Nat → List Own → Prop) (Z : Exit → List Own → Prop) (hs : w0.heap.size ≤ w.heap.size) (hA : ∀ i L, A i L → ∀ o ∈ L, o.cl) (hZ : ∀ ex L, Z ex L → ∀ o ∈ L, o.cl) (hlen : ∀ i, (xs i).length = np)
    (h0 : ∃ L, A 0 L ∧ St w0 L w)
    (hround : ∀ i l D lo W L, i < n → w0.heap.size ≤ l → w0.heap.size ≤ D → A i L → St w0 (L ++ lpD l lo D) W → round l D (xs i) W (fun ex W' => match ex with | .normal => ∃ L, A (i + 1) L ∧ St w0 L W' | ex => ∃ L, Z ex L ∧ St w0 L W'))
    (hiter : Iter P g n (fun i => (xs i).toArray) (fun i W => ∃ L, A i L ∧ St w0 L W) w)
    (hn : ∀ D W L, A n L → St w0 (L ++ [.ob D (.deferred (some []))]) W → Kn D W)
    (hr : ∀ D W L, Z .ret L → St w0 (L ++ [.ob D (.deferred (some []))]) W → Kr D W)
    (hx : ∀ id D W L, Z (.exit id) L → St w0 (L ++ [.ob D (.deferred (some []))]) W → Kx D id W)
    (hp : ∀ ch D W L, Z (.panic ch) L → St w0 (L ++ [.ob D (.deferred (some []))]) W → Kp D ch W) : kRange P none w g np round Kn Kr Kx Kp := by
  have ad : ∀ D (W : World) L, (∀ o ∈ L, o.cl) → w.heap.size ≤ D → W.heap[D]? = some (.deferred (some [])) → St w0 L W → St w0 (L ++ [.ob D (.deferred (some []))]) W := fun D W L hcl hD hdf hS =>
    hS.adopt ⟨Nat.le_trans hs hD, hdf⟩ (ob_apart hS hcl hdf rfl)
  refine ⟨.inl ⟨rfl, n, xs, fun i W => ∃ L, A i L ∧ St w0 L W, fun ex W => ∃ L, Z ex L ∧ St w0 L W, ?_, ?_, hlen, h0, ?_, hiter, ?_, ?_, ?_, ?_⟩⟩
  · rintro i _ V V' row ⟨L, ha, hV⟩ hg hrow
    exact ⟨L, ha, hV.turn (hA _ _ ha) hg (fun r hr => ⟨Nat.le_trans hs (hrow r hr).1, (hrow r hr).2⟩)⟩
  · rintro i _ V V' row ⟨L, ha, hV⟩ hg hrow
    exact ⟨L, ha, hV.turn (hZ _ _ ha) hg (fun r hr => ⟨Nat.le_trans hs (hrow r hr).1, (hrow r hr).2⟩)⟩
  · rintro i l D lo W hi hD hl hlD hlo hdf ⟨L, ha, hV⟩
    have hV2 := hV.adopt (o := .ob l (.loop lo)) ⟨Nat.le_trans hs hl, hlo⟩ (ob_apart hV (hA _ _ ha) hlo rfl)
    have hV3 := hV2.adopt (o := .ob D (.deferred (some []))) ⟨Nat.le_trans hs hD, hdf⟩ (fun p hp => by
      rcases List.mem_append.1 hp with hp | hp
      · exact ob_apart hV (hA _ _ ha) hdf rfl p hp
      · simp at hp; subst hp; right; intro he; cases he; exact hlD rfl)
    rw [List.append_assoc] at hV3
    exact hround i l D lo W L hi (Nat.le_trans hs hl) (Nat.le_trans hs hD) ha hV3
  · rintro D W hD hdf ⟨L, ha, hV⟩; exact hn D W L ha (ad D W L (hA _ _ ha) hD hdf hV)
  · rintro D W hD hdf ⟨L, ha, hV⟩; exact hr D W L ha (ad D W L (hZ _ _ ha) hD hdf hV)
  · rintro id D W hD hdf ⟨L, ha, hV⟩; exact hx id D W L ha (ad D W L (hZ _ _ ha) hD hdf hV)
  · rintro ch D W hD hdf ⟨L, ha, hV⟩; exact hp ch D W L ha (ad D W L (hZ _ _ ha) hD hdf hV)
/-- Between the assignment and the body: N is what the assignment has made. -/
theorem rndMid_cl {w0 W W1 : World} {L N : List Own} {l D : Nat} {lo : Loop} {f : Loop → World → Prop} (h0 : St w0 (L ++ lpD l lo D) W) (h : St w0 (L ++ lpD l lo D ++ N) W1) (hf : ∀ lo W, St w0 (L ++ lpD l lo D ++ N) W → f lo W) : rndMid l D W W1 f := by
  have i1 : (L ++ lpD l lo D)[L.length]? = some (.ob l (.loop lo)) := by simp
  have i2 : (L ++ lpD l lo D)[L.length + 1]? = some (.ob D (.deferred (some []))) := by simp
  have hl := (h.get _ (at_l i1)).2
  refine ⟨hl.trans (h0.get _ i1).2.symm, (h.get _ (at_l i2)).2.trans (h0.get _ i2).2.symm, fun lo2 => hf lo2 _ ?_⟩
  have hS3 := h.set (W' := W1.putObj l (.loop lo2)) L.length (o' := .ob l (.loop lo2)) (at_l i1) (grownBy_putObj' W1 l _) ⟨(h.get _ (at_l i1)).1, World.putObj_heap_same (Array.getElem?_eq_some_iff.1 hl).1⟩ (.inl rfl)
  have e : (L ++ lpD l lo D ++ N).set L.length (.ob l (.loop lo2)) = L ++ lpD l lo2 D ++ N := by
    rw [List.append_assoc, List.append_assoc, List.set_append_right _ _ (Nat.le_refl _), Nat.sub_self]; rfl
  rw [e] at hS3; exact hS3
theorem rndEnd_cl {w0 W W1 : World} {L L' N : List Own} {l D : Nat} {lo lo0 : Loop} {R : Exit → World → Prop} {ex : Exit} (h0 : St w0 (L ++ lpD l lo0 D) W) (h : St w0 (L' ++ lpD l lo D ++ N) W1) (hR : St w0 L' W1 → R ex W1) : rndEnd l D lo W R ex [] W1 := by
  have i0 : (L ++ lpD l lo0 D)[L.length + 1]? = some (.ob D (.deferred (some []))) := by simp
  have i1 : (L' ++ lpD l lo D)[L'.length]? = some (.ob l (.loop lo)) := by simp
  have i2 : (L' ++ lpD l lo D)[L'.length + 1]? = some (.ob D (.deferred (some []))) := by simp
  exact ⟨rfl, (h.get _ (at_l i1)).2, (h.get _ (at_l i2)).2.trans (h0.get _ i0).2.symm, hR h.init.init⟩
theorem Lv_m {P : Program} {rs : List RV} {R : Ending → World → Prop} {w0 W : World} {L : List Own} {D : Nat} (hS : St w0 (L ++ [.ob D (.deferred (some []))]) W) (h : ∀ W', St w0 L W' → RetK P rs R W') : Lv P rs R [markOf D] .returning W := by
  have hD := hS.get L.length at_r
  have hS3 := hS.set (W' := W.putObj D (.deferred none)) L.length (o' := .ob D (.deferred none)) at_r (grownBy_putObj' W D _) ⟨hD.1, World.putObj_heap_same (Array.getElem?_eq_some_iff.1 hD.2).1⟩ (.inl rfl)
  rw [set_r] at hS3
  exact ⟨hD.2, h _ hS3.init⟩
theorem Lv_mp {P : Program} {rs : List RV} {R : Ending → World → Prop} {w0 W : World} {L : List Own} {D : Nat} {ch : Chain} (hS : St w0 (L ++ [.ob D (.deferred (some []))]) W) (h : ∀ W', St w0 L W' → R (.panicked ch) W') : Lv P rs R [markOf D] (.panicking ch) W := by
  have hD := hS.get L.length at_r
  have hS3 := hS.set (W' := W.putObj D (.deferred none)) L.length (o' := .ob D (.deferred none)) at_r (grownBy_putObj' W D _) ⟨hD.1, World.putObj_heap_same (Array.getElem?_eq_some_iff.1 hD.2).1⟩ (.inl rfl)
  rw [set_r] at hS3
  exact ⟨hD.2, h _ hS3.init⟩
theorem kStoreAR {P : Program} {X : Chain → World → Prop} {w0 w : World} {L : List Own} {t' : TypeId} {k : World → Prop} {b : Nat} {t : TypeId} {cs cs' : Array Value} (hS : St w0 (L ++ [.bx b t cs]) w) (hsz : cs.size = cs'.size) (h1 : cs'.all (·.oneCell') = true) (hs : ∀ w, (sizeOf t').run P w = .ok cs'.size w)
    (h : ∀ W, St w0 (L ++ [.bx b t cs']) W → k W) : kStore ⟨P, X, false⟩ w t' (.pointer (some ⟨b, 0, none⟩)) (.agg cs') k := kStoreA_st hS L.length at_r hsz h1 hs (fun W hS => h W (by rwa [set_r] at hS))
theorem nan135 (x : Int) (w : World) (R : Ending → World → Prop) (h : R (.returned (.bool false)) w) : Calls Tryd.prog 92 #[.int .i64 x] w R := by
  refine c92 _ _ _ ?_
  unfold vc92
  exact kNe_int (ret_bool h (by simp))
theorem nan136 (x : Int) (w : World) (R : Ending → World → Prop) (h : R (.returned (.bool false)) w) : Calls Tryd.prog 93 #[.int .i64 x] w R := by
  refine c93 _ _ _ ?_
  unfold vc93
  exact kNe_int (ret_bool h (by simp))
theorem nan137 (x : ByteArray) (w : World) (R : Ending → World → Prop) (h : R (.returned (.bool false)) w) : Calls Tryd.prog 94 #[.string x] w R := by
  refine c94 _ _ _ ?_
  unfold vc94
  exact kNe_str (ret_bool h (by simp))
theorem Compare126 (x y : Int) (w : World) (R : Ending → World → Prop) (h : R (.returned (.int .i64 (ordN x y))) w) : Calls Tryd.prog 47 #[.int .i64 x, .int .i64 y] w R := by
  refine c47 _ _ _ _ ?_
  unfold vc47
  refine kCall_i (Tryd.call92 _ _) (nan135 _ _ _ (kCall_i (Tryd.call92 _ _) (nan135 _ _ _ ?_)))
  refine kIf_f (kIf_f (kBin_lss (kIf_d (fun e => ?_) (fun e => kBin_gtr (kIf_d (fun e2 => ?_) (fun e2 => ?_))))))
  all_goals exact ret_int h (by simp [ordN, *])
theorem Compare127 (x y : Int) (w : World) (R : Ending → World → Prop) (h : R (.returned (.int .i64 (ordN x y))) w) : Calls Tryd.prog 48 #[.int .i64 x, .int .i64 y] w R := by
  refine c48 _ _ _ _ ?_
  unfold vc48
  refine kCall_i (Tryd.call93 _ _) (nan136 _ _ _ (kCall_i (Tryd.call93 _ _) (nan136 _ _ _ ?_)))
  refine kIf_f (kIf_f (kBin_lss (kIf_d (fun e => ?_) (fun e => kBin_gtr (kIf_d (fun e2 => ?_) (fun e2 => ?_))))))
  all_goals exact ret_int h (by simp [ordN, *])
theorem Compare128 (x y : ByteArray) (w : World) (R : Ending → World → Prop) (h : R (.returned (.int .i64 (ordS x y))) w) : Calls Tryd.prog 49 #[.string x, .string y] w R := by
  refine c49 _ _ _ _ ?_
  unfold vc49
  refine kCall_i (Tryd.call94 _ _) (nan137 _ _ _ (kCall_i (Tryd.call94 _ _) (nan137 _ _ _ ?_)))
  refine kIf_f (kIf_f (kLss_str (kIf_b (fun e => ?_) (fun e => kGtr_str (kIf_b (fun e2 => ?_) (fun e2 => ?_))))))
  · exact ret_int h (by simp [ordS, e])
  · exact ret_int h (by unfold ordS; rw [if_neg (by simp; exact e), if_pos (by simpa using e2)])
  · exact ret_int h (by
      unfold ordS; rw [if_neg (by simp; exact e), if_neg (by
        intro hc
        simp only [Bool.not_eq_false', Bool.or_eq_true, decide_eq_true_eq] at e2
        exact hc e2)])
def firstNZ : List Int → Int
  | [] => 0
  | x :: l => if x ≠ 0 then x else firstNZ l
theorem firstNZ_drop (l : List Int) : ∀ i, (∀ x ∈ l.take i, x = 0) → firstNZ l = firstNZ (l.drop i) := by
  induction l with
  | nil => intro i _; simp
  | cons a l ih =>
    intro i h
    cases i with
    | zero => rfl
    | succ i =>
      have ha : a = 0 := h a (by simp)
      rw [List.drop_succ_cons, ← ih i (fun x hx => h x (by simp [hx]))]
      simp [firstNZ, ha]
theorem Or125 (l : List Int) (w : World) (lo : Option Addr) (lc : Nat) (hl : Sl w lo 1 (l.map vInt)) (hb : l.length ≤ 1000000) (R : Ending → World → Prop) (h : R (.returned (.int .i64 (firstNZ l))) w) : Calls Tryd.prog 46 #[.slice lo l.length lc] w R := by
  refine c46 _ _ _ _ _ ?_
  unfold vc46
  refine kLen23 ⟨⟨fun cs V => ∃ i : Nat, cs = [.int .i64 i] ∧ i ≤ l.length ∧ (∀ x ∈ l.take i, x = 0) ∧ V = w, fun cs _ => l.length - (match cs with | [.int _ i] => i.toNat | _ => 0), ⟨0, rfl, Nat.zero_le _, by simp, rfl⟩, ?_⟩⟩
  rintro cs ds V ⟨i, rfl, hile, hz, rfl⟩
  dsimp only [List.getD_cons_zero]
  refine kBin_lss (kIf_d (fun e => ?_) (fun e => ?_))
  · have hil : i < l.length := by omega
    obtain ⟨pb, po, rfl, hpb, hpr⟩ := hl.elem (i := i) (v := vInt l[i]) (by simp [hil])
    have hd := firstNZ_drop l i hz
    rw [List.drop_eq_getElem_cons hil] at hd
    refine kIa23 hil (kLdS rfl (hpr 0 (.int .i64 l[i]) rfl) (kNe_int (kIf_ne (fun e1 => ?_) (fun e1 => ?_))))
    · exact ret_int h (by rw [hd]; simp [firstNZ, e1])
    · refine kBin_add (kD_i ⟨⟨i + 1, by rw [wrap_id (by omega) (by omega)]; rfl, hil, ?_, rfl⟩, ?_⟩)
      · intro r hr
        rw [List.take_succ_eq_append_getElem hil] at hr
        rcases List.mem_append.1 hr with hr | hr
        · exact hz r hr
        · simp at hr; subst hr; exact e1
      · rw [wrap_id (by omega) (by omega)]; show l.length - ((i : Int) + 1).toNat < l.length - (i : Int).toNat; omega
  · have : i = l.length := by omega
    subst this
    exact ret_int h (by rw [firstNZ_drop l _ hz]; simp [firstNZ])
theorem Order98 (a b : AV) (w : World) (R : Ending → World → Prop) (h : ∀ W, Below w.heap.size w W → R (.returned (.int .i64 (ordV a b))) W) : Calls Tryd.prog 28 #[vVal a, vVal b] w R := by
  refine c28 _ _ _ _ _ _ _ _ ?_
  unfold vc28
  refine kBox_st (St.start w) fun b1 W hS => kBox_st hS fun b2 W hS => ?_
  have hS : St w [.bx b1 41 (vVal a).cells, .bx b2 41 (vVal b).cells] W := hS
  refine kDrawn_i (kDrawn_i (kFa49 0 (by omega) (kLd hS 0 rfl rfl rfl (kFa49 0 (by omega) (kLd hS 1 rfl rfl rfl (kFa49 1 (by omega) (kLd hS 0 rfl rfl rfl (kFa49 1 (by omega) (kLd hS 1 rfl rfl rfl (kFa49 2 (by omega) (kLd hS 0 rfl rfl rfl (kFa49 2 (by omega) (kLd hS 1 rfl rfl rfl (kDrew_st hS fun W hS => ?_))))))))))))))
  refine kCall_i (Tryd.call47 _ _) (Compare126 _ _ _ _ ?_)
  refine kFa49 1 (by omega) (kSame_i (kLd hS 0 rfl rfl rfl (kSame_i (kFa49 1 (by omega) (kSame_i (kLd hS 1 rfl rfl rfl (kSame_i (kFa49 2 (by omega) (kSame_i (kLd hS 0 rfl rfl rfl (kSame_i (kFa49 2 (by omega) (kSame_i (kLd hS 1 rfl rfl rfl (kSame_i (kDrew_st hS fun W hS => ?_))))))))))))))))
  refine kCall_i (Tryd.call48 _ _) (Compare127 _ _ _ _ ?_)
  refine kFa49 2 (by omega) (kSame_i (kLd hS 0 rfl rfl rfl (kSame_i (kFa49 2 (by omega) (kSame_i (kLd hS 1 rfl rfl rfl (kSame_i (kDrew_st hS fun W hS => ?_))))))))
  refine kCall_i (Tryd.call49 _ _) (Compare128 _ _ _ _ (kDrew_st hS fun W hS => ?_))
  refine kBS (E23 W) hS [vInt (ordN a.1 b.1), vInt (ordN a.2.1 b.2.1), vInt (ordS a.2.2 b.2.2)] rfl rfl (by omega) (by omega) (by simp [vInt, Value.cells]) fun x cp W hS hl => ⟨fun m => ?_⟩
  have hl2 := hl.drewN m
  have hS2 := hS.drewN m
  generalize W.drewN m = W2 at hl2 hS2 ⊢
  refine kCall_i (Tryd.call46 _ _) (Or125 [ordN a.1 b.1, ordN a.2.1 b.2.1, ordS a.2.2 b.2.2] W2 x cp hl2 (by simp) _ (kDrew_st hS2 fun W hS => ?_))
  have := h W hS.below
  have e : firstNZ [ordN a.1 b.1, ordN a.2.1 b.2.1, ordS a.2.2 b.2.2] = ordV a b := by
    simp only [firstNZ, ordV]
    by_cases h1 : ordN a.1 b.1 ≠ 0 <;> by_cases h2 : ordN a.2.1 b.2.1 ≠ 0 <;> by_cases h3 : ordS a.2.2 b.2.2 ≠ 0 <;> simp_all
  rw [e]; exact this
theorem kIx_i {c : Cx} {w : World} {t : TypeId} {x i v : Value} {k : Value → World → Prop} (hr : ∀ w, (Instr.index t x i).run c.P w = .ok v w) (h : k v w) : kIx c w t x i k := ⟨kVal_pure hr h⟩
theorem m_pos (x y N : Nat) (hy : 0 < y) : ((x : Int) > ((N / y : Nat) : Int)) ↔ N < x * y := by
  rw [← Nat.div_lt_iff_lt_mul hy]; omega
theorem m1 {x y : Nat} (hx : 0 < x) (hy : 0 < y) : (x : Int) > Int.tdiv 9223372036854775807 y ↔ ¬ big ((x : Int) * y) := by
  have e : Int.tdiv 9223372036854775807 (y : Int) = ((9223372036854775807 / y : Nat) : Int) := rfl
  rw [e, m_pos x y _ hy, ← Int.natCast_mul]; unfold big; omega
theorem m2 {x y : Nat} (hx : 0 < x) (hy : 0 < y) : -(x : Int) < Int.tdiv 9223372036854775807 (-(y : Int)) ↔ ¬ big (-(x : Int) * -(y : Int)) := by
  have e : Int.tdiv 9223372036854775807 (y : Int) = ((9223372036854775807 / y : Nat) : Int) := rfl
  have k := m_pos x y 9223372036854775807 hy
  rw [Int.tdiv_neg, e, Int.neg_mul_neg, ← Int.natCast_mul]; unfold big; omega
theorem m3 {x y : Nat} (hx : 0 < x) (hy : 0 < y) : -(y : Int) < Int.tdiv (-9223372036854775808) x ↔ ¬ big ((x : Int) * -(y : Int)) := by
  have e : Int.tdiv (-9223372036854775808) (x : Int) = -((9223372036854775808 / x : Nat) : Int) := by
    rw [show (-9223372036854775808 : Int) = -(9223372036854775808 : Int) from rfl, Int.neg_tdiv]; rfl
  have k := m_pos y x 9223372036854775808 hx
  rw [Nat.mul_comm] at k
  rw [e, Int.mul_neg, ← Int.natCast_mul]; unfold big; omega
abbrev z0 : AV := (0, 0, ⟨#[]⟩)
theorem kAppInt {X : Chain → World → Prop} {w w0 : World} {L : List Own} {t e : TypeId} (E : Elt Tryd.prog t e 1 8) {x : Value} {xs : List Int} {ty : TypeId} {cs : Array Bool} {k : Value → World → Prop} {z : Int} (hS : St w0 (L ++ [.row x e 1 xs.length (xs.map vInt)]) w) (hm : xs.length ≤ 1000000)
    (h : ∀ x' W, St w0 (L ++ [.row x' e 1 (xs ++ [z]).length ((xs ++ [z]).map vInt)]) W → k x' W) : kBuildS ⟨Tryd.prog, X, false⟩ w t 1 #[(0, .int .i64 z)] fun v W => kBlt ⟨Tryd.prog, X, false⟩ W .append #[t, t] ty cs #[x, v] k := by
  refine kBuildS_st E hS [vInt z] rfl rfl (by omega) (by omega) (by simp [vInt, Value.cells]) fun y W hS => ?_
  have i0 : ((L ++ [.row x e 1 xs.length (xs.map vInt)]) ++ [.row y e 1 1 (flat [vInt z])])[L.length]? = some (.row x e 1 xs.length (xs.map vInt)) := at_l at_r
  have i1 : ((L ++ [.row x e 1 xs.length (xs.map vInt)]) ++ [.row y e 1 1 (flat [vInt z])])[(L ++ [Own.row x e 1 xs.length (xs.map vInt)]).length]? = some (.row y e 1 1 (flat [vInt z])) := at_r
  refine kAppRow_st E (m := 1) (ys := flat [vInt z]) hS L.length _ i0 i1 (by simp [flat, vInt, Value.cells, Value.oneCell']) (by simp only [maxLen]; omega) (by omega) fun x' W hS => h x' W ?_
  rw [set_l _ at_r, set_r] at hS
  have hS := hS.init
  have e1 : (xs ++ [z]).map vInt = xs.map vInt ++ flat [vInt z] := by simp [flat, vInt, Value.cells]
  rw [e1, List.length_append]; exact hS
/-- The rows of l, where they lie. -/
structure At22 (V : World) (pb po : Nat) (l : List AV) : Prop where
  at_ : ∀ i (hi : i < l.length), V.rangeAt pb (po + i * 3) (vVal l[i]).cells.toList
theorem kAdd_str {c : Cx} {w : World} {t : TypeId} {a b : ByteArray} {k : Value → World → Prop} (hn : a.size + b.size ≤ 1000000) (h : k (.string (a ++ b)) w) : kBin c w .add t (.string a) (.string b) k := ⟨kVal_pure (fun _ => by
  rw [binOp_string_add]; unfold Op.stringOp
  have : ¬ (((a.size + b.size : Nat) : Int) > IntKind.i64.max) := by
    rw [show IntKind.i64.max = 9223372036854775807 from rfl]; omega
  simp only [if_neg this]; rfl) h⟩
theorem flatI (xs : List Int) : (xs.map vInt).flatMap (·.cells.toList) = xs.map vInt := by
  induction xs with
  | nil => rfl
  | cons a l ih => rw [List.map_cons, List.flatMap_cons, ih]; rfl
theorem RetK_aggc {R : Ending → World → Prop} {w w0 : World} {L : List Own} (hS : St w0 L w) (i j : Nat) {b b5 : Nat} {cs : Array Value} {v : Value} (hi : L[i]? = some (.bx b 41 cs)) (hn : cs.size = 3) (hj : L[j]? = some (.bx b5 26 #[v])) (h : R (.returned (.tuple #[.agg cs, v])) w) : RetK Tryd.prog [.cell (.pointer (some ⟨b, 0, none⟩)) 41, .cell (.pointer (some ⟨b5, 0, none⟩)) 26] R w := by
  refine ⟨.tuple #[.agg cs, v], ?_, h⟩
  have := run_loadVar_row (P := Tryd.prog) w b 41 41 cs (0, 0) _ (hS.get i hi).2 Tryd.underlying41 rfl (by rw [info_of (Tryd.typeInfo41 w), hn]; rfl)
  have hc := hS.cell j hj 0 rfl
  have h28 : (loadVar 26 ⟨b5, 0, none⟩).run Tryd.prog w = .ok v w := by simp [loadVar, scal_agg (t := 26) rfl, hc]
  simp [resSem, asAddr, this, h28]
theorem of27 (n : Int) (w : World) (R : Ending → World → Prop) (h : RetV w (iv n) R) : Calls Tryd.prog 21 #[.int .i64 n] w R := by
  refine c21 _ _ _ ?_
  unfold vc21
  exact kAlloc_st Tryd.zeroValue41 (St.start w) fun b W hS => kBuild_i (built49n 2 n) (kStoreA_st hS 0 rfl rfl (by simp [Value.oneCell']) Tryd.sizeOf41 fun W hS => h.fin hS 0 rfl rfl)
theorem num25 (n : Int) (w : World) (R : Ending → World → Prop) (h : R (.returned (.int .i64 n)) w) : Calls Tryd.prog 10 #[.int .i64 n] w R := by
  refine c10 _ _ _ ?_
  unfold vc10
  exact h
/-- A range over a function, behind others whose marks are left. -/
theorem kRange_mk {P : Program} {w0 w : World} {g : Value} {np : Nat} {round : Nat → Nat → List Value → World → (Exit → World → Prop) → Prop} {Kn Kr : Nat → World → Prop} {Kx : Nat → Nat → World → Prop} {Kp : Nat → Chain → World → Prop} {ds : List Nat}
    (n : Nat) (xs : Nat → List Value) (A : Nat → List Own → Prop) (Z : Exit → List Own → Prop) (hs : w0.heap.size ≤ w.heap.size) (hnd : ds.Nodup) (hdlt : ∀ D ∈ ds, D < w.heap.size)
    (hA : ∀ i L, A i L → ∀ o ∈ L, o.cl) (hZ : ∀ ex L, Z ex L → ∀ o ∈ L, o.cl) (hlen : ∀ i, (xs i).length = np)
    (h0 : ∃ L, A 0 L ∧ St w0 (L ++ marks ds) w)
    (hround : ∀ i l D lo W L, i < n → w0.heap.size ≤ l → w0.heap.size ≤ D → A i L → St w0 (L ++ marks ds ++ lpD l lo D) W → round l D (xs i) W (fun ex W' => match ex with | .normal => ∃ L, A (i + 1) L ∧ St w0 (L ++ marks ds) W' | ex => ∃ L, Z ex L ∧ St w0 (L ++ marks ds) W'))
    (hiter : Iter P g n (fun i => (xs i).toArray) (fun i W => ∃ L, A i L ∧ St w0 (L ++ marks ds) W) w)
    (hn : ∀ D W L, A n L → (D :: ds).Nodup → w0.heap.size ≤ D → St w0 (L ++ marks (D :: ds)) W → Kn D W)
    (hr : ∀ D W L, Z .ret L → (D :: ds).Nodup → w0.heap.size ≤ D → St w0 (L ++ marks (D :: ds)) W → Kr D W)
    (hx : ∀ id D W L, Z (.exit id) L → (D :: ds).Nodup → w0.heap.size ≤ D → St w0 (L ++ marks (D :: ds)) W → Kx D id W)
    (hp : ∀ ch D W L, Z (.panic ch) L → (D :: ds).Nodup → w0.heap.size ≤ D → St w0 (L ++ marks (D :: ds)) W → Kp D ch W) : kRange P none w g np round Kn Kr Kx Kp := by
  have more : ∀ D (W : World) L, (∀ o ∈ L, o.cl) → w.heap.size ≤ D → W.heap[D]? = some (.deferred (some [])) → St w0 (L ++ marks ds) W → (D :: ds).Nodup ∧ w0.heap.size ≤ D ∧ St w0 (L ++ marks (D :: ds)) W := by
    intro D W L hcl hD hdf hS
    have hlt : ∀ D' ∈ ds, D' < D := fun D' h' => Nat.lt_of_lt_of_le (hdlt D' h') hD
    refine ⟨List.nodup_cons.2 ⟨fun hm => Nat.lt_irrefl _ (hlt D hm), hnd⟩, Nat.le_trans hs hD, ?_⟩
    have := (hS.adopt (o := .ob D (.deferred (some []))) ⟨Nat.le_trans hs hD, hdf⟩ (rr_adopt hS hcl hlt (Nat.le_trans hs hD) hdf rfl)).ins L.length
    have e1 : (L ++ marks ds).take L.length = L := by simp
    have e2 : (L ++ marks ds).drop L.length = marks ds := by simp
    rw [e1, e2] at this
    exact this
  refine ⟨.inl ⟨rfl, n, xs, fun i W => ∃ L, A i L ∧ St w0 (L ++ marks ds) W, fun ex W => ∃ L, Z ex L ∧ St w0 (L ++ marks ds) W, ?_, ?_, hlen, h0, ?_, hiter, ?_, ?_, ?_, ?_⟩⟩
  · rintro i _ V V' row ⟨L, ha, hV⟩ hg hrow
    exact ⟨L, ha, rr_turn hV (hA _ _ ha) hdlt hs hg hrow⟩
  · rintro i _ V V' row ⟨L, ha, hV⟩ hg hrow
    exact ⟨L, ha, rr_turn hV (hZ _ _ ha) hdlt hs hg hrow⟩
  · rintro i l D lo W hi hD hl hlD hlo hdf ⟨L, ha, hV⟩
    have hltl : ∀ D' ∈ ds, D' < l := fun D' h' => Nat.lt_of_lt_of_le (hdlt D' h') hl
    have hltD : ∀ D' ∈ ds, D' < D := fun D' h' => Nat.lt_of_lt_of_le (hdlt D' h') hD
    have hV2 := hV.adopt (o := .ob l (.loop lo)) ⟨Nat.le_trans hs hl, hlo⟩ (rr_adopt hV (hA _ _ ha) hltl (Nat.le_trans hs hl) hlo rfl)
    have hV3 := hV2.adopt (o := .ob D (.deferred (some []))) ⟨Nat.le_trans hs hD, hdf⟩ (fun p hp => by
      rcases List.mem_append.1 hp with hp | hp
      · exact rr_adopt hV (hA _ _ ha) hltD (Nat.le_trans hs hD) hdf rfl p hp
      · simp at hp; subst hp; right; intro he; cases he; exact hlD rfl)
    have e : (L ++ marks ds ++ [Own.ob l (.loop lo)] ++ [Own.ob D (.deferred (some []))]) = L ++ marks ds ++ lpD l lo D := by simp
    rw [e] at hV3
    exact hround i l D lo W L hi (Nat.le_trans hs hl) (Nat.le_trans hs hD) ha hV3
  · rintro D W hD hdf ⟨L, ha, hV⟩; obtain ⟨m1, m2, m3⟩ := more D W L (hA _ _ ha) hD hdf hV; exact hn D W L ha m1 m2 m3
  · rintro D W hD hdf ⟨L, ha, hV⟩; obtain ⟨m1, m2, m3⟩ := more D W L (hZ _ _ ha) hD hdf hV; exact hr D W L ha m1 m2 m3
  · rintro id D W hD hdf ⟨L, ha, hV⟩; obtain ⟨m1, m2, m3⟩ := more D W L (hZ _ _ ha) hD hdf hV; exact hx id D W L ha m1 m2 m3
  · rintro ch D W hD hdf ⟨L, ha, hV⟩; obtain ⟨m1, m2, m3⟩ := more D W L (hZ _ _ ha) hD hdf hV; exact hp ch D W L ha m1 m2 m3
/-- All marks are taken back. -/
theorem Lv_mks {rs : List RV} {R : Ending → World → Prop} {u : FrameMode} (hu : u ≠ .run) {w0 W : World} {X : List Own} {ds : List Nat} {b4 : Nat} {t4 : TypeId} {c4 : Array Value} (hnd : ds.Nodup) (hS : St w0 (X ++ marks ds) W) (i : Nat) (hi : X[i]? = some (.bx b4 t4 c4))
    (h : ∀ V, Below w0.heap.size w0 V → V.heap[b4]? = some (.cells c4 t4 (0, 0)) → RetK Tryd.prog rs R V) (hu' : u = .returning) : Lv Tryd.prog rs R (ds.map markOf) u W := by
  subst hu'
  have h4 := hS.get i (at_l hi)
  refine Lv_marks (by simp) ds W hnd (fun D hD => ?_) hS.below h4.2 (fun V hB h4 => h V hB h4)
  have := hS.all (.ob D (.deferred (some []))) (List.mem_append_right _ (List.mem_map.2 ⟨D, hD, rfl⟩))
  exact ⟨this.1, this.2⟩
end Go.L
namespace Go.L
open Go Go.RowKit Go.Proofs
set_option linter.unusedSimpArgs false
set_option linter.unusedVariables false

/-- One thing more. -/
theorem kApp1_st {P : Program} {X : Chain → World → Prop} {w w0 : World} {t e : TypeId} {sz by_ : Nat} (E : Elt P t e sz by_) {L : List Own} (hS : St w0 L w) (i : Nat) {n : Nat} {x v : Value} {xs : List Value} (hi : L[i]? = some (.row x e sz n xs)) {cs : Array Bool} {ty : TypeId} {k : Value → World → Prop}
    (hv : v.cells.size = sz) (h1 : ∀ u ∈ v.cells.toList, u.oneCell' = true) (hmax : n + 1 ≤ maxLen) (hby : (n + 1) * by_ ≤ 140737488355328) (h : ∀ x' W, St w0 (L.set i (.row x' e sz (n + 1) (xs ++ v.cells.toList))) W → k x' W) :
    kBuildS ⟨P, X, false⟩ w t 1 #[(0, v)] fun y W => kBlt ⟨P, X, false⟩ W .append #[t, t] ty cs #[x, y] k := by
  refine kBuildS_st E hS [v] rfl rfl (by omega) (by omega) (by simp [hv]) fun y W hS => ?_
  have e1 : flat [v] = v.cells.toList := by simp [flat]
  rw [e1] at hS
  refine kAppRow_st E hS i L.length (at_l hi) at_r h1 hmax hby fun x' W hS => h x' W ?_
  rw [set_l _ hi] at hS
  exact hS.init
theorem byN_bl (s : ByteArray) : byN s = bl s := by unfold byN bl; rw [ByteArray.toList_eq]
theorem txtN_mkS (l : List Nat) : txtN l = mkS l := rfl

/-! ### The order of two lists -/
theorem ordL_at {a b : List AV} {i : Nat} (ha : i < a.length) (hb : i < b.length) : ordL (a.drop i) (b.drop i) = if ordV a[i] b[i] ≠ 0 then ordV a[i] b[i] else ordL (a.drop (i + 1)) (b.drop (i + 1)) := by
  rw [List.drop_eq_getElem_cons ha, List.drop_eq_getElem_cons hb]; rfl
theorem cmpF45 (a b : List AV) (w : World) (ao bo : Option Addr) (ac bc : Nat) (ha : Sl w ao 3 (a.map vVal)) (hb : Sl w bo 3 (b.map vVal)) (hal : a.length ≤ 1000000) (hbl : b.length ≤ 1000000) (R : Ending → World → Prop)
    (h : ∀ W, Below w.heap.size w W → R (.returned (.int .i64 (ordL a b))) W) : Calls Tryd.prog 45 #[.slice ao a.length ac, .slice bo b.length bc, .func (.func 28) #[] #[]] w R := by
  refine c45 _ _ _ _ _ _ _ _ _ ?_
  unfold vc45
  refine xLen22 ?_
  refine ⟨⟨fun cs V => ∃ i : Nat, cs = [.int .i64 i] ∧ i ≤ a.length ∧ i ≤ b.length ∧ ordL a b = ordL (a.drop i) (b.drop i) ∧ Below w.heap.size w V, fun cs _ => a.length - (match cs with | [.int _ i] => i.toNat | _ => 0), ⟨0, rfl, Nat.zero_le _, Nat.zero_le _, rfl, Below.refl _ _⟩, ?_⟩⟩
  rintro cs ds V ⟨i, rfl, hia, hib, heq, hB⟩
  dsimp only [List.getD_cons_zero]
  refine kBin_lss (kIf_d (fun e => ?_) (fun e => ?_))
  · have hil : i < a.length := by omega
    obtain ⟨pb, po, rfl, hpb, hpr⟩ := (ha.below hB).elem (i := i) (v := vVal a[i]) (by simp [hil])
    have hS : St w [] V := ⟨hB, by simp, by simp⟩
    refine xIa22 hil (kLd49 hpr (kAlloc_st Tryd.zeroValue41 hS fun b8 W hS => kStoreAR hS rfl (by simp [Value.oneCell']) Tryd.sizeOf41 fun W hS => xLen22 (kBin_geq (kIf_d (fun e2 => ?_) (fun e2 => ?_)))))
    · have hibe : i = b.length := by omega
      have := h W hS.below
      rw [heq, List.drop_eq_nil_of_le (show b.length ≤ i by omega), List.drop_eq_getElem_cons hil] at this
      exact this
    · have hil2 : i < b.length := by omega
      obtain ⟨pb2, po2, rfl, hpb2, hpr2⟩ := (hb.below hS.below).elem (i := i) (v := vVal b[i]) (by simp [hil2])
      refine xIa22 hil2 (kLd49 hpr2 (kAlloc_st Tryd.zeroValue41 hS fun b9 W hS => kStoreAR hS rfl (by simp [Value.oneCell']) Tryd.sizeOf41 fun W hS => ?_))
      have hS : St w [.bx b8 41 (vVal a[i]).cells, .bx b9 41 (vVal b[i]).cells] W := hS
      refine xLdB41 hS 0 rfl rfl (xLdB41 hS 1 rfl rfl (kCallV_i (Tryd.call28 _ _) (Order98 a[i] b[i] _ _ fun W hB2 => ?_)))
      have hS := hS.bel hB2
      rw [ordL_at hil hil2] at heq
      refine kNe_int (kIf_ne (fun e3 => ?_) (fun e3 => ?_))
      · have := h W hS.below
        rw [heq, if_pos e3] at this; exact this
      · rw [if_neg (by omega)] at heq
        refine kBin_add (kD_i ⟨⟨i + 1, by rw [wrap_id (by omega) (by omega)]; rfl, hil, hil2, heq, hS.below⟩, ?_⟩)
        rw [wrap_id (by omega) (by omega)]; show a.length - ((i : Int) + 1).toNat < a.length - (i : Int).toNat; omega
  · have hie : i = a.length := by omega
    have hd : a.drop i = [] := by rw [hie, List.drop_length]
    rw [hd] at heq
    refine xLen22 (xLen22 (kBin_lss (kIf_d (fun e2 => ?_) (fun e2 => ?_))))
    · have := h V hB
      rw [heq, List.drop_eq_getElem_cons (show i < b.length by omega)] at this
      exact this
    · have := h V hB
      rw [heq, List.drop_eq_nil_of_le (show b.length ≤ i by omega)] at this
      exact this
theorem kOrder12 (a b : List AV) (w : World) (ao bo : Option Addr) (ac bc : Nat) (ha : Sl w ao 3 (a.map vVal)) (hb : Sl w bo 3 (b.map vVal)) (hal : a.length ≤ 1000000) (hbl : b.length ≤ 1000000) (R : Ending → World → Prop)
    (h : ∀ W, Below w.heap.size w W → R (.returned (.int .i64 (ordL a b))) W) : Calls Tryd.prog 12 #[.slice ao a.length ac, .slice bo b.length bc] w R := by
  refine c12 _ _ _ _ _ _ _ _ ?_
  unfold vc12
  refine kCall_i (Tryd.call27 _ _) ?_
  refine c27 _ _ _ _ _ _ _ _ _ ?_
  unfold vc27
  exact kCall_i (Tryd.call45 _ _) (cmpF45 a b w ao bo ac bc ha hb hal hbl _ h)

/-! ### Reading -/
theorem take50b {w0 W : World} {L : List Own} (hS : St w0 L W) (i : Nat) {b : Nat} {t : TypeId} {a : Option Addr} {n cp : Nat} (hi : L[i]? = some (.bx b t #[.slice a n cp])) (hcap : n ≤ cp) (l : Nat) (hn : cp ≤ 9223372036854775807) (R : Ending → World → Prop)
    (h0 : l ≤ n → ∀ a' cp' a2 W', cp' ≤ cp → n - l ≤ cp' → (∀ V bs, Bs V a n cp bs → Bs V a' (n - l) cp' (bs.drop l)) → (∀ V bs, Bs V a n cp bs → Bs V a2 l l (bs.take l)) → St w0 (L.set i (.bx b t #[.slice a' (n - l) cp'])) W' → R (.returned (.slice a2 l l)) W')
    (h1 : n < l → R (.panicked [pe 200 false]) W) : Calls Tryd.prog 50 #[.pointer (some ⟨b, 0, none⟩), .int .i64 l] W R := by
  refine c50 _ _ _ _ ?_
  unfold vc50
  refine kNil_p (xFa62_0 (kLd hS i hi rfl rfl (xLen25 (kBin_geq (kCall_i (Tryd.call31 _ _) (must44 _ _ _ _ (fun hok => ?_) (fun hbad => ?_)))))))
  · have hl : l ≤ n := by simp at hok; omega
    refine kNil_p (xFa62_0 (kLd hS i hi rfl rfl (xSl25_hm (by omega) (kNil_p (xFa62_0 (kLd hS i hi rfl rfl (xSl25_l hl (by omega) (kNil_p (xFa62_0 (kSt hS i hi (by simp) rfl rfl rfl fun W' hS' => ?_))))))))))
    exact h0 hl _ _ _ W' (by omega) (by omega) (fun V bs hB => hB.drop hl) (fun V bs hB => hB.take hl (Nat.le_refl _)) hS'
  · exact h1 (by simp at hbad; omega)
theorem readT_app {acc bs' bs : List Nat} {k : Nat} (h : readT bs = (readT bs').map (fun p => (acc ++ p.1, k + p.2))) : (∀ t m, readT bs' = some (t, m) → readT bs = some (acc ++ t, k + m)) ∧ (readT bs' = none → readT bs = none) :=
  ⟨fun t m q => by rw [h, q]; rfl, fun q => by rw [h, q]; rfl⟩
end Go.L
