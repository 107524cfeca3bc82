/- Rules for single operations, and how a law is lifted: no condition. -/
import Derived.Test.YtnmefofmegfliaaGreatDoorA1
import Derived.Deep.MidRow
import Derived.Deep.AppendLies
import Derived.Laws.Build
import Derived.Laws.Slices
import Derived.Great.BuildSlice
import Derived.Below
import Derived.Laws.Tables
import Derived.Lib.AppendStr
import Derived.Lib.LazyBuf
import Derived.Laws.Entries
import Derived.ProofKit
import Derived.OpenShut
import Derived.Carry
import Derived.ChangeArms
import Derived.Shelf.Vars
import Derived.LaidMore
import Derived.Lay
import Derived.Handed
set_option linter.unusedVariables false
set_option linter.unusedSimpArgs false
set_option linter.unusedSectionVars false
namespace Go.L
open Go Go.RowKit

theorem drewN_zero' (w : World) : w.drewN 0 = w := rfl

theorem kSem_pure {c : Cx} {w : World} {s : Sem Next} {v : Value} {k : Value → World → Prop} (h : ∀ w', s.run c.P w' = .ok (.value v) w') (hk : k v w) : kSem c w s k := by
  obtain ⟨P, X, q⟩ := c
  cases q with
  | false => show kNext _ _ _; rw [h]; exact hk
  | true => exact ⟨v, fun n => by rw [h]; exact ⟨rfl, rfl⟩, hk⟩
theorem kVal_pure {c : Cx} {w : World} {s : Sem Value} {v : Value} {k : Value → World → Prop} (h : ∀ w', s.run c.P w' = .ok v w') (hk : k v w) : kVal c w s k :=
  kSem_pure (v := v) (fun w' => by simp only [Sem.run_bind, h, Result.andThen_ok, Sem.run_pure]) hk
/-- An operation that looks at the world but leaves it: in every world that is 'w' behind some draws it must yield the same. -/
theorem kVal_look {c : Cx} {w : World} {s : Sem Value} {v : Value} {k : Value → World → Prop} (h : ∀ n, s.run c.P (w.drewN n) = .ok v (w.drewN n)) (hk : k v w) : kVal c w s k := by
  obtain ⟨P, X, q⟩ := c
  cases q with
  | false =>
    show kNext _ _ _
    have := h 0
    rw [drewN_zero'] at this
    simp only [Sem.run_bind, this, Result.andThen_ok, Sem.run_pure]; exact hk
  | true => exact ⟨v, fun n => by simp only [Sem.run_bind, h, Result.andThen_ok, Sem.run_pure]; exact ⟨rfl, rfl⟩, hk⟩
/-- An operation that changes the world (no draw around it). -/
theorem kVal_do {P : Program} {X : Chain → World → Prop} {w w' : World} {s : Sem Value} {v : Value} {k : Value → World → Prop} (h : s.run P w = .ok v w') (hk : k v w') : kVal ⟨P, X, false⟩ w s k := by
  show kNext _ _ _
  simp only [Sem.run_bind, h, Result.andThen_ok, Sem.run_pure]; exact hk
theorem kUnit_do {P : Program} {X : Chain → World → Prop} {w w' : World} {s : Sem Unit} {k : World → Prop} (h : s.run P w = .ok () w') (hk : k w') : kUnit ⟨P, X, false⟩ w s k := by
  show kNext _ _ _
  simp only [Sem.run_bind, h, Result.andThen_ok, Sem.run_pure]; exact hk

/-! ### Ways -/
theorem kIf_t {A B : Prop} (h : A) : kIf (.bool true) A B := ⟨h⟩
theorem kIf_f {A B : Prop} (h : B) : kIf (.bool false) A B := ⟨h⟩
theorem kIf_b {b : Bool} {A B : Prop} (h1 : b = true → A) (h2 : b = false → B) : kIf (.bool b) A B := by
  cases b
  · exact ⟨h2 rfl⟩
  · exact ⟨h1 rfl⟩
theorem kIf_d {p : Prop} [Decidable p] {A B : Prop} (h1 : p → A) (h2 : ¬ p → B) : kIf (.bool (decide p)) A B :=
  kIf_b (fun h => h1 (by simpa using h)) (fun h => h2 (by simpa using h))
theorem kD_i {d : List Deferred} {A : Prop} (h : A) : kD d d A := ⟨rfl, h⟩
theorem kJn_i {f : (List Value → World → Prop) → Prop} {a : List Value → World → Prop} (h : f a) : kJn f a := ⟨h⟩
theorem kExt_i {vs : Array Value} {i : Nat} {k : Value → Prop} {v : Value} (hv : vs[i]? = some v) (h : k v) : kExt (.tuple vs) i k := ⟨by unfold kExtD; simp only [hv]; exact h⟩
theorem kExt_0 {a b : Value} {k : Value → Prop} (h : k a) : kExt (.tuple #[a, b]) 0 k := kExt_i rfl h
theorem kExt_1 {a b : Value} {k : Value → Prop} (h : k b) : kExt (.tuple #[a, b]) 1 k := kExt_i rfl h

theorem elem_of {P : Program} {t e : TypeId} (hu : P.underlying t = some (.slice e)) : P.underlying t = some (.slice (P.elem t)) := by
  rw [show P.elem t = e by simp [Program.elem, hu]]; exact hu
/-! ### Pure operations -/
section
variable {c : Cx} {w : World} {k : Value → World → Prop} {t ty : TypeId} {q : IntKind} {a b : Int}
theorem kUn_not {x : Bool} (h : k (.bool !x) w) : kUn c w .not (.bool x) k := ⟨kVal_pure (fun _ => by simp [Op.unary]) h⟩
theorem kBin_lss (h : k (.bool (decide (a < b))) w) : kBin c w .lss t (.int q a) (.int q b) k := ⟨kVal_pure (fun _ => by rw [binOp_lss]; rfl) h⟩
theorem kBin_leq (h : k (.bool (decide (a ≤ b))) w) : kBin c w .leq t (.int q a) (.int q b) k := ⟨kVal_pure (fun _ => by rw [binOp_leq]; rfl) h⟩
theorem kBin_gtr (h : k (.bool (decide (a > b))) w) : kBin c w .gtr t (.int q a) (.int q b) k := ⟨kVal_pure (fun _ => by rw [binOp_gtr]; rfl) h⟩
theorem kBin_geq (h : k (.bool (decide (a ≥ b))) w) : kBin c w .geq t (.int q a) (.int q b) k := ⟨kVal_pure (fun _ => by rw [binOp_geq]; rfl) h⟩
theorem kBin_add (h : k (.int q (q.wrap (a + b))) w) : kBin c w .add t (.int q a) (.int q b) k := ⟨kVal_pure (fun _ => by rw [binOp_add]; simp [Op.intArith]) h⟩
theorem kBin_sub (h : k (.int q (q.wrap (a - b))) w) : kBin c w .sub t (.int q a) (.int q b) k := ⟨kVal_pure (fun _ => by rw [binOp_sub]; simp [Op.intArith]) h⟩
theorem kBin_mul (h : k (.int q (q.wrap (a * b))) w) : kBin c w .mul t (.int q a) (.int q b) k := ⟨kVal_pure (fun _ => by rw [binOp_mul]; simp [Op.intArith]) h⟩
theorem kEq_int {ox oy : Operand} (h : k (.bool (a == b)) w) : kEq c w .eql t ox oy (.int q a) (.int q b) k := ⟨kVal_pure (fun _ => by rw [eqGuard_at_int, binOp_eql]; rfl) h⟩
theorem kNe_int {ox oy : Operand} (h : k (.bool (a != b)) w) : kEq c w .neq t ox oy (.int q a) (.int q b) k := ⟨kVal_pure (fun _ => by rw [eqGuard_at_int, binOp_neq]; rfl) h⟩
theorem kEq_bool {ox oy : Operand} {x y : Bool} (hu : c.P.underlying t = some .bool) (h : k (.bool (x == y)) w) : kEq c w .eql t ox oy (.bool x) (.bool y) k :=
  ⟨kVal_pure (fun w' => by rw [eqGuard_at_bool]; simp only [Sem.run_bind, Sem.run_pure, Result.andThen_ok]; exact run_eql_bool w' t x y hu) h⟩
theorem kNe_bool {ox oy : Operand} {x y : Bool} (hu : c.P.underlying t = some .bool) (h : k (.bool (!(x == y))) w) : kEq c w .neq t ox oy (.bool x) (.bool y) k :=
  ⟨kVal_pure (fun w' => by rw [eqGuard_at_bool]; simp only [Sem.run_bind, Sem.run_pure, Result.andThen_ok]; exact run_neq_bool w' t x y hu) h⟩
theorem kLen_sl {o : Option Addr} {n cp : Nat} {cs : Array Bool} {e : TypeId} (hu : c.P.underlying t = some (.slice e)) (h : k (.int .i64 n) w) : kBlt c w .len #[t] ty cs #[.slice o n cp] k :=
  ⟨kSem_pure (fun w' => by simp only [builtin, Sem.run_bind, run_len_slice w' t ty o n cp (elem_of hu), Result.andThen_ok, Sem.run_pure]; rfl) h⟩
theorem kLen_str {s : ByteArray} {cs : Array Bool} (hu : c.P.underlying t = some .string) (h : k (.int .i64 s.size) w) : kBlt c w .len #[t] ty cs #[.string s] k :=
  ⟨kSem_pure (fun w' => by simp only [builtin, Sem.run_bind, run_len_string w' t ty s hu, Result.andThen_ok, Sem.run_pure]; rfl) h⟩
theorem kMin2 {ts : Array TypeId} {cs : Array Bool} {x y : Int} (h : k (.int q (if y < x then y else x)) w) : kBlt c w .min ts ty cs #[.int q x, .int q y] k :=
  ⟨kSem_pure (fun w' => by simp only [builtin, Sem.run_bind, run_min_int2 w' ts ty q q x y, Result.andThen_ok, Sem.run_pure]) h⟩
theorem kMax2 {ts : Array TypeId} {cs : Array Bool} {x y : Int} (h : k (.int q (if y > x then y else x)) w) : kBlt c w .max ts ty cs #[.int q x, .int q y] k :=
  ⟨kSem_pure (fun w' => by simp only [builtin, Sem.run_bind, run_max_int2 w' ts ty q q x y, Result.andThen_ok, Sem.run_pure]) h⟩
theorem kConv_int {s d : TypeId} {q' : IntKind} (hs : (c.P.underlying s).isSome = true) (hd : c.P.underlying d = some (.int q')) (h : k (.int q' (q'.wrap a)) w) : kConv c w s d (.int q a) k :=
  ⟨kVal_pure (fun w' => by
    have e : c.P.intKind d = q' := by simp [Program.intKind, hd]
    have := run_convert_int w' s d q a hs (by rw [e]; exact hd)
    rw [this, e]) h⟩
theorem kMkI_c {x : Value} (hc : c.P.concrete t = true) (h : k (.iface t x) w) : kMkI c w t x k := ⟨kVal_pure (fun w' => run_makeInterface (P := c.P) w' t x hc) h⟩
theorem kNil_p {x : Addr} (h : k (.pointer (some x)) w) : kNil c w (.pointer (some x)) k := ⟨h⟩
end
theorem kPanic_i {P : Program} {X : Chain → World → Prop} {w : World} {t : TypeId} {x : Value} (h : X [{ v := .iface t x, recovered := false }] w) : kPanic ⟨P, X, false⟩ w (.iface t x) := ⟨h⟩
theorem kCall_i {P : Program} {X : Chain → World → Prop} {w : World} {f : FuncId} {args : Array Value} {k : Value → World → Prop} (hc : (callFunc f args).run P w = .ok (.enter f args) w)
    (h : Calls P f args w (after k X)) : kCall ⟨P, X, false⟩ w f args k := ⟨by show kNext _ _ _; rw [hc]; exact h⟩
/-- A call whose contract is known. -/
theorem kCall_of {P : Program} {X : Chain → World → Prop} {w : World} {f : FuncId} {args : Array Value} {k : Value → World → Prop} {R : Ending → World → Prop} (hc : (callFunc f args).run P w = .ok (.enter f args) w)
    (h : Calls P f args w R) (hk : ∀ e w', R e w' → after k X e w') : kCall ⟨P, X, false⟩ w f args k := kCall_i hc (h.mono hk)

/-! ### Rows -/
/-- 'vs' lie, one behind the other, at the address (if there is at least one). -/
structure Sl (w : World) (a : Option Addr) (sz : Nat) (vs : List Value) : Prop where
  each : ∀ v ∈ vs, v.cells.size = sz
  at_ : vs = [] ∨ ∃ b o, a = some ⟨b, o, none⟩ ∧ b < w.heap.size ∧ w.rangeAt b o (vs.flatMap (·.cells.toList))

theorem flat_get {sz : Nat} {vs : List Value} (h : ∀ v ∈ vs, v.cells.size = sz) {i j : Nat} {v u : Value} (hv : vs[i]? = some v) (hj : v.cells.toList[j]? = some u) :
    (vs.flatMap (·.cells.toList))[i * sz + j]? = some u := by
  induction vs generalizing i with
  | nil => simp at hv
  | cons x xs ih =>
    have hx : x.cells.toList.length = sz := by simpa using h x (List.mem_cons_self ..)
    rw [List.flatMap_cons]
    cases i with
    | zero =>
      simp at hv; subst hv
      have hl : j < x.cells.toList.length := (List.getElem?_eq_some_iff.1 hj).1
      simpa [List.getElem?_append_left hl] using hj
    | succ i =>
      have := ih (fun v hv => h v (List.mem_cons_of_mem _ hv)) (by simpa using hv)
      rw [List.getElem?_append_right (by rw [hx, Nat.succ_mul]; omega), hx, show (i + 1) * sz + j - sz = i * sz + j by rw [Nat.succ_mul]; omega]
      exact this

theorem Sl.elem {w : World} {a : Option Addr} {sz : Nat} {vs : List Value} (h : Sl w a sz vs) {i : Nat} {v : Value} (hv : vs[i]? = some v) :
    ∃ b o, a = some ⟨b, o, none⟩ ∧ b < w.heap.size ∧ w.rangeAt b (o + i * sz) v.cells.toList := by
  rcases h.at_ with rfl | ⟨b, o, ha, hb, hr⟩
  · simp at hv
  · refine ⟨b, o, ha, hb, fun j u hj => ?_⟩
    rw [Nat.add_assoc]
    exact hr _ _ (flat_get h.each hv hj)

theorem rangeAt_keep {w w' : World} {b o : Nat} {cs : List Value} (h : w.rangeAt b o cs) (hb : w'.heap[b]? = w.heap[b]?) : w'.rangeAt b o cs := fun j v hj => by
  rw [World.cell?_of_block (w := w) hb]; exact h j v hj
theorem Sl.keep {w w' : World} {a : Option Addr} {sz : Nat} {vs : List Value} (h : Sl w a sz vs) (hs : w.heap.size ≤ w'.heap.size) (hb : ∀ k, k < w.heap.size → w'.heap[k]? = w.heap[k]?) : Sl w' a sz vs :=
  ⟨h.each, h.at_.imp id fun ⟨b, o, ha, hlt, hr⟩ => ⟨b, o, ha, Nat.lt_of_lt_of_le hlt hs, rangeAt_keep hr (hb b hlt)⟩⟩
theorem Sl.below {w w' : World} {a : Option Addr} {sz : Nat} {vs : List Value} (h : Sl w a sz vs) (hb : Below w.heap.size w w') : Sl w' a sz vs := h.keep hb.size hb.block
theorem Sl.nil (w : World) (sz : Nat) : Sl w none sz [] := ⟨by simp, .inl rfl⟩

theorem Sl.drewN {w : World} {a : Option Addr} {sz : Nat} {vs : List Value} (h : Sl w a sz vs) (n : Nat) : Sl (w.drewN n) a sz vs := ⟨h.each, h.at_⟩

/-- The index's address. -/
theorem kIa_sl {c : Cx} {w : World} {t e : TypeId} {b o n cp sz : Nat} {i : Nat} {q : IntKind} {k : Value → World → Prop} (hu : c.P.underlying t = some (.slice e)) (hs : ∀ w, (sizeOf e).run c.P w = .ok sz w) (hi : i < n)
    (h : k (.pointer (some ⟨b, o + i * sz, none⟩)) w) : kIa c w t (.slice (some ⟨b, o, none⟩) n cp) (.int q i) k :=
  ⟨kVal_pure (fun w' => by
    have he : c.P.elem t = e := by simp [Program.elem, hu]
    rw [run_indexAt_slice w' t ⟨b, o, none⟩ n cp q i (by rw [he]; exact hu), if_pos (by omega), he, hs]
    simp [Addr.add_mid]) h⟩

theorem kIa_int {c : Cx} {w : World} {t e : TypeId} {b o n cp sz : Nat} {z : Int} {q : IntKind} {k : Value → World → Prop} (hu : c.P.underlying t = some (.slice e)) (hs : ∀ w, (sizeOf e).run c.P w = .ok sz w) (h0 : 0 ≤ z) (h1 : z < n)
    (h : k (.pointer (some ⟨b, o + z.toNat * sz, none⟩)) w) : kIa c w t (.slice (some ⟨b, o, none⟩) n cp) (.int q z) k := by
  obtain ⟨i, rfl⟩ := Int.eq_ofNat_of_zero_le h0
  exact kIa_sl (i := i) hu hs (by omega) (by simpa using h)

theorem kLoad_cell {c : Cx} {w : World} {t : TypeId} {a : Addr} {v : Value} {k : Value → World → Prop} (ha : ∀ w, (isAgg t).run c.P w = .ok false w) (hv : w.cell? a = some v) (h : k v w) : kLoad c w t (.pointer (some a)) k :=
  ⟨kVal_look (fun n => by
    have : (w.drewN n).cell? a = some v := hv
    simp [Instr.loadAt, Instr.sureAddr, loadVar, ha, run_load, this]) h⟩
theorem info_of {P : Program} {t : TypeId} {i : TypeInfo} {w : World} (h : (typeInfo t).run P w = .ok i w) : P.info? t = some i := by
  unfold typeInfo at h
  simp only [Sem.run_bind, run_program, Result.andThen_ok] at h
  cases hi : P.info? t with
  | none => rw [hi] at h; simp [stuck] at h
  | some j => rw [hi] at h; simp at h; rw [h]
/-- A struct (or an array) out of its cells. -/
theorem kLoad_agg {c : Cx} {w : World} {t : TypeId} {b o : Nat} {cs : List Value} {d : TypeDesc} {i : TypeInfo} {k : Value → World → Prop} (hr : w.rangeAt b o cs) (hu : c.P.underlying t = some d) (hd : d.isRow = true) (hi : ∀ w, (typeInfo t).run c.P w = .ok i w) (hs : i.size = cs.length)
    (h : k (.agg cs.toArray) w) : kLoad c w t (.pointer (some ⟨b, o, none⟩)) k :=
  ⟨kVal_look (fun n => run_loadAt_mid (w.drewN n) b o t cs d (fun j v hj => hr j v hj) hu hd (by rw [info_of (hi w), ← hs]; rfl)) h⟩

theorem kLoad_elt {c : Cx} {w : World} {t : TypeId} {b o : Nat} {v : Value} {d : TypeDesc} {i : TypeInfo} {k : Value → World → Prop} (hr : w.rangeAt b o v.cells.toList) (hv : Value.agg v.cells = v) (hu : c.P.underlying t = some d) (hd : d.isRow = true) (hi : ∀ w, (typeInfo t).run c.P w = .ok i w) (hs : i.size = v.cells.size)
    (h : k v w) : kLoad c w t (.pointer (some ⟨b, o, none⟩)) k := kLoad_agg hr hu hd hi (by simpa using hs) (by simpa [hv] using h)

theorem kFa_i {c : Cx} {w : World} {s : TypeId} {b o f : Nat} {fs : Array Field} {fd : Field} {k : Value → World → Prop} (hu : c.P.underlying s = some (.struct fs)) (hf : fs[f]? = some fd) {n : Nat} (hp : ∀ w, (sizeOf fd.type).run c.P w = .ok (n + 1) w)
    (h : k (.pointer (some ⟨b, o + fd.offset, none⟩)) w) : kFa c w s (.pointer (some ⟨b, o, none⟩)) f k :=
  ⟨kVal_pure (fun w' => by simp [Instr.fieldAt, run_underlying hu, hf, Instr.sureAddr, fieldPlace, hp, Addr.add_mid]) h⟩
end Go.L
namespace Go.L
open Go Go.RowKit

/-- What is known of an element's type. -/
structure Elt (P : Program) (t e : TypeId) (sz by_ : Nat) : Prop where
  sl : P.underlying t = some (.slice e)
  info : ∃ i z, P.info? e = some i ∧ i.zero = some z ∧ i.size = sz ∧ i.bytes = by_ ∧ z.cells.size = sz
  pos : 0 < sz
  small : sz ≤ 1024

theorem run_buildSlice_row {P : Program} {t e : TypeId} {sz by_ : Nat} (E : Elt P t e sz by_) (w : World) (vs : List Value) (n : Nat) (parts : Array (Nat × Value)) (hp : parts.toList = (vs.zipIdx 0).map fun x => (x.2, x.1)) (hn : vs.length = n) (h0 : 0 < n) (h1 : n ≤ 1024)
    (hv : ∀ v ∈ vs, v.cells.size = sz) : (Instr.buildSlice t n parts).run P w = .ok (.slice (some ⟨w.heap.size, 0, none⟩) n n) (w.alloc (.cells (vs.flatMap fun v => v.cells.toList).toArray e)) := by
  obtain ⟨i, z, hi, hz, hs, hb, hzs⟩ := E.info
  have hpos := E.pos
  have hsm := E.small
  have hprod : n * sz ≤ 1024 * 1024 := Nat.mul_le_mul h1 hsm
  have hprod0 : 0 < n * sz := Nat.mul_pos h0 hpos
  refine run_buildSlice w t e n parts _ i z E.sl hi hz (by rw [hs]; omega) (by rw [hs]; omega) ?_
  rw [hp, hs]
  exact Great.fill_whole hpos vs _ hv (by simp [hn])

/-- 'append(x, v)': a block of one element, then the row. -/
theorem kApp1 {P : Program} {X : Chain → World → Prop} {w : World} {t e : TypeId} {sz by_ : Nat} (E : Elt P t e sz by_) {base n : Nat} {x v : Value} {xs : List Value} {cs : Array Bool} {k : Value → World → Prop}
    (hown : w.ownsRow base e sz x n xs) (hv : v.cells.size = sz) (h1 : ∀ u ∈ v.cells.toList, u.oneCell' = true) (hm : n + 1 ≤ maxLen) (hby : (n + 1) * by_ ≤ 140737488355328) (hbase : base ≤ w.heap.size)
    (h : ∀ x' w', w'.ownsRow base e sz x' (n + 1) (xs ++ v.cells.toList) → w.grownBy w' x.ownBlock → (x'.ownBlock = x.ownBlock ∨ ∃ g, x'.ownBlock = some g ∧ w.heap.size ≤ g) → k x' w') :
    kBuildS ⟨P, X, false⟩ w t 1 #[(0, v)] fun u w1 => kBlt ⟨P, X, false⟩ w1 .append #[t, t] t cs #[x, u] k := by
  have hr := run_buildSlice_row E w [v] 1 #[(0, v)] rfl rfl (by omega) (by omega) (by simpa using hv)
  simp only [List.flatMap_cons, List.flatMap_nil, List.append_nil, Array.toArray_toList] at hr
  refine ⟨kVal_do hr ⟨?_⟩⟩
  obtain ⟨i, z, hi, hz, hs, hb, hzs⟩ := E.info
  obtain ⟨g, cap, w', hrun, hown', hg, hat, hlt⟩ := run_append_lies (P := P) (w.alloc (.cells v.cells e)) t t base e i z sz by_ E.sl hi hz hs hb hzs E.pos x n xs (hown.alloc _) ⟨w.heap.size, 0, none⟩ 1 1 v.cells.toList (by simpa using hv)
    (World.news_of_block (World.alloc_heap_new w (.cells v.cells e))) h1 (by omega) hm hby (by simp; omega) _ rfl
  show kNext _ _ _
  simp only [builtin, Sem.run_bind, hrun, Result.andThen_ok, Sem.run_pure]
  refine h _ _ hown' ((World.grownBy_alloc w _ _).trans hg) ?_
  rcases hat with hat | hat
  · exact .inl (by rw [hat]; rfl)
  · refine .inr ⟨g, rfl, ?_⟩; rw [hat]; simp

theorem below_grown {base : Nat} {a w w' : World} {x : Value} {e : TypeId} {sz n : Nat} {xs : List Value} (h : Below base a w) (hown : w.ownsRow base e sz x n xs) (hg : w.grownBy w' x.ownBlock) (hb : base ≤ w.heap.size) : Below base a w' :=
  h.grown hg hb fun k hk => (hown.lt k hk).1

/-- Of a row that is owned, what is read. -/
theorem Sl.of_owns {w : World} {base : Nat} {e : TypeId} {sz n : Nat} {x : Value} {vs : List Value} (hv : ∀ v ∈ vs, v.cells.size = sz) (hown : w.ownsRow base e sz x n (vs.flatMap (·.cells.toList))) (hn : vs.length = n) :
    ∃ a cp, x = .slice a n cp ∧ Sl w a sz vs := by
  rcases hown.2 with ⟨rfl, rfl⟩ | ⟨g, cap, cur, rfl, hb, hg, hnc, hcap, hcur, htake⟩
  · have : vs = [] := List.eq_nil_of_length_eq_zero hn
    subst this
    exact ⟨none, 0, rfl, Sl.nil w sz⟩
  · refine ⟨_, _, rfl, hv, .inr ⟨g, 0, rfl, ?_, fun j v hj => ?_⟩⟩
    · exact (Array.getElem?_eq_some_iff.1 hg).1
    · rw [cell_of_row w g (0 + j) cur e (0, 0) hg]
      rw [← htake] at hj
      rw [Nat.zero_add, ← Array.getElem?_toList]
      have hj' := (List.getElem?_eq_some_iff.1 hj).1
      rw [List.getElem?_take_of_lt (by simp at hj'; omega)] at hj
      exact hj
end Go.L
namespace Go.L
open Go Go.RowKit

/-- A thing that the function at hand has made: a block of cells; a row that it may append to. -/
inductive Own where
  | bx (b : Nat) (t : TypeId) (cs : Array Value)
  | row (x : Value) (e : TypeId) (sz n : Nat) (xs : List Value)
  | ob (b : Nat) (o : Obj)
def Own.blk : Own → Option Nat
  | .bx b _ _ => some b
  | .row x _ _ _ _ => x.ownBlock
  | .ob b _ => some b
def Own.holds (base : Nat) (W : World) : Own → Prop
  | .bx b t cs => base ≤ b ∧ W.heap[b]? = some (.cells cs t (0, 0))
  | .row x e sz n xs => W.ownsRow base e sz x n xs
  | .ob b o => base ≤ b ∧ W.heap[b]? = some o

theorem Own.lt {base : Nat} {W : World} {o : Own} (h : o.holds base W) : ∀ k, o.blk = some k → base ≤ k ∧ k < W.heap.size := by
  intro k hk
  cases o with
  | bx b t cs => cases hk; exact ⟨h.1, (Array.getElem?_eq_some_iff.1 h.2).1⟩
  | row x e sz n xs => exact World.ownsRow.lt h k hk
  | ob b o => cases hk; exact ⟨h.1, (Array.getElem?_eq_some_iff.1 h.2).1⟩
theorem Own.kept {base : Nat} {W W' : World} {row : Option Nat} {o : Own} (h : o.holds base W) (hg : W.grownBy W' row) (hne : o.blk = none ∨ o.blk ≠ row) : o.holds base W' := by
  cases o with
  | bx b t cs => exact ⟨h.1, by rw [hg.block b (Array.getElem?_eq_some_iff.1 h.2).1 (hne.resolve_left (by simp [Own.blk]))]; exact h.2⟩
  | row x e sz n xs => exact World.ownsRow.kept h hg hne
  | ob b o => exact ⟨h.1, by rw [hg.block b (Array.getElem?_eq_some_iff.1 h.2).1 (hne.resolve_left (by simp [Own.blk]))]; exact h.2⟩

structure St (w0 : World) (L : List Own) (W : World) : Prop where
  below : Below w0.heap.size w0 W
  all : ∀ o ∈ L, o.holds w0.heap.size W
  apart : ∀ (i j : Nat) (a b : Own), L[i]? = some a → L[j]? = some b → i ≠ j → a.blk = none ∨ a.blk ≠ b.blk

theorem St.start (w : World) : St w [] w := ⟨Below.refl _ _, by simp, by simp⟩
theorem St.size {w0 : World} {L : List Own} {W : World} (h : St w0 L W) : w0.heap.size ≤ W.heap.size := h.below.size
theorem St.get {w0 : World} {L : List Own} {W : World} (h : St w0 L W) (i : Nat) {o : Own} (ho : L[i]? = some o) : o.holds w0.heap.size W := h.all o (List.mem_of_getElem? ho)
theorem St.grow {w0 : World} {L : List Own} {W W' : World} (h : St w0 L W) (hg : W.grownBy W' none) : St w0 L W' :=
  ⟨h.below.grown hg h.size (by simp), fun o ho => Own.kept (h.all o ho) hg (by cases o.blk <;> simp), h.apart⟩
theorem St.bel {w0 : World} {L : List Own} {W W' : World} (h : St w0 L W) (hb : Below W.heap.size W W') : St w0 L W' := h.grow (grown_of_below hb)
theorem St.drewN {w0 : World} {L : List Own} {W : World} (h : St w0 L W) (n : Nat) : St w0 L (W.drewN n) :=
  h.bel ⟨rfl, rfl, rfl, Nat.le_refl _, fun _ _ => rfl⟩
/-- Something new, in a block that was not there. -/
theorem St.push {w0 : World} {L : List Own} {W W' : World} (h : St w0 L W) (hg : W.grownBy W' none) {o : Own} (ho : o.holds w0.heap.size W') (hn : ∀ k, o.blk = some k → W.heap.size ≤ k) : St w0 (L ++ [o]) W' := by
  have h' := h.grow hg
  refine ⟨h'.below, fun p hp => ?_, fun i j a b ha hb hij => ?_⟩
  · rcases List.mem_append.1 hp with hp | hp
    · exact h'.all p hp
    · simp at hp; subst hp; exact ho
  · have key : ∀ (i : Nat) (a : Own), (L ++ [o])[i]? = some a → (i < L.length ∧ L[i]? = some a) ∨ (i = L.length ∧ a = o) := by
      intro i a ha
      by_cases hi : i < L.length
      · rw [List.getElem?_append_left hi] at ha; exact .inl ⟨hi, ha⟩
      · have hlt := (List.getElem?_eq_some_iff.1 ha).1
        simp at hlt
        have : i = L.length := by omega
        subst this
        simp at ha
        exact .inr ⟨rfl, ha.symm⟩
    have old : ∀ (i : Nat) (a : Own), L[i]? = some a → a.blk = none ∨ a.blk ≠ o.blk := by
      intro i a ha
      cases hk : a.blk with
      | none => exact .inl rfl
      | some k =>
        right
        intro he
        have h1 := (Own.lt (h.get i ha) k hk).2
        have h2 := hn k he.symm
        omega
    rcases key i a ha with ⟨_, ha'⟩ | ⟨hi, hao⟩ <;> rcases key j b hb with ⟨_, hb'⟩ | ⟨hj, hbo⟩
    · exact h.apart i j a b ha' hb' hij
    · rw [hbo]; exact old i a ha'
    · rw [hao]
      rcases old j b hb' with h1 | h1
      · cases hk : o.blk with
        | none => exact .inl rfl
        | some k => exact .inr (by rw [h1]; simp)
      · exact .inr (Ne.symm h1)
    · exact absurd (hi.trans hj.symm) hij
/-- One of the things changes, in its own block. -/
theorem St.set {w0 : World} {L : List Own} {W W' : World} (h : St w0 L W) (i : Nat) {o o' : Own} (hi : L[i]? = some o) (hg : W.grownBy W' o.blk) (ho : o'.holds w0.heap.size W')
    (hb : o'.blk = o.blk ∨ ∀ k, o'.blk = some k → W.heap.size ≤ k) : St w0 (L.set i o') W' := by
  have hlt := (List.getElem?_eq_some_iff.1 hi).1
  have keep : ∀ (j : Nat) (a : Own), j ≠ i → L[j]? = some a → a.holds w0.heap.size W' := fun j a hj ha => Own.kept (h.get j ha) hg (h.apart j i a o ha hi hj)
  have getset : ∀ (j : Nat) (a : Own), (L.set i o')[j]? = some a → (j = i ∧ a = o') ∨ (j ≠ i ∧ L[j]? = some a) := by
    intro j a ha
    by_cases hj : j = i
    · subst hj; rw [List.getElem?_set_self hlt] at ha; exact .inl ⟨rfl, (Option.some.inj ha).symm⟩
    · rw [List.getElem?_set_ne (Ne.symm hj)] at ha; exact .inr ⟨hj, ha⟩
  have new : ∀ (j : Nat) (a : Own), j ≠ i → L[j]? = some a → a.blk = none ∨ a.blk ≠ o'.blk := by
    intro j a hj ha
    rcases hb with hb | hb
    · rw [hb]; exact h.apart j i a o ha hi hj
    · cases hk : a.blk with
      | none => exact .inl rfl
      | some k =>
        right
        intro he
        have h1 := (Own.lt (h.get j ha) k hk).2
        have h2 := hb k he.symm
        omega
  refine ⟨h.below.grown hg h.size fun k hk => (Own.lt (h.get i hi) k hk).1, fun p hp => ?_, fun j k a b ha hb' hjk => ?_⟩
  · obtain ⟨j, hj⟩ := List.mem_iff_getElem?.1 hp
    rcases getset j p hj with ⟨rfl, rfl⟩ | ⟨hne, hj⟩
    · exact ho
    · exact keep j p hne hj
  · rcases getset j a ha with ⟨hj, ha'⟩ | ⟨hj, ha'⟩ <;> rcases getset k b hb' with ⟨hk, hb''⟩ | ⟨hk, hb''⟩
    · exact absurd (hj.trans hk.symm) hjk
    · rw [ha']
      rcases new k b hk hb'' with h1 | h1
      · cases hq : o'.blk with
        | none => exact .inl rfl
        | some q => exact .inr (by rw [h1]; simp)
      · exact .inr (Ne.symm h1)
    · rw [hb'']; exact new j a hj ha'
    · exact h.apart j k a b ha' hb'' hjk

section
variable {P : Program} {X : Chain → World → Prop} {w w0 : World} {L : List Own} {k : Value → World → Prop} {c : Cx}

theorem kBox_st {t : TypeId} {v : Value} (hS : St w0 L w) (h : ∀ b W, St w0 (L ++ [.bx b t v.cells]) W → k (.pointer (some ⟨b, 0, none⟩)) W) : kBox ⟨P, X, false⟩ w t v k :=
  ⟨kVal_do (w' := w.alloc (.cells v.cells t)) (v := .pointer (some ⟨w.heap.size, 0, none⟩)) (by simp [Instr.box, newVar, newRow]) (h _ _ (hS.push (World.grownBy_alloc w _ _) ⟨hS.size, World.alloc_heap_new w _⟩ (fun k hk => by cases hk; exact Nat.le_refl _)))⟩
theorem kAlloc_st {t : TypeId} {z : Value} (hz : ∀ w, (zeroValue t).run P w = .ok z w) (hS : St w0 L w) (h : ∀ b W, St w0 (L ++ [.bx b t z.cells]) W → k (.pointer (some ⟨b, 0, none⟩)) W) : kAlloc ⟨P, X, false⟩ w t k :=
  ⟨kVal_do (w' := w.alloc (.cells z.cells t)) (v := .pointer (some ⟨w.heap.size, 0, none⟩)) (by simp [Instr.alloc, hz, newVar, newRow]) (h _ _ (hS.push (World.grownBy_alloc w _ _) ⟨hS.size, World.alloc_heap_new w _⟩ (fun k hk => by cases hk; exact Nat.le_refl _)))⟩

theorem St.cell {W : World} (hS : St w0 L W) (i : Nat) {b : Nat} {t : TypeId} {cs : Array Value} (hi : L[i]? = some (.bx b t cs)) (off : Nat) {v : Value} (hv : cs[off]? = some v) : W.cell? ⟨b, off, none⟩ = some v := by
  rw [cell_of_row W b off cs t (0, 0) (hS.get i hi).2]; exact hv
/-- One cell of a box is read. -/
theorem kLoad_st {t' : TypeId} (hS : St w0 L w) (i : Nat) {b : Nat} {t : TypeId} {cs : Array Value} (hi : L[i]? = some (.bx b t cs)) {off : Nat} {v : Value} (hv : cs[off]? = some v) (ha : ∀ w, (isAgg t').run c.P w = .ok false w) (h : k v w) :
    kLoad c w t' (.pointer (some ⟨b, off, none⟩)) k := kLoad_cell ha (hS.cell i hi off hv) h
/-- All of a box is read. -/
theorem kLoadA_st {t' : TypeId} {d : TypeDesc} {n : Nat} (hS : St w0 L w) (i : Nat) {b : Nat} {t : TypeId} {cs : Array Value} (hi : L[i]? = some (.bx b t cs)) (hu : c.P.underlying t' = some d) (hd : d.isRow = true) (hs : ∀ w, (sizeOf t').run c.P w = .ok n w) (hn : n = cs.size)
    (h : k (.agg cs) w) : kLoad c w t' (.pointer (some ⟨b, 0, none⟩)) k :=
  ⟨kVal_look (fun m => by
    have hg := (hS.get i hi).2
    have hq : (c.P.info? t').map (·.size) = some cs.size := by
      have := hs w
      unfold sizeOf typeInfo at this
      simp only [Sem.run_bind, run_program, Result.andThen_ok] at this
      cases hi : c.P.info? t' with
      | none => rw [hi] at this; simp [stuck] at this
      | some j => rw [hi] at this; simp at this; simp [this, hn]
    have := run_loadVar_row (P := c.P) (w.drewN m) b t t' cs (0, 0) d hg hu (by cases d <;> first | rfl | exact hd) hq
    simp [Instr.loadAt, Instr.sureAddr, this]) h⟩
/-- A cell of a box is written. -/
theorem kStore_st {t' : TypeId} {k : World → Prop} (hS : St w0 L w) (i : Nat) {b : Nat} {t : TypeId} {cs : Array Value} (hi : L[i]? = some (.bx b t cs)) {off : Nat} (hoff : off < cs.size) {v : Value} (hv : v.cells = #[v]) (h1 : v.oneCell' = true) (hs : ∀ w, (sizeOf t').run P w = .ok 1 w)
    (h : ∀ W, St w0 (L.set i (.bx b t (cs.setIfInBounds off v))) W → k W) : kStore ⟨P, X, false⟩ w t' (.pointer (some ⟨b, off, none⟩)) v k := by
  have hg := (hS.get i hi)
  have hb : b < w.heap.size := (Array.getElem?_eq_some_iff.1 hg.2).1
  have hc : w.cell? ⟨b, off, none⟩ = some cs[off] := hS.cell i hi off (by simp [hoff])
  have hf : w.frozen? ⟨b, off, none⟩ = false := by simp [World.frozen?, hg.2]
  have hheap : (w.setCell ⟨b, off, none⟩ v).heap[b]? = some (.cells (cs.setIfInBounds off v) t (0, 0)) := by
    simp [World.setCell, Array.getElem?_modify, hg.2]
  refine ⟨kUnit_do (w' := w.setCell ⟨b, off, none⟩ v) ?_ (h _ (hS.set i hi ?_ ⟨hg.1, hheap⟩ (.inl rfl)))⟩
  · simp [Instr.storeAt, Instr.sureAddr, storeVar, hv, hs, storeCells, run_store P w _ v _ h1, hc, hf, Addr.add_mid]
  · refine ⟨rfl, rfl, rfl, by simp [World.setCell], fun k hk hne => ?_⟩
    exact Below.heap_setCell w ⟨b, off, none⟩ v k (fun e => hne (by rw [e]; rfl))
/-- All of a box is written. -/
theorem kStoreA_st {t' : TypeId} {k : World → Prop} (hS : St w0 L w) (i : Nat) {b : Nat} {t : TypeId} {cs cs' : Array Value} (hi : L[i]? = some (.bx b t cs)) (hsz : cs.size = cs'.size) (h1 : cs'.all (·.oneCell') = true) (hs : ∀ w, (sizeOf t').run P w = .ok cs'.size w)
    (h : ∀ W, St w0 (L.set i (.bx b t cs')) W → k W) : kStore ⟨P, X, false⟩ w t' (.pointer (some ⟨b, 0, none⟩)) (.agg cs') k := by
  have hg := (hS.get i hi)
  have hq : (P.info? t').map (·.size) = some cs'.size := by
    have := hs w
    unfold sizeOf typeInfo at this
    simp only [Sem.run_bind, run_program, Result.andThen_ok] at this
    cases hi : P.info? t' with
    | none => rw [hi] at this; simp [stuck] at this
    | some j => rw [hi] at this; simp at this; simp [this]
  have hr := run_storeVar_row (P := P) w b t t' cs cs' hg.2 hq hsz h1
  have hheap : (w.setRow b cs').heap[b]? = some (.cells cs' t (0, 0)) := by
    simp [World.setRow, Array.getElem?_modify, hg.2]
  refine ⟨kUnit_do (w' := w.setRow b cs') ?_ (h _ (hS.set i hi ?_ ⟨hg.1, hheap⟩ (.inl rfl)))⟩
  · simp [Instr.storeAt, Instr.sureAddr, hr]
  · refine ⟨rfl, rfl, rfl, by simp [World.setRow], fun k hk hne => ?_⟩
    have : b ≠ k := fun e => hne (by rw [← e]; rfl)
    simp [World.setRow, Array.getElem?_modify, this]
theorem kBuild_i {t : TypeId} {ps : Array (Nat × Value)} {cs : Array Value} (hb : c.P.built t ps.toList = some cs) (h : k (.agg cs) w) : kBuild c w t ps k := ⟨kVal_pure (fun w' => run_build w' t ps cs hb) h⟩
end
end Go.L
namespace Go.L
open Go Go.RowKit
set_option linter.unusedSimpArgs false
set_option linter.unusedVariables false

/-- Rows that lie somewhere, to be read: what an append takes. -/
def Src (w : World) (sz : Nat) (x : Value) (vs : List Value) : Prop :=
  (x = .slice none 0 0 ∧ vs = []) ∨ ∃ ad cp, x = .slice (some ad) vs.length cp ∧ (∀ v ∈ vs, v.cells.size = sz) ∧ (vs = [] ∨ ∃ b o, ad = ⟨b, o, none⟩ ∧ b < w.heap.size ∧ w.rangeAt b o (vs.flatMap (·.cells.toList)))
theorem Src.of_owns {w : World} {base : Nat} {e : TypeId} {sz n : Nat} {x : Value} {vs : List Value} (hv : ∀ v ∈ vs, v.cells.size = sz) (hown : w.ownsRow base e sz x n (vs.flatMap (·.cells.toList))) (hn : vs.length = n) : Src w sz x vs := by
  rcases hown.2 with ⟨rfl, rfl⟩ | ⟨g, cap, cur, rfl, hb, hg, hnc, hcap, hcur, htake⟩
  · exact .inl ⟨rfl, List.eq_nil_of_length_eq_zero hn⟩
  · refine .inr ⟨⟨g, 0, none⟩, cap, by rw [hn], hv, .inr ⟨g, 0, rfl, (Array.getElem?_eq_some_iff.1 hg).1, fun j v hj => ?_⟩⟩
    rw [cell_of_row w g (0 + j) cur e (0, 0) hg]
    rw [← htake] at hj
    rw [Nat.zero_add, ← Array.getElem?_toList]
    have hj' := (List.getElem?_eq_some_iff.1 hj).1
    rw [List.getElem?_take_of_lt (by simp at hj'; omega)] at hj
    exact hj
theorem Src.drewN {w : World} {sz : Nat} {x : Value} {vs : List Value} (h : Src w sz x vs) (n : Nat) : Src (w.drewN n) sz x vs := h
theorem Src.below {w w' : World} {sz : Nat} {x : Value} {vs : List Value} (h : Src w sz x vs) (hB : Below w.heap.size w w') : Src w' sz x vs := by
  rcases h with h | ⟨ad, cp, hx, hv, h⟩
  · exact .inl h
  · refine .inr ⟨ad, cp, hx, hv, h.imp id fun ⟨b, o, he, hb, hr⟩ => ⟨b, o, he, Nat.lt_of_lt_of_le hb hB.size, fun j v hj => ?_⟩⟩
    rw [World.cell?_of_block (w := w) (hB.block b hb)]; exact hr j v hj
theorem Src.of_sl {w : World} {sz : Nat} {a : Option Addr} {n cp : Nat} {vs : List Value} (h : Sl w a sz vs) (hn : n = vs.length) (ha : a ≠ none) : Src w sz (.slice a n cp) vs := by
  subst hn
  cases a with
  | none => exact absurd rfl ha
  | some ad => exact .inr ⟨ad, cp, rfl, h.each, h.at_.imp id fun ⟨b, o, he, hb, hr⟩ => ⟨b, o, Option.some.inj he, hb, hr⟩⟩
theorem kAppSrc_st {P : Program} {X : Chain → World → Prop} {w w0 : World} {t e : TypeId} {sz by_ : Nat} (E : Elt P t e sz by_) {L : List Own} (hS : St w0 L w) (i : Nat) {n m : Nat} {x y : Value} {xs : List Value} {vs : List Value} (hi : L[i]? = some (.row x e sz n xs)) (hy : Src w sz y vs) (hm : vs.length = m)
    {cs : Array Bool} {ty : TypeId} {k : Value → World → Prop} (h1 : ∀ v ∈ vs, ∀ u ∈ v.cells.toList, u.oneCell' = true) (hmax : n + m ≤ maxLen) (hby : (n + m) * by_ ≤ 140737488355328)
    (h : ∀ x' W, St w0 (L.set i (.row x' e sz (n + m) (xs ++ vs.flatMap (·.cells.toList)))) W → k x' W) : kBlt ⟨P, X, false⟩ w .append #[t, t] ty cs #[x, y] k := by
  obtain ⟨ii, z, hin, hz, hs, hb, hzs⟩ := E.info
  have hx : w.ownsRow w0.heap.size e sz x n xs := hS.get i hi
  have fin : ∀ x' W, (Builtin.append_ #[t, t] ty #[x, y]).run P w = .ok x' W → W.ownsRow w0.heap.size e sz x' (n + m) (xs ++ vs.flatMap (·.cells.toList)) → w.grownBy W x.ownBlock → (x'.ownBlock = x.ownBlock ∨ x'.ownBlock = some w.heap.size) → kBlt ⟨P, X, false⟩ w .append #[t, t] ty cs #[x, y] k := by
    intro x' W hr ho hg hbk
    refine ⟨?_⟩
    show kNext _ _ _
    simp only [builtin, Sem.run_bind, hr, Result.andThen_ok, Sem.run_pure]
    refine h x' W (hS.set i hi hg ho (hbk.imp id fun hb k hk => ?_))
    have hk : x'.ownBlock = some k := hk
    rw [hb] at hk; cases hk; exact Nat.le_refl _
  rcases hy with ⟨rfl, rfl⟩ | ⟨ad, cap, rfl, hv, hat⟩
  · have hm0 : m = 0 := by simpa using hm.symm
    subst hm0
    refine fin x w (run_append_owned_none w w0.heap.size t ty e ii sz E.sl hin x n xs hx) (by simpa using hx) ⟨rfl, rfl, rfl, Nat.le_refl _, fun _ _ _ => rfl⟩ (.inl rfl)
  · subst hm
    have hlen : (vs.flatMap (·.cells.toList)).length = vs.length * sz := by
      clear h fin h1 hat hmax hby
      induction vs with
      | nil => simp
      | cons v l ih =>
        rw [List.flatMap_cons, List.length_append, ih (fun u hu => hv u (List.mem_cons_of_mem _ hu)), List.length_cons, Nat.succ_mul]
        have := hv v (List.mem_cons_self ..)
        simp [this]; omega
    obtain ⟨v', w', hr', h2, h3, _, h5⟩ := run_append_own_at (P := P) w w0.heap.size t ty e ii z sz by_ E.sl hin hz hs hb hzs E.pos x n xs hx ad vs.length cap (vs.flatMap (·.cells.toList)) hlen (fun j u hj => by
        rcases hat with rfl | ⟨b, o, rfl, hb, hr⟩
        · simp at hj
        · rw [Addr.add_mid]; exact hr j u hj)
      (fun u hu => by obtain ⟨v, hv', hu'⟩ := List.mem_flatMap.1 hu; exact h1 v hv' u hu') hmax hby hS.size
    exact fin v' w' hr' h2 h3 h5
/-- An empty row of its own. -/
theorem kBuildS0 {P : Program} {X : Chain → World → Prop} {w w0 : World} {t e : TypeId} {sz by_ : Nat} (E : Elt P t e sz by_) {L : List Own} (hS : St w0 L w) {k : Value → World → Prop} (h : ∀ x W, St w0 (L ++ [.row x e sz 0 []]) W → k x W) : kBuildS ⟨P, X, false⟩ w t 0 #[] k := by
  obtain ⟨ii, z, hin, hz, hs, hb, hzs⟩ := E.info
  have hr : (Instr.buildSlice t 0 #[]).run P w = .ok (.slice (some ⟨w.heap.size, 0, none⟩) 0 0) (w.alloc (.cells #[] e)) := by
    simp [Instr.buildSlice, run_underlying E.sl, sizeOf, typeInfo, hin, newRow, Instr.fill]
    simp [Array.range]
  refine ⟨kVal_do hr (h _ _ (hS.push (World.grownBy_alloc w _ _) ?_ (fun k hk => by cases hk; exact Nat.le_refl _)))⟩
  exact ⟨by simp, .inr ⟨w.heap.size, 0, #[], rfl, hS.size, World.alloc_heap_new w _, Nat.le_refl _, by simp [maxLen], by simp, by simp⟩⟩
theorem kEqNil {c : Cx} {w : World} {k : Value → World → Prop} {t e : TypeId} {ox oy : Operand} {a : Option Addr} {n cp : Nat} (hu : c.P.underlying t = some (.slice e)) (h : k (.bool a.isNone) w) : kEq c w .eql t ox oy (.slice a n cp) (.slice none 0 0) k :=
  ⟨kVal_pure (fun w' => by rw [eqGuard_at_slice]; simp only [Sem.run_bind, Sem.run_pure, Result.andThen_ok]; exact run_eql_slice_nil w' _ _ a n cp hu) h⟩
theorem kIa_arr {c : Cx} {w : World} {t e : TypeId} {b o n sz : Nat} {i : Nat} {q : IntKind} {k : Value → World → Prop} (hu : c.P.underlying t = some (.array n e)) (hs : ∀ w, (sizeOf e).run c.P w = .ok sz w) (hi : i < n)
    (h : k (.pointer (some ⟨b, o + i * sz, none⟩)) w) : kIa c w t (.pointer (some ⟨b, o, none⟩)) (.int q i) k :=
  ⟨kVal_pure (fun w' => by
    have he : c.P.elem t = e := by simp [Program.elem, hu]
    have hn : c.P.arrayLen t = n := by simp [Program.arrayLen, hu]
    rw [run_indexAt_array w' t ⟨b, o, none⟩ q i (by rw [hn, he]; exact hu), hn, if_pos (by omega), he, hs]
    simp [Addr.add_mid]) h⟩
theorem kSl_arr {c : Cx} {w : World} {t e : TypeId} {b o n sz : Nat} {k : Value → World → Prop} (hu : c.P.underlying t = some (.array n e)) (hs : ∀ w, (sizeOf e).run c.P w = .ok sz w)
    (h : k (.slice (some ⟨b, o, none⟩) n n) w) : kSl c w t (.pointer (some ⟨b, o, none⟩)) none none none k :=
  ⟨kVal_pure (fun w' => by
    have he : c.P.elem t = e := by simp [Program.elem, hu]
    have hn : c.P.arrayLen t = n := by simp [Program.arrayLen, hu]
    rw [run_sliceAt_array_all w' t ⟨b, o, none⟩ (by rw [hn, he]; exact hu), hn, he, hs]
    simp [slicedAt, Addr.add_mid]) h⟩
end Go.L
namespace Go.L
open Go Go.RowKit
set_option linter.unusedSimpArgs false
set_option linter.unusedVariables false

def flat (vs : List Value) : List Value := vs.flatMap (·.cells.toList)
theorem at_l {L M : List Own} {i : Nat} {o : Own} (h : L[i]? = some o) : (L ++ M)[i]? = some o := by
  rw [List.getElem?_append_left (List.getElem?_eq_some_iff.1 h).1]; exact h
theorem at_r {L : List Own} {o : Own} : (L ++ [o])[L.length]? = some o := by simp
theorem set_l {L M : List Own} {i : Nat} {o : Own} (x : Own) (h : L[i]? = some o) : (L ++ M).set i x = L.set i x ++ M := List.set_append_left _ _ (List.getElem?_eq_some_iff.1 h).1
theorem set_r {L : List Own} {o : Own} (x : Own) : (L ++ [o]).set L.length x = L ++ [x] := by simp
theorem St.take {w0 : World} {L : List Own} {W : World} (h : St w0 L W) (k : Nat) : St w0 (L.take k) W :=
  ⟨h.below, fun o ho => h.all o (List.mem_of_mem_take ho), fun i j a b ha hb hij => by
    have key : ∀ (i : Nat) (a : Own), (L.take k)[i]? = some a → L[i]? = some a := fun i a ha => by
      by_cases hi : i < k
      · rwa [List.getElem?_take_of_lt hi] at ha
      · rw [List.getElem?_eq_none (by simp; omega)] at ha; cases ha
    exact h.apart i j a b (key i a ha) (key j b hb) hij⟩
theorem St.init {w0 W : World} {L M : List Own} (h : St w0 (L ++ M) W) : St w0 L W := by
  have := h.take L.length
  simpa using this
theorem kBuildS_row {P : Program} {X : Chain → World → Prop} {w : World} {t e : TypeId} {sz by_ : Nat} (E : Elt P t e sz by_) {base : Nat} (hbase : base ≤ w.heap.size) (vs : List Value) {n : Nat} {parts : Array (Nat × Value)} {k : Value → World → Prop} (hp : parts.toList = (vs.zipIdx 0).map fun x => (x.2, x.1)) (hn : vs.length = n) (h0 : 0 < n) (h1 : n ≤ 1024)
    (hv : ∀ v ∈ vs, v.cells.size = sz) (h : ∀ x W, W.ownsRow base e sz x n (flat vs) → w.grownBy W none → (∀ j, x.ownBlock = some j → w.heap.size ≤ j) → k x W) : kBuildS ⟨P, X, false⟩ w t n parts k := by
  refine ⟨kVal_do (run_buildSlice_row E w vs n parts hp hn h0 h1 hv) (h _ _ ?_ (World.grownBy_alloc w _ _) ?_)⟩
  · have := World.ownsRow_lit (base := base) (e := e) (size := sz) w (vs.flatMap fun v => v.cells.toList).toArray n hbase (by simp [maxLen]; omega) (by
      have : ∀ vs : List Value, (∀ v ∈ vs, v.cells.size = sz) → (vs.flatMap fun v => v.cells.toList).length = vs.length * sz := by
        intro vs; induction vs with
        | nil => simp
        | cons a l ih => intro h; rw [List.flatMap_cons, List.length_append, ih (fun v hv => h v (List.mem_cons_of_mem _ hv)), List.length_cons, Nat.succ_mul, Array.length_toList, h a (List.mem_cons_self ..), Nat.add_comm]
      rw [List.size_toArray, this vs hv, hn])
    simpa [flat] using this
  · intro j hj; cases hj; exact Nat.le_refl _
theorem kAppRow_st {P : Program} {X : Chain → World → Prop} {w w0 : World} {t e : TypeId} {sz by_ : Nat} (E : Elt P t e sz by_) {L : List Own} (hS : St w0 L w) (i j : Nat) {n m : Nat} {x y : Value} {xs ys : List Value} (hi : L[i]? = some (.row x e sz n xs)) (hj : L[j]? = some (.row y e sz m ys))
    {cs : Array Bool} {ty : TypeId} {k : Value → World → Prop} (h1 : ∀ u ∈ ys, u.oneCell' = true) (hmax : n + m ≤ maxLen) (hby : (n + m) * by_ ≤ 140737488355328)
    (h : ∀ x' W, St w0 (L.set i (.row x' e sz (n + m) (xs ++ ys))) W → k x' W) : kBlt ⟨P, X, false⟩ w .append #[t, t] ty cs #[x, y] k := by
  obtain ⟨ii, z, hin, hz, hs, hb, hzs⟩ := E.info
  have hx : w.ownsRow w0.heap.size e sz x n xs := hS.get i hi
  have hy : w.ownsRow w0.heap.size e sz y m ys := hS.get j hj
  have fin : ∀ x' W, (Builtin.append_ #[t, t] ty #[x, y]).run P w = .ok x' W → W.ownsRow w0.heap.size e sz x' (n + m) (xs ++ ys) → w.grownBy W x.ownBlock → (x'.ownBlock = x.ownBlock ∨ x'.ownBlock = some w.heap.size) → kBlt ⟨P, X, false⟩ w .append #[t, t] ty cs #[x, y] k := by
    intro x' W hr ho hg hbk
    refine ⟨?_⟩
    show kNext _ _ _
    simp only [builtin, Sem.run_bind, hr, Result.andThen_ok, Sem.run_pure]
    refine h x' W (hS.set i hi hg ho (hbk.imp id fun hb k hk => ?_))
    have hk : x'.ownBlock = some k := hk
    rw [hb] at hk; cases hk; exact Nat.le_refl _
  rcases hy.2 with ⟨rfl, rfl⟩ | ⟨g, cap, cur, rfl, _, hg, _⟩
  · have hys : ys = [] := List.eq_nil_of_length_eq_zero (by simpa using hy.1)
    subst hys
    refine fin x w (run_append_owned_none w w0.heap.size t ty e ii sz E.sl hin x n xs hx) (by simpa using hx) ⟨rfl, rfl, rfl, Nat.le_refl _, fun _ _ _ => rfl⟩ (.inl rfl)
  · obtain ⟨v', w', hr, h2, h3, _, h5⟩ := run_append_own_at (P := P) w w0.heap.size t ty e ii z sz by_ E.sl hin hz hs hb hzs E.pos x n xs hx ⟨g, 0, none⟩ m cap ys hy.1 (hy.cells rfl) h1 hmax hby hS.size
    exact fin v' w' hr h2 h3 h5
/-- A slice literal: a new row. -/
theorem kBuildS_st {P : Program} {X : Chain → World → Prop} {w w0 : World} {t e : TypeId} {sz by_ : Nat} (E : Elt P t e sz by_) {L : List Own} (hS : St w0 L w) (vs : List Value) {n : Nat} {parts : Array (Nat × Value)} {k : Value → World → Prop} (hp : parts.toList = (vs.zipIdx 0).map fun x => (x.2, x.1)) (hn : vs.length = n) (h0 : 0 < n) (h1 : n ≤ 1024)
    (hv : ∀ v ∈ vs, v.cells.size = sz) (h : ∀ x W, St w0 (L ++ [.row x e sz n (flat vs)]) W → k x W) : kBuildS ⟨P, X, false⟩ w t n parts k :=
  kBuildS_row E hS.size vs hp hn h0 h1 hv fun x W ho hg hb => h x W (hS.push hg ho hb)
/-- One thing more. -/
theorem kApp1_st {P : Program} {X : Chain → World → Prop} {w w0 : World} {t e : TypeId} {sz by_ : Nat} (E : Elt P t e sz by_) {L : List Own} (hS : St w0 L w) (i : Nat) {n : Nat} {x v : Value} {xs : List Value} (hi : L[i]? = some (.row x e sz n xs)) {cs : Array Bool} {ty : TypeId} {k : Value → World → Prop}
    (hv : v.cells.size = sz) (h1 : ∀ u ∈ v.cells.toList, u.oneCell' = true) (hmax : n + 1 ≤ maxLen) (hby : (n + 1) * by_ ≤ 140737488355328) (h : ∀ x' W, St w0 (L.set i (.row x' e sz (n + 1) (xs ++ v.cells.toList))) W → k x' W) :
    kBuildS ⟨P, X, false⟩ w t 1 #[(0, v)] fun y W => kBlt ⟨P, X, false⟩ W .append #[t, t] ty cs #[x, y] k := by
  refine kBuildS_st E hS [v] rfl rfl (by omega) (by omega) (by simp [hv]) fun y W hS => ?_
  have e1 : flat [v] = v.cells.toList := by simp [flat]
  rw [e1] at hS
  refine kAppRow_st E hS i L.length (at_l hi) at_r h1 hmax hby fun x' W hS => h x' W ?_
  rw [set_l _ hi] at hS
  exact hS.init
end Go.L
namespace Go.L
open Go Go.RowKit
set_option linter.unusedSimpArgs false
set_option linter.unusedVariables false

/-- Something that was there already comes under watch. -/
theorem St.adopt {w0 W : World} {L : List Own} (h : St w0 L W) {o : Own} (ho : o.holds w0.heap.size W) (hne : ∀ p ∈ L, p.blk = none ∨ p.blk ≠ o.blk) : St w0 (L ++ [o]) W := by
  refine ⟨h.below, fun p hp => ?_, fun i j a b ha hb hij => ?_⟩
  · rcases List.mem_append.1 hp with hp | hp
    · exact h.all p hp
    · simp at hp; subst hp; exact ho
  · have key : ∀ (i : Nat) (a : Own), (L ++ [o])[i]? = some a → (i < L.length ∧ L[i]? = some a) ∨ (i = L.length ∧ a = o) := by
      intro i a ha
      by_cases hi : i < L.length
      · rw [List.getElem?_append_left hi] at ha; exact .inl ⟨hi, ha⟩
      · have hlt := (List.getElem?_eq_some_iff.1 ha).1
        simp at hlt
        have : i = L.length := by omega
        subst this
        simp at ha
        exact .inr ⟨rfl, ha.symm⟩
    rcases key i a ha with ⟨_, ha'⟩ | ⟨hi, hao⟩ <;> rcases key j b hb with ⟨_, hb'⟩ | ⟨hj, hbo⟩
    · exact h.apart i j a b ha' hb' hij
    · rw [hbo]; exact hne a (List.mem_of_getElem? ha')
    · rw [hao]
      rcases hne b (List.mem_of_getElem? hb') with h1 | h1
      · cases hk : o.blk with
        | none => exact .inl rfl
        | some k => exact .inr (by rw [h1]; simp)
      · exact .inr (Ne.symm h1)
    · exact absurd (hi.trans hj.symm) hij
theorem ownsRow_rebase {W : World} {a b : Nat} {e : TypeId} {sz n : Nat} {x : Value} {xs : List Value} (h : W.ownsRow a e sz x n xs) (hb : b ≤ a) : W.ownsRow b e sz x n xs := ⟨h.1, h.2.imp id fun ⟨g, cap, cur, h1, h2, h3⟩ => ⟨g, cap, cur, h1, Nat.le_trans hb h2, h3⟩⟩
/-- What a call has made. -/
theorem St.made {w0 w W : World} {L : List Own} (hS : St w0 L w) (hB : Below w.heap.size w W) {x : Value} {e : TypeId} {sz n : Nat} {xs : List Value} (ho : W.ownsRow w.heap.size e sz x n xs) : St w0 (L ++ [.row x e sz n xs]) W :=
  hS.push (grown_of_below hB) (ownsRow_rebase ho hS.size) fun k hk => (World.ownsRow.lt ho k hk).1
theorem St.pw {w0 W : World} {L : List Own} (h : St w0 L W) : L.Pairwise (fun a b => a.blk = none ∨ a.blk ≠ b.blk) := by
  rw [List.pairwise_iff_getElem]
  intro i j hi hj hij
  exact h.apart i j _ _ (List.getElem?_eq_getElem hi) (List.getElem?_eq_getElem hj) (by omega)
theorem St.ofPw {w0 W : World} {L : List Own} (hb : Below w0.heap.size w0 W) (ha : ∀ o ∈ L, o.holds w0.heap.size W) (hp : L.Pairwise (fun a b => a.blk = none ∨ a.blk ≠ b.blk)) : St w0 L W := by
  have hsym : ∀ a b : Own, (a.blk = none ∨ a.blk ≠ b.blk) → (b.blk = none ∨ b.blk ≠ a.blk) := fun a b h => by
    rcases h with h | h
    · cases hbb : b.blk with
      | none => exact .inl rfl
      | some k => exact .inr (by rw [h]; simp)
    · exact .inr (Ne.symm h)
  refine ⟨hb, ha, fun i j a b hia hjb hij => ?_⟩
  rw [List.pairwise_iff_getElem] at hp
  obtain ⟨hi, rfl⟩ := List.getElem?_eq_some_iff.1 hia
  obtain ⟨hj, rfl⟩ := List.getElem?_eq_some_iff.1 hjb
  rcases Nat.lt_or_ge i j with h | h
  · exact hp i j hi hj h
  · exact hsym _ _ (hp j i hj hi (by omega))
theorem St.perm {w0 W : World} {L L' : List Own} (h : St w0 L W) (hp : L.Perm L') : St w0 L' W :=
  St.ofPw h.below (fun o ho => h.all o (hp.mem_iff.2 ho)) (h.pw.perm hp (fun {a b} h => by
    rcases h with h | h
    · cases hbb : b.blk with
      | none => exact .inl rfl
      | some k => exact .inr (by rw [h]; simp)
    · exact .inr (Ne.symm h)))
theorem St.sub {w0 W : World} {L L' : List Own} (h : St w0 L W) (hs : L'.Sublist L) : St w0 L' W := St.ofPw h.below (fun o ho => h.all o (hs.subset ho)) (h.pw.sublist hs)
/-- What a call has made, by the list. -/
theorem Own.rebase {B B' : Nat} {W : World} {o : Own} (h : o.holds B W) (hB : B' ≤ B) : o.holds B' W := by
  cases o with
  | bx b t cs => exact ⟨Nat.le_trans hB h.1, h.2⟩
  | row x e sz n xs => exact ownsRow_rebase h hB
  | ob b o => exact ⟨Nat.le_trans hB h.1, h.2⟩
theorem St.join {w0 w W : World} {L M : List Own} (h : St w0 L w) (k : St w M W) : St w0 (L ++ M) W := by
  have h' := h.bel k.below
  refine St.ofPw h'.below (fun o ho => ?_) (List.pairwise_append.2 ⟨h.pw, k.pw, fun a ha b hb => ?_⟩)
  · rcases List.mem_append.1 ho with ho | ho
    · exact h'.all o ho
    · exact Own.rebase (k.all o ho) h.size
  · cases hab : a.blk with
    | none => exact .inl rfl
    | some i =>
      right
      intro e
      have h1 := (Own.lt (h.all a ha) i hab).2
      have h2 := (Own.lt (k.all b hb) i e.symm).1
      omega
theorem St.front {w0 W : World} {L : List Own} {o : Own} (h : St w0 (L ++ [o]) W) : St w0 (o :: L) W := h.perm (List.perm_append_singleton o L)
theorem St.tail {w0 W : World} {L : List Own} {o : Own} (h : St w0 (o :: L) W) : St w0 L W := h.sub (List.sublist_cons_self _ _)
end Go.L
namespace Go.L
open Go Go.RowKit Go.ChangeShapes Go.WideShapes
set_option linter.unusedVariables false

theorem exists_list {α : Type} {n : Nat} {p : Nat → α → Prop} (h : ∀ i, i < n → ∃ r, p i r) : ∃ l : List α, l.length = n ∧ ∀ i r, l[i]? = some r → p i r := by
  induction n with
  | zero => exact ⟨[], rfl, by simp⟩
  | succ n ih =>
    obtain ⟨l, hl, hp⟩ := ih (fun i hi => h i (by omega))
    obtain ⟨r, hr⟩ := h n (by omega)
    refine ⟨l ++ [r], by simp [hl], fun i x hx => ?_⟩
    by_cases hi : i < l.length
    · rw [List.getElem?_append_left hi] at hx; exact hp i x hx
    · have := (List.getElem?_eq_some_iff.1 hx).1
      have : i = l.length := by simp at this; omega
      subst this
      simp at hx; subst hx; rw [hl]; exact hr

theorem rangeAt_flat {w : World} {b sz : Nat} : ∀ (vs : List Value) (o : Nat), (∀ v ∈ vs, v.cells.size = sz) → (∀ i v, vs[i]? = some v → w.rangeAt b (o + i * sz) v.cells.toList) → w.rangeAt b o (vs.flatMap (·.cells.toList))
  | [], o, _, _ => by intro j v hj; simp at hj
  | x :: xs, o, hs, h => by
    have hx : x.cells.toList.length = sz := by simpa using hs x (List.mem_cons_self ..)
    have ih := rangeAt_flat xs (o + sz) (fun v hv => hs v (List.mem_cons_of_mem _ hv)) (fun i v hv => by
      have := h (i + 1) v (by simpa using hv)
      rwa [show o + (i + 1) * sz = o + sz + i * sz by rw [Nat.succ_mul]; omega] at this)
    intro j v hj
    rw [List.flatMap_cons] at hj
    by_cases hjl : j < x.cells.toList.length
    · rw [List.getElem?_append_left hjl] at hj
      have := h 0 x (by simp) j v hj
      simpa using this
    · rw [List.getElem?_append_right (by omega)] at hj
      have := ih (j - x.cells.toList.length) v hj
      rwa [show o + sz + (j - x.cells.toList.length) = o + j by omega] at this

theorem mapM_get {α β : Type} {f : α → Option β} : ∀ {l : List α} {r : List β}, l.mapM f = some r → r.length = l.length ∧ ∀ (i : Nat) (a : α), l[i]? = some a → ∃ b : β, f a = some b ∧ r[i]? = some b := by
  intro l r h
  exact ⟨mapM_some_length h, fun i a ha => by
    have := mapM_some_get h i a ha
    have hl := mapM_some_length h
    have hi := (List.getElem?_eq_some_iff.1 ha).1
    exact ⟨r[i], by rw [this]; simp [hl, hi], by simp [hl, hi]⟩⟩

theorem open_sl {H : Type} {enc : TypeId × Value → H} {P : Program} {W : World} {base : Nat} {α : Type} (mk : α → Value) (ok : α → Prop) {t e : TypeId} {sz : Nat} (ht : P.underlying t = some (.slice e)) (hc : P.cellsOf e = sz) (hsz : 0 < sz) (hmk : ∀ r, (mk r).cells.size = sz)
    (hel : ∀ (n : Nat) (c1 : List Value) (y : DataW H × List MemPlace), DataW.trod enc P W 0 (fun _ => true) true n e c1 = some y → ∃ r, c1 = (mk r).cells.toList ∧ ok r)
    {v : Value} {d : DataW H} {p : List MemPlace} (hval : Value.okWide P W .any base t v) (h : DataW.Trod enc P W 0 (fun _ => true) true t v d p) :
    ∃ (a : Option Addr) (l : List α) (cp : Nat), v = .slice a l.length cp ∧ Sl W a sz (l.map mk) ∧ (∀ r ∈ l, ok r) ∧ l.length ≤ cp ∧ cp ≤ 9223372036854775807 := by
  obtain ⟨a0, len, cap, rfl⟩ := okWide_slice ht hval
  obtain ⟨fuel, hf⟩ := h
  have hcs : (Value.slice a0 len cap).cells.toList = [.slice a0 len cap] := rfl
  rw [hcs] at hf
  rcases DataW.trod_slice ht hf with ⟨h1, _⟩ | ⟨a, len', cap', elems, rest, n, _, h1, _, _, hl, hm, hlen, hE, _⟩
  · simp only [List.cons.injEq, Value.slice.injEq, and_true] at h1
    obtain ⟨rfl, rfl, rfl⟩ := h1
    exact ⟨none, [], 0, rfl, Sl.nil _ _, by simp, by simp, by omega⟩
  · simp only [List.cons.injEq, Value.slice.injEq, and_true] at h1
    obtain ⟨rfl, rfl, rfl⟩ := h1
    rw [hc] at hE
    have key : ∀ i, i < len → ∃ r : α, (∀ j u, (mk r).cells.toList[j]? = some u → W.cell? ((a.add (i * sz)).add j) = some u) ∧ ok r := by
      intro i hi
      have h2 := hE i hi
      rw [show elems[i]? = some elems[i] by simp [hlen, hi]] at h2
      simp only [Option.bind_eq_some_iff] at h2
      obtain ⟨c1, hc1, hy⟩ := h2
      obtain ⟨r, rfl, hr⟩ := hel _ _ _ hy
      refine ⟨r, fun j u hj => ?_, hr⟩
      unfold World.cells? at hc1
      split at hc1
      · have hjl := (List.getElem?_eq_some_iff.1 hj).1
        have hjs : j < sz := by simpa [hmk] using hjl
        obtain ⟨b, hb, hb2⟩ := (mapM_get hc1).2 j j (by simp [hjs])
        rw [hj] at hb2; cases hb2; exact hb
      · cases hc1
    obtain ⟨l, hll, hlp⟩ := exists_list key
    refine ⟨some a, l, cap, by rw [hll], ⟨fun v hv => ?_, ?_⟩, fun r hr => ?_, by rw [hll]; exact hl, by simpa [maxLen] using hm⟩
    · obtain ⟨r, _, rfl⟩ := List.mem_map.1 hv; exact hmk r
    · by_cases hl0 : len = 0
      · left; have : l = [] := List.eq_nil_of_length_eq_zero (by omega); rw [this]; rfl
      · right
        obtain ⟨b, off, spot⟩ := a
        have hget : ∀ i (hi : i < l.length), ∀ j u, (mk l[i]).cells.toList[j]? = some u → W.cell? ((Addr.add ⟨b, off, spot⟩ (i * sz)).add j) = some u := fun i hi => (hlp i l[i] (by simp [hi])).1
        have h0 := hget 0 (by omega) 0 _ (List.getElem?_eq_getElem (by simpa [hmk] using hsz))
        have hspot : spot = none := by
          have := World.cell?_spot h0
          simpa [Addr.add] using this
        subst hspot
        have hb : b < W.heap.size := by
          simp only [Nat.zero_mul, Addr.add_mid] at h0
          unfold World.cell? at h0
          cases hh : W.heap[b]? with
          | none => simp [hh] at h0
          | some o => exact (Array.getElem?_eq_some_iff.1 hh).1
        refine ⟨b, off, rfl, hb, rangeAt_flat _ off (fun v hv => by obtain ⟨r, _, rfl⟩ := List.mem_map.1 hv; exact hmk r) fun i v hv j u hj => ?_⟩
        rw [List.getElem?_map] at hv
        cases hr : l[i]? with
        | none => rw [hr] at hv; cases hv
        | some r =>
          rw [hr] at hv; cases hv
          obtain ⟨hi, hr2⟩ := List.getElem?_eq_some_iff.1 hr
          have := hget i hi j u (by rw [hr2]; exact hj)
          simpa [Addr.add_mid] using this
    · obtain ⟨i, hi⟩ := List.mem_iff_getElem?.1 hr
      exact (hlp i r hi).2

theorem below_trodAll {H : Type} {enc : TypeId × Value → H} {P : Program} (hl : laidOutB P = true) {W W' : World} (hb : Below W.heap.size W W') :
    ∀ {ts : List TypeId} {vs : List Value} {ds : List (DataW H)} {p : List MemPlace}, (∀ t ∈ ts, P.readableRec t = true ∧ t < P.types.size) → (∀ x ∈ p, x.block < W.heap.size) → DataW.TrodAll enc P W 0 (fun _ => true) true ts vs ds p →
      DataW.TrodAll enc P W' 0 (fun b => decide (b < W.heap.size)) true ts vs ds p
  | [], _, _, _, _, _, h => by
    obtain ⟨rfl, rfl, rfl⟩ := trodAll_nil h
    exact trodAll_mk0
  | t :: ts, _, _, _, hr, hlt, h => by
    obtain ⟨v, vs1, d, ds1, a, b, rfl, rfl, rfl, h1, h2⟩ := trodAll_cons h
    have ht := hr t (List.mem_cons_self ..)
    exact trodAll_cons_mk (Below.trod hl ht.1 ht.2 h1 hb (fun x hx => hlt x (by simp [hx]))) (below_trodAll hl hb (fun t h => hr t (List.mem_cons_of_mem _ h)) (fun x hx => hlt x (by simp [hx])) h2)

/-- A LAW's POST: it returns true, and below the heap's old size nothing has turned. -/
theorem law_post {H : Type} {enc : TypeId × Value → H} {P : Program} (hl : laidOutB P = true) {f : Func} {s : ChangeSpec} {W W' : World} {args : Array Value} {ds gs : List (DataW H)} {before : List MemPlace} {tb : TypeId} (hv : s.vars = [])
    (hfn : s.fn H (ds ++ gs) = { results := [.lit (.bool true)], args := ds }) (hres : f.resultTypes = #[tb]) (htb : P.underlying tb = some .bool) (hr : f.params.toList.all (fun t => P.readableRec t && decide (t < P.types.size)) = true)
    (hW : DataW.Whole enc P f.params.toList s.vars false W args.toList ds gs before) (hb : Below W.heap.size W W') : s.post enc P f false true false false W args (.bool true) W' := by
  have hlt := hW.lt
  have hW' := hW
  obtain ⟨p, q, hA0, hV, hpq, hfz, hnd⟩ := hW
  rw [hv] at hV
  obtain ⟨rfl, rfl⟩ := trodVars_none hV
  refine ⟨ds, [], before, [], p, [], hW', ?_, ?_, ?_, hb.frame _, fun h => by cases h⟩
  · rw [hfn, hres]; exact trodAll_mk1 (shut_bool htb _)
  · rw [hfn]
    refine below_trodAll hl hb (fun t ht => ?_) (fun x hx => hlt x (by rw [hpq]; simp [hx])) hA0
    have := List.all_eq_true.1 hr t ht
    simpa using this
  · rw [hfn, hv]; rfl
end Go.L
namespace Go.L
open Go Go.RowKit Go.Proofs Go.ChangeShapes Go.WideShapes Go.ChangeAt
set_option linter.unusedSimpArgs false
set_option linter.unusedVariables false
/-- A contract that is handed what the listed variables hold, and the shape of the world. -/
theorem returnsInHanded_both {H : Type} {enc : TypeId × Value → H} {a : Assume} {C : Checked} {os : Os} {f : FuncId} {fn : Func} {s : ChangeSpec} {conds : List PathCond} {apart fresh handsOn again : Bool} {X : World → Array Value → Prop}
    (hX : ∀ (w w' : World) (args : Array Value), w.heap = w'.heap → X w args → X w' args)
    (own : ownKnob C.prog.godebug = none) (started : os.Started) (noInit : C.prog.inits.idxOf? f = none) (hfn : C.prog.funcs[f]? = some fn)
    (witness : ∃ (w : World) (tape : Tape) (i : Input), w.os = os ∧ (w.forCall tape i).Shaped C.prog ∧ i.vars = [] ∧ Input.okWide C.prog (w.forCall tape i) .any w.heap.size f i ∧
      ((s.pre enc C.prog fn conds apart (w.forCall tape i).memory i.args ∧ X (w.forCall tape i).memory i.args) ∧ sizedMet enc C.prog fn (OpenSpec.ofChange s) apart (w.forCall tape i).memory i.args) ∧ a.holds C.prog (lone (Frame.enter C.prog f i.args .normal) [] (w.forCall tape i)))
    (contract : ∀ (W : World) (base : Nat) (args : Array Value) (ds gs : List (DataW H)) (before : List MemPlace),
      (∀ (j : Nat) t v, fn.params[j]? = some t → args[j]? = some v → Value.okWide C.prog W .any base t v) →
      DataW.Whole enc C.prog fn.params.toList s.vars apart W args.toList ds gs before →
      W.ShapedOpen C.prog → X W args →
      Calls C.prog f args W fun e W' => ∃ v, e = .returned v ∧ s.post enc C.prog fn apart fresh handsOn again W args v W') :
    ReturnsInHanded a C os f .any (fun w args => (s.pre enc C.prog fn conds apart w args ∧ X w args) ∧ sizedMet enc C.prog fn (OpenSpec.ofChange s) apart w args) (s.post enc C.prog fn apart fresh handsOn again) := by
  refine returnsInHanded_of_calls own started noInit witness ?_
  intro w tape i _ hsh _ hok hpre hholds
  obtain ⟨_, _, _, fn', hfn', _, _, _, _, hval⟩ := hok
  have e : fn' = fn := Option.some.inj (hfn'.symm.trans hfn)
  subst e
  obtain ⟨⟨⟨ds, gs, before, hw, hc⟩, hx⟩, hz⟩ := hpre
  have hw' := DataW.Whole.of_heap (w' := w.forCall tape i) (by rfl) hw
  refine (contract (w.forCall tape i) w.heap.size i.args ds gs before hval hw' hsh (hX _ _ _ (by rfl) hx)).mono fun e W' ⟨v, he, hp⟩ => ?_
  subst he
  exact ChangeSpec.post_blind hp
end Go.L
