/- Texts joined by the library: no condition but those that each states. -/
import Derived.Test.YtnmefofmegfliaaGreatDoorA2
import Derived.Test.YtnmefofmegfliaaGreatDoorSH
import Derived.Lib.Builder
import Derived.Laws.Externs
import Derived.Test.YtnmefofmegfliaaGreatDoorE5
set_option linter.unusedVariables false
set_option linter.unusedSimpArgs false
set_option linter.unusedSectionVars false
set_option maxRecDepth 100000
namespace Go.L
open Go Go.RowKit Go.Proofs
set_option linter.unusedSimpArgs false
set_option linter.unusedVariables false
/-- (*strings.Builder).copyCheck -/
def vc412 (b : Value) (R : Ending → World → Prop) (w : World) : Prop :=
 kNil (cR Tryz.prog R) w b fun v3 w_1 =>
 kFa (cR Tryz.prog R) w_1 362 v3 0 fun v4 w_2 =>
 kLoad (cR Tryz.prog R) w_2 359 v4 fun v5 w_3 =>
 kEq (cR Tryz.prog R) w_3 .eql 359 (.tmp 5) (.const (.pointer none)) v5 (.pointer none) fun v6 w_4 =>
 kIf v6 (
 kConv (cR Tryz.prog R) w_4 359 481 b fun v9 w_5 =>
 kCall (cR Tryz.prog R) w_5 466 #[v9] fun v10 w_6 =>
 kConv (cR Tryz.prog R) w_6 481 359 v10 fun v11 w_7 =>
 kNil (cR Tryz.prog R) w_7 b fun v12 w_8 =>
 kFa (cR Tryz.prog R) w_8 362 v12 0 fun v13 w_9 =>
 kStore (cR Tryz.prog R) w_9 359 v13 v11 fun w_10 =>
 R (.returned (.tuple #[])) w_10) (
 kNil (cR Tryz.prog R) w_4 b fun v15 w_11 =>
 kFa (cR Tryz.prog R) w_11 362 v15 0 fun v16 w_12 =>
 kLoad (cR Tryz.prog R) w_12 359 v16 fun v17 w_13 =>
 kEq (cR Tryz.prog R) w_13 .neq 359 (.tmp 17) (.tmp 18) v17 b fun v19 w_14 =>
 kIf v19 (
 False) (
 R (.returned (.tuple #[])) w_14))
theorem c412 (b : Value) (R : Ending → World → Prop) (w : World) (h : vc412 b R w) : Calls Tryz.prog 412 #[b] w R :=
  calls_of_vc (A := { loops := [], pars := [] }) (Eq.mpr (show FnVc Tryz.prog { loops := [], pars := [] } 20 412 [b] R w = vc412 b R w by kernel_rfl) h)

/-- (*strings.Builder).WriteString -/
def vc327 (b : Value) (s : ByteArray) (R : Ending → World → Prop) (w : World) : Prop :=
 kCall (cR Tryz.prog R) w 412 #[b] fun v7 w_1 =>
 kNil (cR Tryz.prog R) w_1 b fun v10 w_2 =>
 kFa (cR Tryz.prog R) w_2 362 v10 1 fun v11 w_3 =>
 kLoad (cR Tryz.prog R) w_3 360 v11 fun v12 w_4 =>
 kBlt (cR Tryz.prog R) w_4 .append #[360, 9] 360 #[false, false] #[v12, (.string s)] fun v14 w_5 =>
 kNil (cR Tryz.prog R) w_5 b fun v15 w_6 =>
 kFa (cR Tryz.prog R) w_6 362 v15 1 fun v16 w_7 =>
 kStore (cR Tryz.prog R) w_7 360 v16 v14 fun w_8 =>
 kBlt (cR Tryz.prog R) w_8 .len #[9] 3 #[false] #[(.string s)] fun v18 w_9 =>
 R (.returned (.tuple #[v18, .nilIface])) w_9
theorem c327 (b : Value) (s : ByteArray) (R : Ending → World → Prop) (w : World) (h : vc327 b s R w) : Calls Tryz.prog 327 #[b, (.string s)] w R :=
  calls_of_vc (A := { loops := [], pars := [] }) (Eq.mpr (show FnVc Tryz.prog { loops := [], pars := [] } 19 327 [b, (.string s)] R w = vc327 b s R w by kernel_rfl) h)

/-- strings.Join -/
def vc193 (elems : Option Addr) (elemsn : Nat) (elemsc : Nat) (sep : ByteArray) (R : Ending → World → Prop) (w : World) : Prop :=
 kBlt (cR Tryz.prog R) w .len #[42] 3 #[false] #[(.slice elems elemsn elemsc)] fun v12 w_1 =>
 kEq (cR Tryz.prog R) w_1 .eql 3 (.tmp 12) (.const (.int .i64 0)) v12 (.int .i64 0) fun v14 w_2 =>
 kIf v14 (
 R (.returned (.string ⟨#[]⟩)) w_2) (
 kEq (cR Tryz.prog R) w_2 .eql 3 (.tmp 12) (.const (.int .i64 1)) v12 (.int .i64 1) fun v16 w_3 =>
 kIf v16 (
 kIa (cR Tryz.prog R) w_3 42 (.slice elems elemsn elemsc) (.int .i64 0) fun v18 w_4 =>
 kLoad (cR Tryz.prog R) w_4 9 v18 fun v19 w_5 =>
 R (.returned v19) w_5) (
 kJn (fun J =>
 kBlt (cR Tryz.prog R) w_3 .len #[9] 3 #[false] #[(.string sep)] fun v21 w_35 =>
 kBin (cR Tryz.prog R) w_35 .gtr 3 v21 (.int .i64 0) fun v22 w_36 =>
 kIf v22 (
 kJn (fun J_2 =>
 kBlt (cR Tryz.prog R) w_36 .len #[9] 3 #[false] #[(.string sep)] fun v24 w_43 =>
 kBlt (cR Tryz.prog R) w_43 .len #[42] 3 #[false] #[(.slice elems elemsn elemsc)] fun v26 w_44 =>
 kBin (cR Tryz.prog R) w_44 .sub 3 v26 (.int .i64 1) fun v27 w_45 =>
 kBin (cR Tryz.prog R) w_45 .quo 3 (.int .i64 9223372036854775807) v27 fun v28 w_46 =>
 kBin (cR Tryz.prog R) w_46 .geq 3 v24 v28 fun v29 w_47 =>
 kIf v29 (
 kMkI (cR Tryz.prog R) w_47 9 (.string ⟨#[115, 116, 114, 105, 110, 103, 115, 58, 32, 74, 111, 105, 110, 32, 111, 117, 116, 112, 117, 116, 32, 108, 101, 110, 103, 116, 104, 32, 111, 118, 101, 114, 102, 108, 111, 119]⟩) fun v30 w_48 =>
 kPanic (cR Tryz.prog R) w_48 v30) (
 kD [] [] (J_2 [] w_47))) (fun cs_4 w_37 => ∀ ds_4 : List Value,
 kBlt (cR Tryz.prog R) w_37 .len #[9] 3 #[false] #[(.string sep)] fun v33 w_38 =>
 kBlt (cR Tryz.prog R) w_38 .len #[42] 3 #[false] #[(.slice elems elemsn elemsc)] fun v35 w_39 =>
 kBin (cR Tryz.prog R) w_39 .sub 3 v35 (.int .i64 1) fun v36 w_40 =>
 kBin (cR Tryz.prog R) w_40 .mul 3 v33 v36 fun v37 w_41 =>
 kBin (cR Tryz.prog R) w_41 .add 3 (.int .i64 0) v37 fun v38 w_42 =>
 kD [] [] (J [v38] w_42))) (
 kD [] [] (J [(.int .i64 0)] w_36))) (fun cs w_6 => ∀ ds : List Value,
 (fun j5 =>
 kBlt (cR Tryz.prog R) w_6 .len #[42] 3 #[false] #[(.slice elems elemsn elemsc)] fun v40 w_7 =>
 kLoopF [j5, (.int .i64 0)] w_7 fun cs_1 ds_1 w_8 N =>
 (fun x5 x41 =>
 kBin (cR Tryz.prog R) w_8 .lss 3 x41 v40 fun v42 w_9 =>
 kIf v42 (
 kIa (cR Tryz.prog R) w_9 42 (.slice elems elemsn elemsc) x41 fun v43 w_10 =>
 kLoad (cR Tryz.prog R) w_10 9 v43 fun v44 w_11 =>
 kJn (fun J_1 =>
 kBlt (cR Tryz.prog R) w_11 .len #[9] 3 #[false] #[v44] fun v46 w_16 =>
 kBin (cR Tryz.prog R) w_16 .sub 3 (.int .i64 9223372036854775807) x5 fun v48 w_17 =>
 kBin (cR Tryz.prog R) w_17 .gtr 3 v46 v48 fun v49 w_18 =>
 kIf v49 (
 kMkI (cR Tryz.prog R) w_18 9 (.string ⟨#[115, 116, 114, 105, 110, 103, 115, 58, 32, 74, 111, 105, 110, 32, 111, 117, 116, 112, 117, 116, 32, 108, 101, 110, 103, 116, 104, 32, 111, 118, 101, 114, 102, 108, 111, 119]⟩) fun v50 w_19 =>
 kPanic (cR Tryz.prog R) w_19 v50) (
 kD [] [] (J_1 [] w_18))) (fun cs_2 w_12 => ∀ ds_2 : List Value,
 kBlt (cR Tryz.prog R) w_12 .len #[9] 3 #[false] #[v44] fun v53 w_13 =>
 kBin (cR Tryz.prog R) w_13 .add 3 x5 v53 fun v54 w_14 =>
 kBin (cR Tryz.prog R) w_14 .add 3 x41 (.int .i64 1) fun v55 w_15 =>
 kD [] [] (N [v54, v55] w_15))) (
 kAlloc (cR Tryz.prog R) w_9 362 fun v8 w_20 =>
 kCall (cR Tryz.prog R) w_20 326 #[v8, x5] fun v57 w_21 =>
 kIa (cR Tryz.prog R) w_21 42 (.slice elems elemsn elemsc) (.int .i64 0) fun v59 w_22 =>
 kLoad (cR Tryz.prog R) w_22 9 v59 fun v60 w_23 =>
 kCall (cR Tryz.prog R) w_23 327 #[v8, v60] fun v61 w_24 =>
 kSl (cR Tryz.prog R) w_24 42 (.slice elems elemsn elemsc) (some (.int .i64 1)) none none fun v63 w_25 =>
 kBlt (cR Tryz.prog R) w_25 .len #[42] 3 #[false] #[v63] fun v64 w_26 =>
 kLoopF [(.int .i64 0)] w_26 fun cs_3 ds_3 w_27 N_1 =>
 (fun x65 =>
 kBin (cR Tryz.prog R) w_27 .lss 3 x65 v64 fun v66 w_28 =>
 kIf v66 (
 kIa (cR Tryz.prog R) w_28 42 v63 x65 fun v67 w_29 =>
 kLoad (cR Tryz.prog R) w_29 9 v67 fun v68 w_30 =>
 kCall (cR Tryz.prog R) w_30 327 #[v8, (.string sep)] fun v70 w_31 =>
 kCall (cR Tryz.prog R) w_31 327 #[v8, v68] fun v72 w_32 =>
 kBin (cR Tryz.prog R) w_32 .add 3 x65 (.int .i64 1) fun v73 w_33 =>
 kD [] [] (N_1 [v73] w_33)) (
 kCall (cR Tryz.prog R) w_28 328 #[v8] fun v74 w_34 =>
 R (.returned v74) w_34)) (cs_3.getD 0 undef))) (cs_1.getD 0 undef) (cs_1.getD 1 undef)) (cs.getD 0 undef))))
theorem c193 (elems : Option Addr) (elemsn : Nat) (elemsc : Nat) (sep : ByteArray) (R : Ending → World → Prop) (w : World) (h : vc193 elems elemsn elemsc sep R w) : Calls Tryz.prog 193 #[(.slice elems elemsn elemsc), (.string sep)] w R :=
  calls_of_vc (A := { loops := [(1000016, []), (3, [65]), (1, [5, 41]), (1000011, [5]), (1000010, [])], pars := [] }) (Eq.mpr (show FnVc Tryz.prog { loops := [(1000016, []), (3, [65]), (1, [5, 41]), (1000011, [5]), (1000010, [])], pars := [] } 75 193 [(.slice elems elemsn elemsc), (.string sep)] R w = vc193 elems elemsn elemsc sep R w by kernel_rfl) h)

/-- Types of one cell. -/
def scalJ (t : TypeId) : Bool := t == 3 || t == 4 || t == 5 || t == 9 || t == 359 || t == 360 || t == 481
theorem scal_aggJ {t : TypeId} (h : scalJ t = true) (w : World) : (isAgg t).run Tryz.prog w = .ok false w := by
  simp only [scalJ, Bool.or_eq_true, beq_iff_eq] at h
  rcases h with (((((rfl | rfl) | rfl) | rfl) | rfl) | rfl) | rfl
  · exact Tryz.isAgg3 w
  · exact Tryz.isAgg4 w
  · exact Tryz.isAgg5 w
  · exact Tryz.isAgg9 w
  · exact Tryz.isAgg359 w
  · exact Tryz.isAgg360 w
  · exact Tryz.isAgg481 w
theorem scal_sizeJ {t : TypeId} (h : scalJ t = true) (w : World) : (sizeOf t).run Tryz.prog w = .ok 1 w := by
  simp only [scalJ, Bool.or_eq_true, beq_iff_eq] at h
  rcases h with (((((rfl | rfl) | rfl) | rfl) | rfl) | rfl) | rfl
  · exact Tryz.sizeOf3 w
  · exact Tryz.sizeOf4 w
  · exact Tryz.sizeOf5 w
  · exact Tryz.sizeOf9 w
  · exact Tryz.sizeOf359 w
  · exact Tryz.sizeOf360 w
  · exact Tryz.sizeOf481 w
theorem xLen85 {X : Chain → World → Prop} {q : Bool} {w : World} {k : Value → World → Prop} {ty : TypeId} {o : Option Addr} {n cp : Nat} {cs : Array Bool} (h : k (.int .i64 n) w) : kBlt ⟨Tryz.prog, X, q⟩ w .len #[42] ty cs #[.slice o n cp] k := kLen_sl (c := ⟨Tryz.prog, X, q⟩) Tryz.underlying42 h
theorem xIa85 {X : Chain → World → Prop} {q : Bool} {w : World} {k : Value → World → Prop} {b o n cp : Nat} {i : Nat} (hi : i < n) (h : k (.pointer (some ⟨b, o + i * 1, none⟩)) w) : kIa ⟨Tryz.prog, X, q⟩ w 42 (.slice (some ⟨b, o, none⟩) n cp) (.int .i64 i) k := kIa_sl (c := ⟨Tryz.prog, X, q⟩) Tryz.underlying42 Tryz.sizeOf9 hi h
theorem xSl85_l {X : Chain → World → Prop} {q : Bool} {w : World} {k : Value → World → Prop} {a : Option Addr} {n cp : Nat} {l : Nat} (h1 : l ≤ n) (h2 : n ≤ cp) (h : k (.slice (if cp = l then a else a.map (·.add (l * 1))) (n - l) (cp - l)) w) : kSl ⟨Tryz.prog, X, q⟩ w 42 (.slice a n cp) (some (.int .i64 l)) none none k :=
  ⟨kVal_pure (c := ⟨Tryz.prog, X, q⟩) (fun w' => by
    rw [run_sliceAt_slice w' 42 _ _ _ _ (elem_of Tryz.underlying42), run_slice_l w' 42 a n cp (elem_of Tryz.underlying42) .i64 l (by omega) (by omega)]
    rw [show Tryz.prog.elem 42 = 9 by simp [Program.elem, Tryz.underlying42], Tryz.sizeOf9]
    rfl) h⟩
def vInt (i : Int) : Value := .int .i64 i
theorem kIf_eqJ {a b : Int} {A B : Prop} (h1 : a = b → A) (h2 : a ≠ b → B) : kIf (.bool (a == b)) A B :=
  kIf_b (fun h => h1 (by simpa using h)) (fun h => h2 (by simpa using h))
theorem kLdJ {X : Chain → World → Prop} {q : Bool} {w0 w : World} {L : List Own} {k : Value → World → Prop} {t' : TypeId} (hS : St w0 L w) (i : Nat) {b : Nat} {t : TypeId} {cs : Array Value} (hi : L[i]? = some (.bx b t cs)) {off : Nat} {v : Value} (hv : cs[off]? = some v) (ht : scalJ t' = true) (h : k v w) :
    kLoad ⟨Tryz.prog, X, q⟩ w t' (.pointer (some ⟨b, off, none⟩)) k := kLoad_st (c := ⟨Tryz.prog, X, q⟩) hS i hi hv (scal_aggJ ht) h
theorem kLen9J {X : Chain → World → Prop} {q : Bool} {w : World} {k : Value → World → Prop} {ty : TypeId} {s : ByteArray} {cs : Array Bool} (h : k (.int .i64 s.size) w) : kBlt ⟨Tryz.prog, X, q⟩ w .len #[9] ty cs #[.string s] k := kLen_str (c := ⟨Tryz.prog, X, q⟩) Tryz.underlying9 h
theorem kStJ {X : Chain → World → Prop} {w0 w : World} {L : List Own} {t' : TypeId} {k : World → Prop} (hS : St w0 L w) (i : Nat) {b : Nat} {t : TypeId} {cs : Array Value} (hi : L[i]? = some (.bx b t cs)) {off : Nat} (hoff : off < cs.size) {v : Value} (hv : v.cells = #[v]) (h1 : v.oneCell' = true) (ht : scalJ t' = true)
    (h : ∀ W, St w0 (L.set i (.bx b t (cs.setIfInBounds off v))) W → k W) : kStore ⟨Tryz.prog, X, false⟩ w t' (.pointer (some ⟨b, off, none⟩)) v k := kStore_st hS i hi hoff hv h1 (scal_sizeJ ht) h
theorem kJn_invJ {f : (List Value → World → Prop) → Prop} {a : List Value → World → Prop} (I : List Value → World → Prop) (ha : ∀ cs W, I cs W → a cs W) (hf : ∀ J, (∀ cs W, I cs W → J cs W) → f J) : kJn f a := ⟨hf _ ha⟩
theorem wrap_idJ {a : Int} (h0 : -9223372036854775808 ≤ a) (h1 : a ≤ 9223372036854775807) : IntKind.i64.wrap a = a := by
  simp [IntKind.wrap, IntKind.bits, IntKind.signed]; omega
theorem kLdS {X : Chain → World → Prop} {q : Bool} {w : World} {t : TypeId} {a : Addr} {v : Value} {k : Value → World → Prop} (ht : scalJ t = true) (hv : w.cell? a = some v) (h : k v w) : kLoad ⟨Tryz.prog, X, q⟩ w t (.pointer (some a)) k := kLoad_cell (c := ⟨Tryz.prog, X, q⟩) (scal_aggJ ht) hv h
def vB (b : Nat) : Value := .int .u8 b
theorem St.sl {w0 w : World} {L : List Own} (hS : St w0 L w) (i : Nat) {a : Option Addr} {n cp sz : Nat} {e : TypeId} {vs : List Value} (hi : L[i]? = some (.row (.slice a n cp) e sz n (flat vs))) (hv : ∀ v ∈ vs, v.cells.size = sz) (hn : vs.length = n) : Sl w a sz vs := by
  obtain ⟨a', cp', he, h⟩ := Sl.of_owns hv (hS.get i hi) hn
  cases he; exact h
theorem app_blk {w : World} {base n : Nat} {x x' : Value} {xs : List Value} {s : ByteArray} {ty : TypeId} {w' : World} (hown : w.ownsRow base 5 1 x n xs) (hm : n + s.size ≤ 140737488355328)
    (hr : (Builtin.append_ #[360, 9] ty #[x, .string s]).run Tryz.prog w = .ok x' w') (hnil : x' = .slice none 0 0 ↔ x = .slice none 0 0 ∧ s.size = 0) : x'.ownBlock = x.ownBlock ∨ ∀ k, x'.ownBlock = some k → w.heap.size ≤ k := by
  have hi := info_of (Tryz.typeInfo5 w)
  have hxl : xs.length = n := by simpa using hown.1
  rcases hown.2 with ⟨rfl, rfl⟩ | ⟨g, cap, cur, rfl, hbg, hg, hnc, hcm, hcs, htake⟩
  · by_cases h0 : s.size = 0
    · rw [hnil.2 ⟨rfl, h0⟩]; exact .inl rfl
    · right
      rw [run_append_nil_string (P := Tryz.prog) w 360 9 ty 5 _ (.int .u8 0) Tryz.underlying360 Tryz.underlying9 hi rfl s (by omega) (by omega) (by show _ * 1 ≤ _; omega)] at hr
      cases hr
      intro k hk; cases hk; exact Nat.le_refl _
  · by_cases hroom : n + s.size ≤ cap
    · left
      have hcs' : cur.size = cap := by simpa using hcs
      rw [Lib.run_append_room_string (P := Tryz.prog) w 360 9 ty 5 _ Tryz.underlying360 Tryz.underlying9 hi rfl g n cap cur hg s hroom (by omega)] at hr
      cases hr
      rfl
    · right
      rw [Lib.run_append_grow_string (P := Tryz.prog) w 360 9 ty 5 _ (.int .u8 0) Tryz.underlying360 Tryz.underlying9 hi rfl ⟨g, 0, none⟩ n cap xs (by rw [hxl]; exact (Nat.mul_one n).symm) (hown.cells (g := g) rfl) s (by omega) (by omega) (by show _ * 1 ≤ _; exact growslice_fits (by omega) (by omega))] at hr
      cases hr
      intro k hk; cases hk; exact Nat.le_refl _
theorem kAppStr_stP {P : Program} {X : Chain → World → Prop} {w w0 : World} {t u e : TypeId} {i : TypeInfo} (ht : P.underlying t = some (.slice e)) (hu : P.underlying u = some .string) (hi : P.info? e = some i) (hz : i.zero = some (.int .u8 0)) (hs : i.size = 1) (hby : i.bytes = 1)
    {L : List Own} (hS : St w0 L w) (j : Nat) {n : Nat} {x : Value} {xs : List Value} {s : ByteArray} (hj : L[j]? = some (.row x e 1 n xs)) {cs : Array Bool} {ty : TypeId} {k : Value → World → Prop} (hm : n + s.size ≤ 140737488355328)
    (hblk : ∀ x' w', (Builtin.append_ #[t, u] ty #[x, .string s]).run P w = .ok x' w' → (x' = .slice none 0 0 ↔ x = .slice none 0 0 ∧ s.size = 0) → x'.ownBlock = x.ownBlock ∨ ∀ k, x'.ownBlock = some k → w.heap.size ≤ k)
    (h : ∀ x' W, St w0 (L.set j (.row x' e 1 (n + s.size) (xs ++ Lib.strCells s))) W → k x' W) : kBlt ⟨P, X, false⟩ w .append #[t, u] ty cs #[x, .string s] k := by
  have hown : w.ownsRow w0.heap.size e 1 x n xs := hS.get j hj
  obtain ⟨x', w', hr, ho, hg, hnil⟩ := Lib.run_append_own_string (P := P) w w0.heap.size t u ty e i ht hu hi hz hs hby x n xs hown s (by simp [maxLen]; omega) hm hS.size
  have hb := hblk x' w' hr hnil
  refine ⟨?_⟩
  show kNext _ _ _
  simp only [builtin, Sem.run_bind, hr, Result.andThen_ok, Sem.run_pure]
  exact h x' w' (hS.set j hj hg ho hb)
theorem kAppStr_st {X : Chain → World → Prop} {w w0 : World} {L : List Own} (hS : St w0 L w) (i : Nat) {n : Nat} {x : Value} {xs : List Value} {s : ByteArray} (hi : L[i]? = some (.row x 5 1 n xs)) {cs : Array Bool} {ty : TypeId} {k : Value → World → Prop} (hm : n + s.size ≤ 140737488355328)
    (h : ∀ x' W, St w0 (L.set i (.row x' 5 1 (n + s.size) (xs ++ Lib.strCells s))) W → k x' W) : kBlt ⟨Tryz.prog, X, false⟩ w .append #[360, 9] ty cs #[x, .string s] k :=
  kAppStr_stP Tryz.underlying360 Tryz.underlying9 (info_of (Tryz.typeInfo5 w)) rfl rfl rfl hS i hi hm (fun x' w' hr hnil => app_blk (hS.get i hi) hm hr hnil) h
theorem row_cellsJ {base : Nat} {w : World} {e : TypeId} {sz n : Nat} {x : Value} {xs : List Value} (h : w.ownsRow base e sz x n xs) : x.cells = #[x] ∧ x.oneCell' = true := by
  rcases h.2 with ⟨rfl, _⟩ | ⟨g, cap, cur, rfl, _⟩ <;> exact ⟨rfl, rfl⟩
theorem kFa179_1 {X : Chain → World → Prop} {q : Bool} {w : World} {b o : Nat} {k : Value → World → Prop} (h : k (.pointer (some ⟨b, o + 1, none⟩)) w) : kFa ⟨Tryz.prog, X, q⟩ w 362 (.pointer (some ⟨b, o, none⟩)) 1 k :=
  kFa_i (c := ⟨Tryz.prog, X, q⟩) Tryz.underlying362 rfl (n := 0) Tryz.sizeOf360 h
theorem kFa179_0 {X : Chain → World → Prop} {q : Bool} {w : World} {b o : Nat} {k : Value → World → Prop} (h : k (.pointer (some ⟨b, o, none⟩)) w) : kFa ⟨Tryz.prog, X, q⟩ w 362 (.pointer (some ⟨b, o, none⟩)) 0 k :=
  kFa_i (c := ⟨Tryz.prog, X, q⟩) Tryz.underlying362 rfl (n := 0) Tryz.sizeOf359 h
theorem kEq_p {X : Chain → World → Prop} {q : Bool} {w : World} {k : Value → World → Prop} {ox oy : Operand} {a : Addr} (h : k (.bool false) w) : kEq ⟨Tryz.prog, X, q⟩ w .eql 359 ox oy (.pointer (some a)) (.pointer none) k :=
  ⟨kVal_pure (c := ⟨Tryz.prog, X, q⟩) (v := .bool false) (fun w' => by
    simp only [go_sem]
    show Sem.run Tryz.prog (do pure (.bool (← Op.equal 359 (.pointer (some a)) (.pointer none))) : Sem Value) w' = _
    have : (Op.equal 359 (.pointer (some a)) (.pointer none)).run Tryz.prog w' = .ok false w' := by
      unfold Op.equal Op.maxDepth Op.equalIn
      simp [run_underlying Tryz.underlying359]
    simp [this]) h⟩
theorem kNe_p {X : Chain → World → Prop} {q : Bool} {w : World} {k : Value → World → Prop} {ox oy : Operand} {a : Addr} (h : k (.bool false) w) : kEq ⟨Tryz.prog, X, q⟩ w .neq 359 ox oy (.pointer (some a)) (.pointer (some a)) k :=
  ⟨kVal_pure (c := ⟨Tryz.prog, X, q⟩) (v := .bool false) (fun w' => by
    simp only [go_sem]
    show Sem.run Tryz.prog (do pure (.bool !(← Op.equal 359 (.pointer (some a)) (.pointer (some a)))) : Sem Value) w' = _
    have : (Op.equal 359 (.pointer (some a)) (.pointer (some a))).run Tryz.prog w' = .ok true w' := by
      unfold Op.equal Op.maxDepth Op.equalIn
      simp [run_underlying Tryz.underlying359, sameAddr]
    simp [this]) h⟩
theorem check142 {w0 w : World} {L : List Own} (hS : St w0 L w) (i : Nat) {b : Nat} {v : Value} (hi : L[i]? = some (.bx b 362 #[.pointer (some ⟨b, 0, none⟩), v])) (R : Ending → World → Prop) (h : R (.returned (.tuple #[])) w) : Calls Tryz.prog 412 #[.pointer (some ⟨b, 0, none⟩)] w R := by
  refine c412 _ _ _ ?_
  unfold vc412
  exact kNil_p (kFa179_0 (kLoad_st hS i hi rfl (fun w => Tryz.isAgg359 w) (kEq_p (kIf_f (kNil_p (kFa179_0 (kLoad_st hS i hi rfl (fun w => Tryz.isAgg359 w) (kNe_p (kIf_f h)))))))))
theorem kEq_pnil {X : Chain → World → Prop} {q : Bool} {w : World} {k : Value → World → Prop} {ox oy : Operand} (h : k (.bool true) w) : kEq ⟨Tryz.prog, X, q⟩ w .eql 359 ox oy (.pointer none) (.pointer none) k :=
  ⟨kVal_pure (c := ⟨Tryz.prog, X, q⟩) (v := .bool true) (fun w' => by
    simp only [go_sem]
    show Sem.run Tryz.prog (do pure (.bool (← Op.equal 359 (.pointer none) (.pointer none))) : Sem Value) w' = _
    have : (Op.equal 359 (.pointer none) (.pointer none)).run Tryz.prog w' = .ok true w' := by
      unfold Op.equal Op.maxDepth Op.equalIn
      simp [run_underlying Tryz.underlying359]
    simp [this]) h⟩
theorem kNoEscP {P : Program} {X : Chain → World → Prop} {w : World} {k : Value → World → Prop} {x : Value} {f : FuncId} {fn : Func} (hf : P.funcs[f]? = some fn) (hname : (fn.name == "runtime.NumGoroutine") = false) (hb : fn.body.isNone = true) (hn : Extern.findNext fn = none) (he : Extern.find fn = some Extern.AbiNoEscape.same) (h : k x w) : kCall ⟨P, X, false⟩ w f #[x] k := ⟨by
  show kNext _ _ _
  rw [run_callFunc_extern hf hname hb hn (e := Extern.AbiNoEscape.same) he, Lib.run_noEscape]
  exact h⟩
theorem kNoEsc {X : Chain → World → Prop} {w : World} {k : Value → World → Prop} {x : Value} (h : k x w) : kCall ⟨Tryz.prog, X, false⟩ w 466 #[x] k := kNoEscP Tryz.func466 (by kernel_rfl) (by kernel_rfl) (by kernel_rfl) (by kernel_rfl) h
theorem kToUnsP {P : Program} {X : Chain → World → Prop} {w : World} {k : Value → World → Prop} {src dst t e : TypeId} {j : TypeInfo} {cells : Nat} {a : Addr} (hs : P.underlying src = some (.pointer t)) (hd : P.underlying dst = some .unsafePointer) (ht : P.info? t = some j) (hj : j.size ≠ 0)
    (hsh : w.shape? a.block = some (e, cells)) (hoff : a.off < cells) (h : k (.pointer (some a)) w) : kConv ⟨P, X, false⟩ w src dst (.pointer (some a)) k := ⟨kVal_do (Lib.run_to_unsafe w a hs hd ht hj hsh hoff) h⟩
theorem kFromUnsP {P : Program} {X : Chain → World → Prop} {w : World} {k : Value → World → Prop} {src dst u e : TypeId} {j : TypeInfo} {cells : Nat} {a : Addr} (hs : P.underlying src = some .unsafePointer) (hd : P.underlying dst = some (.pointer u)) (hu : P.info? u = some j)
    (hsh : w.shape? a.block = some (e, cells)) (hlies : liesAt P P.depth e (cells / P.cellsOf e) a.off u 1 = true) (h : k (.pointer (some a)) w) : kConv ⟨P, X, false⟩ w src dst (.pointer (some a)) k := ⟨kVal_do (Lib.run_from_unsafe w a hs hd hu hsh hlies) h⟩
theorem lies109 : liesAt Tryz.prog Tryz.prog.depth 362 (2 / Tryz.prog.cellsOf 362) 0 362 1 = true := by kernel_rfl
theorem St.shape {w0 w : World} {L : List Own} (hS : St w0 L w) (i : Nat) {b : Nat} {t : TypeId} {cs : Array Value} (hi : L[i]? = some (.bx b t cs)) : w.shape? b = some (t, cs.size) := by
  simp [World.shape?, (hS.get i hi).2]
theorem check99 {w0 w : World} {L : List Own} (hS : St w0 L w) (i : Nat) {b : Nat} {p : Option Addr} {v : Value} (hp : p = none ∨ p = some ⟨b, 0, none⟩) (hi : L[i]? = some (.bx b 362 #[.pointer p, v])) (R : Ending → World → Prop)
    (h : ∀ W, St w0 (L.set i (.bx b 362 #[.pointer (some ⟨b, 0, none⟩), v])) W → R (.returned (.tuple #[])) W) : Calls Tryz.prog 412 #[.pointer (some ⟨b, 0, none⟩)] w R := by
  rcases hp with rfl | rfl
  · have hsh := hS.shape i hi
    refine c412 _ _ _ ?_
    unfold vc412
    refine kNil_p (kFa179_0 (kLoad_st hS i hi rfl (fun w => Tryz.isAgg359 w) (kEq_pnil (kIf_t ?_))))
    refine kToUnsP Tryz.underlying359 Tryz.underlying481 (info_of (Tryz.typeInfo362 w)) (by decide) hsh (by simp) (kNoEsc ?_)
    refine kFromUnsP (cells := 2) Tryz.underlying481 Tryz.underlying359 (info_of (Tryz.typeInfo362 w)) hsh lies109 ?_
    exact kNil_p (kFa179_0 (kStJ hS i hi (by simp) rfl rfl rfl fun W hS => h W hS))
  · refine check142 hS i hi R (h w ?_)
    have : L.set i (.bx b 362 #[.pointer (some ⟨b, 0, none⟩), v]) = L := by
      apply List.ext_getElem?
      intro j
      by_cases q : j = i
      · subst q
        have hlt := (List.getElem?_eq_some_iff.1 hi).1
        rw [List.getElem?_set_self hlt, hi]
      · rw [List.getElem?_set_ne (Ne.symm q)]
    rw [this]; exact hS
/-- A builder that has taken some text: its box, its row. -/
theorem Write56 {w0 w : World} {b n : Nat} {p : Option Addr} {v : Value} {bs : List Value} {s : ByteArray} {M : List Own} (hp : p = none ∨ p = some ⟨b, 0, none⟩) (hS : St w0 (.bx b 362 #[.pointer p, v] :: .row v 5 1 n bs :: M) w) (hm : n + s.size ≤ 140737488355328) (R : Ending → World → Prop)
    (h : ∀ v' W, St w0 (.bx b 362 #[.pointer (some ⟨b, 0, none⟩), v'] :: .row v' 5 1 (n + s.size) (bs ++ Lib.strCells s) :: M) W → R (.returned (.tuple #[.int .i64 s.size, .nilIface])) W) : Calls Tryz.prog 327 #[.pointer (some ⟨b, 0, none⟩), .string s] w R := by
  refine c327 _ _ _ _ ?_
  unfold vc327
  refine kCall_i (Tryz.call412 _ _) (check99 hS 0 hp rfl _ fun W hS => ?_)
  have hS : St w0 (.bx b 362 #[.pointer (some ⟨b, 0, none⟩), v] :: .row v 5 1 n bs :: M) W := hS
  refine kNil_p (kFa179_1 (kLdJ hS 0 rfl rfl rfl (kAppStr_st hS 1 rfl hm fun x' W hS => ?_)))
  exact kNil_p (kFa179_1 (kStJ hS 0 rfl (by simp) (row_cellsJ (hS.get 1 rfl)).1 (row_cellsJ (hS.get 1 rfl)).2 rfl fun W hS => kLen9J (h x' W hS)))
def vStr (s : ByteArray) : Value := .string s
theorem vStr_size (l : List ByteArray) : ∀ v ∈ l.map vStr, v.cells.size = 1 := by
  intro v hv; obtain ⟨r, _, rfl⟩ := List.mem_map.1 hv; rfl
theorem flatS (l : List ByteArray) : flat (l.map vStr) = l.map vStr := by
  induction l with
  | nil => rfl
  | cons a l ih =>
    have : flat ((a :: l).map vStr) = vStr a :: flat (l.map vStr) := by simp [flat, vStr, Value.cells]
    rw [this, ih]; rfl
theorem kBin_quoI {c : Cx} {w : World} {k : Value → World → Prop} {t : TypeId} {q : IntKind} {a b : Int} (hb : b ≠ 0) (h : k (.int q (q.wrap (Int.tdiv a b))) w) : kBin c w .quo t (.int q a) (.int q b) k := ⟨kVal_pure (fun _ => by
  rw [binOp_quo]; unfold Op.intDiv
  rw [if_neg (by simpa using hb)]; rfl) h⟩
theorem Sl.dropS {w : World} {a : Option Addr} {cp : Nat} {l : List ByteArray} (h : Sl w a 1 (l.map vStr)) (hc : l.length ≤ cp) (h1 : 1 < l.length) : Sl w (if cp = 1 then a else a.map (·.add (1 * 1))) 1 ((l.drop 1).map vStr) := by
  refine ⟨vStr_size _, .inr ?_⟩
  rcases h.at_ with he | ⟨b, o, ha, hb, hr⟩
  · rw [List.map_eq_nil_iff] at he; subst he; simp at h1
  · refine ⟨b, o + 1, ?_, hb, ?_⟩
    · rw [if_neg (by omega), ha]; simp [Addr.add_mid]
    · have e1 : ∀ l : List ByteArray, (l.map vStr).flatMap (·.cells.toList) = l.map vStr := flatS
      rw [e1] at hr ⊢
      intro j v hj
      have := hr (1 + j) v (by rw [← hj, List.map_drop, List.getElem?_drop])
      rwa [← Nat.add_assoc] at this
def catB (sep : ByteArray) : List ByteArray → ByteArray
  | [] => ⟨#[]⟩
  | x :: r => sep ++ x ++ catB sep r
def joinB (sep : ByteArray) : List ByteArray → ByteArray
  | [] => ⟨#[]⟩
  | x :: r => x ++ catB sep r
theorem app_nil (s : ByteArray) : s ++ (⟨#[]⟩ : ByteArray) = s := ByteArray.append_empty
theorem nil_app (s : ByteArray) : (⟨#[]⟩ : ByteArray) ++ s = s := ByteArray.empty_append
theorem catB_snoc (sep : ByteArray) (r : List ByteArray) (y : ByteArray) : catB sep (r ++ [y]) = catB sep r ++ sep ++ y := by
  induction r with
  | nil => simp [catB, app_nil, nil_app]
  | cons x r ih => simp only [List.cons_append, catB, ih, ByteArray.append_assoc]
def sumS (l : List ByteArray) : Nat := (l.map ByteArray.size).sum
theorem sumS_take (l : List ByteArray) {i : Nat} (hi : i < l.length) : sumS (l.take (i + 1)) = sumS (l.take i) + l[i].size := by
  unfold sumS
  rw [List.take_succ_eq_append_getElem hi, List.map_append, List.sum_append]; rfl
theorem sumS_le (l : List ByteArray) (i : Nat) : sumS (l.take i) ≤ sumS l := by
  induction l generalizing i with
  | nil => simp [sumS]
  | cons a l ih =>
    cases i with
    | zero => simp [sumS]
    | succ i => have := ih i; simp [sumS] at this ⊢; omega
theorem catB_size (sep : ByteArray) (r : List ByteArray) : (catB sep r).size = sumS r + sep.size * r.length := by
  induction r with
  | nil => simp [catB, sumS]; rfl
  | cons x r ih => simp only [catB, ByteArray.size_append, ih, sumS, List.map_cons, List.sum_cons, List.length_cons, Nat.mul_succ]; omega
theorem strCells_app (a b : ByteArray) : Lib.strCells (a ++ b) = Lib.strCells a ++ Lib.strCells b := by simp [Lib.strCells, Lib.byteCells]
/-- A builder that holds a text. -/
def BuiltS (w0 : World) (p : Nat) (c : ByteArray) (M : List Own) (W : World) : Prop := ∃ v, St w0 (.bx p 362 #[.pointer (some ⟨p, 0, none⟩), v] :: .row v 5 1 c.size (Lib.strCells c) :: M) W
theorem BuiltS.write {w0 W : World} {p : Nat} {c s : ByteArray} {M : List Own} (h : BuiltS w0 p c M W) (hm : c.size + s.size ≤ 140737488355328) (R : Ending → World → Prop)
    (hk : ∀ W, BuiltS w0 p (c ++ s) M W → R (.returned (.tuple #[.int .i64 s.size, .nilIface])) W) : Calls Tryz.prog 327 #[.pointer (some ⟨p, 0, none⟩), .string s] W R := by
  obtain ⟨v, hS⟩ := h
  refine Write56 (.inr rfl) hS hm R fun v' W hS => hk W ⟨v', ?_⟩
  rw [strCells_app, ByteArray.size_append]; exact hS
theorem BuiltS.tell {w0 W : World} {p : Nat} {c : ByteArray} {M : List Own} (h : BuiltS w0 p c M W) (R : Ending → World → Prop)
    (hk : ∀ W', Below W.heap.size W W' ∨ Below w0.heap.size w0 W' → Below w0.heap.size w0 W' → R (.returned (.string c)) W') : Calls Tryz.prog 328 #[.pointer (some ⟨p, 0, none⟩)] W R := by
  obtain ⟨v, hS⟩ := h
  have hl : Lib.strCells c = Lib.byteCells c.data.toList := by simp [Lib.strCells, Lib.byteCells]
  have hn : (Lib.byteCells c.data.toList).length = c.size := by rw [Lib.byteCells_length, Array.length_toList]; rfl
  have hrow : W.ownsRow w0.heap.size 5 1 v (Lib.byteCells c.data.toList).length (Lib.byteCells c.data.toList) := by
    rw [hn, ← hl]; exact hS.get 1 rfl
  have hap := hS.apart 1 0 _ _ rfl rfl (by omega)
  have hne : v.ownBlock ≠ some p := by
    rcases hap with e | e
    · intro q; rw [show v.ownBlock = none from e] at q; cases q
    · exact e
  refine (Tryz.Builder_String_any w0.heap.size p c.data.toList W (.inr ⟨(hS.get 0 rfl).1, v, (hS.get 0 rfl).2, hrow, hne⟩) hS.size).mono ?_
  rintro e W5 ⟨rfl, hB5⟩
  exact hk W5 (.inr (hS.below.trans hB5)) (hS.below.trans hB5)
theorem Join57 (l : List ByteArray) (sep : ByteArray) (w : World) (lo : Option Addr) (lc : Nat) (hl : Sl w lo 1 (l.map vStr)) (hlc : l.length ≤ lc) (hn : l.length ≤ 1000000) (hsep : sep.size ≤ 1000) (hsum : sumS l ≤ 1000000000000) (R : Ending → World → Prop)
    (h : ∀ W, Below w.heap.size w W → R (.returned (.string (joinB sep l))) W) : Calls Tryz.prog 193 #[.slice lo l.length lc, .string sep] w R := by
  refine c193 _ _ _ _ _ _ ?_
  unfold vc193
  refine xLen85 (kEq_int (kIf_eqJ (fun e => ?_) (fun e0 => kEq_int (kIf_eqJ (fun e => ?_) (fun e1 => ?_)))))
  · have : l = [] := List.eq_nil_of_length_eq_zero (by omega)
    subst this
    exact h w (Below.refl _ _)
  · obtain ⟨x, rfl⟩ : ∃ x, l = [x] := List.length_eq_one_iff.1 (by omega)
    obtain ⟨pb, po, rfl, hpb, hpr⟩ := hl.elem (i := 0) (v := vStr x) rfl
    refine xIa85 (i := 0) (by simp) (kLdS rfl (hpr 0 (.string x) rfl) ?_)
    have := h w (Below.refl _ _)
    rwa [show joinB sep [x] = x from app_nil x] at this
  obtain ⟨x, r, hxr⟩ : ∃ x r, l = x :: r := by
    cases l with
    | nil => simp at e0
    | cons x r => exact ⟨x, r, rfl⟩
  have hlr : l.length = r.length + 1 := by rw [hxr]; simp
  have hsr : sumS l = x.size + sumS r := by rw [hxr]; simp [sumS]
  have hmul : sep.size * r.length ≤ 1000 * 1000000 := Nat.mul_le_mul hsep (by omega)
  refine kJn_invJ (fun cs V => V = w ∧ cs = [.int .i64 ((sep.size * r.length : Nat) : Int)]) ?_ ?_
  rotate_left
  · intro J hJ
    refine kLen9J (kBin_gtr (kIf_d (fun q => ?_) (fun q => kD_i (hJ _ _ ⟨rfl, ?_⟩))))
    · refine kJn_invJ (fun cs V => V = w) ?_ ?_
      rotate_left
      · intro J2 hJ2
        refine kLen9J (xLen85 (kBin_sub ?_))
        rw [wrap_idJ (by omega) (by omega)]
        refine kBin_quoI (by omega) (kBin_geq (kIf_d (fun q2 => ?_) (fun q2 => kD_i (hJ2 _ _ rfl))))
        exfalso
        have e2 : ((l.length : Int) - 1) = ((r.length : Nat) : Int) := by omega
        rw [e2, show (9223372036854775807 : Int) = ((9223372036854775807 : Nat) : Int) by rfl, ← Int.ofNat_tdiv] at q2
        have hd : 9223372036854775807 / r.length ≥ 9223372036854775807 / 1000000 := Nat.div_le_div_left (by omega) (by omega)
        have hd2 : 9223372036854775807 / r.length ≤ 9223372036854775807 := Nat.div_le_self _ _
        rw [wrap_idJ (by omega) (by omega)] at q2
        omega
      rintro cs V rfl ds
      refine kLen9J (xLen85 (kBin_sub ?_))
      rw [wrap_idJ (by omega) (by omega)]
      have e2 : ((l.length : Int) - 1) = ((r.length : Nat) : Int) := by omega
      rw [e2]
      refine kBin_mul (kBin_add (kD_i (hJ _ _ ⟨rfl, ?_⟩)))
      rw [show ((sep.size : Int) * (r.length : Nat)) = ((sep.size * r.length : Nat) : Int) by simp]
      generalize sep.size * r.length = T at hmul
      rw [wrap_idJ (a := ((T : Nat) : Int)) (by omega) (by omega), wrap_idJ (by omega) (by omega), Int.zero_add]
    · have : sep.size = 0 := by omega
      rw [this]; simp
  rintro cs V ⟨rfl, rfl⟩ ds
  try dsimp only [List.getD_cons_zero]
  obtain ⟨T, hT⟩ : ∃ T, T = sep.size * r.length := ⟨_, rfl⟩
  rw [← hT] at hmul ⊢
  have hle := sumS_le l
  refine xLen85 ⟨⟨fun cs W => W = V ∧ ∃ i : Nat, cs = [.int .i64 ((T + sumS (l.take i) : Nat) : Int), .int .i64 i] ∧ i ≤ l.length, fun cs _ => l.length - (match cs with | [_, .int _ i] => i.toNat | _ => 0), ⟨rfl, 0, by simp [sumS], Nat.zero_le _⟩, ?_⟩⟩
  rintro cs ds W ⟨rfl, i, rfl, hi⟩
  dsimp only [List.getD_cons_zero, List.getD_cons_succ]
  have hlei := hle i
  refine kBin_lss (kIf_d (fun e => ?_) (fun e => ?_))
  · have hil : i < l.length := by omega
    obtain ⟨pb, po, rfl, hpb, hpr⟩ := hl.elem (i := i) (v := vStr l[i]) (by simp [hil])
    have hst := sumS_take l hil
    have hlei2 := hle (i + 1)
    refine xIa85 hil (kLdS rfl (hpr 0 (.string l[i]) rfl) ?_)
    refine kJn_invJ (fun cs V => V = W) ?_ (fun J hJ => kLen9J (kBin_sub (kBin_gtr (kIf_d (fun e => ?_) (fun e => kD_i (hJ _ _ rfl))))))
    · rintro cs V rfl ds
      refine kLen9J (kBin_add (kBin_add (kD_i ⟨⟨rfl, i + 1, ?_, hil⟩, ?_⟩)))
      · rw [hst, wrap_idJ (by omega) (by omega), wrap_idJ (by omega) (by omega), show ((T + (sumS (l.take i) + l[i].size) : Nat) : Int) = ((T + sumS (l.take i) : Nat) : Int) + (l[i].size : Int) by omega]; rfl
      · rw [wrap_idJ (a := (i : Int) + 1) (by omega) (by omega)]; show l.length - ((i : Int) + 1).toNat < l.length - (i : Int).toNat; omega
    · rw [wrap_idJ (by omega) (by omega)] at e; omega
  have hie : i = l.length := by omega
  rw [hie, List.take_length]
  refine kAlloc_st Tryz.zeroValue362 (St.start W) fun p V hS => ?_
  have hS : St W [.bx p 362 #[.pointer none, .slice none 0 0]] V := hS
  refine kCall_i (Tryz.call326 _ _) ((Tryz.Builder_Grow_fresh W.heap.size p (T + sumS l) V (hS.get 0 rfl).1 (hS.get 0 rfl).2 hS.size (by omega)).mono ?_)
  rintro e V2 ⟨rfl, ⟨hB, v, hbk, hown, hne⟩, hbel⟩
  have hA : St W [] V2 := ⟨hS.below.trans hbel, by simp, by simp⟩
  have hA := hA.adopt (o := .bx p 362 #[.pointer (some ⟨p, 0, none⟩), v]) ⟨hB, hbk⟩ (by simp)
  have hA := hA.adopt (o := .row v 5 1 0 []) hown (fun q hq => by simp at hq; subst hq; exact .inr (fun e => hne e.symm))
  have hS2 : BuiltS W p ⟨#[]⟩ [] V2 := ⟨v, hA⟩
  have hbl : ∀ {c : ByteArray} {W4 : World}, BuiltS W p c [] W4 → Below W.heap.size W W4 := fun h => by obtain ⟨v, h⟩ := h; exact h.below
  obtain ⟨pb, po, rfl, hpb, hpr⟩ := (hl.below (hbl hS2)).elem (i := 0) (v := vStr x) (by rw [hxr]; rfl)
  refine xIa85 (i := 0) (by omega) (kLdS rfl (hpr 0 (.string x) rfl) (kCall_i (Tryz.call327 _ _) (hS2.write (by show 0 + x.size ≤ _; omega) _ fun W3 hS3 => ?_)))
  rw [nil_app] at hS3
  refine xSl85_l (l := 1) (by omega) hlc (xLen85 ?_)
  have hd := (hl.dropS hlc (by omega))
  have hdr : l.drop 1 = r := by rw [hxr]; rfl
  rw [hdr] at hd
  have hl1 : l.length - 1 = r.length := by omega
  rw [hl1]
  generalize (if lc = 1 then (some ⟨pb, po, none⟩ : Option Addr) else (some ⟨pb, po, none⟩ : Option Addr).map (·.add (1 * 1))) = a1 at hd ⊢
  refine ⟨⟨fun cs W4 => ∃ i : Nat, cs = [.int .i64 i] ∧ i ≤ r.length ∧ BuiltS W p (x ++ catB sep (r.take i)) [] W4, fun cs _ => r.length - (match cs with | [.int _ i] => i.toNat | _ => 0), ⟨0, rfl, Nat.zero_le _, by rw [show catB sep (r.take 0) = ⟨#[]⟩ from rfl, app_nil]; exact hS3⟩, ?_⟩⟩
  rintro cs ds W4 ⟨i, rfl, hi, hS4⟩
  dsimp only [List.getD_cons_zero, List.getD_cons_succ]
  refine kBin_lss (kIf_d (fun e => ?_) (fun e => ?_))
  · have hil : i < r.length := by omega
    obtain ⟨qb, qo, rfl, hqb, hqr⟩ := (hd.below (hbl hS4)).elem (i := i) (v := vStr r[i]) (by simp [hil])
    have hcs := catB_size sep (r.take i)
    have h1 := sumS_le r i
    have h2 := sumS_le r (i + 1)
    rw [sumS_take r hil] at h2
    have h3 : sep.size * (r.take i).length ≤ T := by rw [hT]; exact Nat.mul_le_mul_left _ (by simp; omega)
    refine xIa85 hil (kLdS rfl (hqr 0 (.string r[i]) rfl) (kCall_i (Tryz.call327 _ _) (hS4.write (by rw [ByteArray.size_append]; omega) _ fun W5 hS5 => ?_)))
    refine kCall_i (Tryz.call327 _ _) (hS5.write (by rw [ByteArray.size_append, ByteArray.size_append]; omega) _ fun W6 hS6 => kBin_add (kD_i ⟨⟨i + 1, ?_, hil, ?_⟩, ?_⟩))
    · rw [wrap_idJ (by omega) (by omega)]; rfl
    · rw [List.take_succ_eq_append_getElem hil, catB_snoc, ← ByteArray.append_assoc, ← ByteArray.append_assoc]; exact hS6
    · rw [wrap_idJ (by omega) (by omega)]; show r.length - ((i : Int) + 1).toNat < r.length - (i : Int).toNat; omega
  · have hir : i = r.length := by omega
    rw [hir, List.take_length] at hS4
    refine kCall_i (Tryz.call328 _ _) (hS4.tell _ fun W' _ hB => ?_)
    have := h W' hB
    rwa [show joinB sep l = x ++ catB sep r by rw [hxr]; rfl] at this

end Go.L
namespace Go.L.Ev
open Go Go.RowKit
variable [Ext]
set_option linter.unusedVariables false
set_option linter.unusedSimpArgs false

theorem catS_eq (m i n j : Nat) (κ : Nat → Nat → Bool) : catS m i n j κ = κ (m % 256 ^ i + n * 256 ^ i) (i + j) := by
  unfold catS; rw [natF_eq, natF_eq]; rfl
theorem tailK_inv {sm sn : Nat} (hws : strW sm sn) : ∀ {l : List RV} {m n : Nat} {κ : Nat → Nat → Bool}, strW m n → tailK sm sn l m n κ = true →
    ∃ m' n' ss, κ m' n' = true ∧ strW m' n' ∧ (∀ δ, decL δ l = some (ss.map vStr)) ∧ strOf m' n' = strOf m n ++ catB (strOf sm sn) ss ∧ n ≤ n'
  | [], m, n, κ, h0, h => ⟨m, n, [], h, h0, fun δ => decL_nil, by rw [show catB (strOf sm sn) [] = ⟨#[]⟩ from rfl, app_nil], Nat.le_refl _⟩
  | v :: l, m, n, κ, h0, h => by
    obtain ⟨a, b, e, hw, h1⟩ := rvStr_inv (show rvStr v (fun a b => catS m n sm sn fun m n => catS m n a b fun m n => tailK sm sn l m n κ) = true from h)
    rw [catS_eq, catS_eq] at h1
    obtain ⟨m', n', ss, h2, h2w, h3, h4, h5⟩ := tailK_inv hws (strW_add hw) h1
    subst e
    refine ⟨m', n', strOf a b :: ss, h2, h2w, fun δ => decL_cons (str_dec hw) (h3 δ), ?_, by omega⟩
    rw [h4, strOf_append, strOf_append]
    simp only [catB, ByteArray.append_assoc]
theorem sumS_cat (sep : ByteArray) (l : List ByteArray) : sumS l ≤ (joinB sep l).size := by
  cases l with
  | nil => exact Nat.zero_le _
  | cons x r =>
    have := catB_size sep r
    simp only [joinB, ByteArray.size_append, this, sumS, List.map_cons, List.sum_cons]
    omega
theorem orcJoin_ok {P : Program} {f : FuncId} (hen : ∀ args w, (callFunc f args).run P w = .ok (.enter f args) w)
    (hC : ∀ (l : List ByteArray) (sep : ByteArray) (w : World) (lo : Option Addr) (lc : Nat), Sl w lo 1 (l.map vStr) → l.length ≤ lc → l.length ≤ 1000000 → sep.size ≤ 1000 → sumS l ≤ 1000000000000 → ∀ R : Ending → World → Prop,
      (∀ W, Below w.heap.size w W → R (.returned (.string (joinB sep l))) W) → Calls P f #[.slice lo l.length lc, .string sep] w R)
    (args : List RV) (h : Hp) (k : K) (hk : orcJoin args h k = true) : ∃ r h', k r h' = true ∧ FnR P f args h r h' := by
  obtain ⟨hl, h1⟩ := iff_t hk
  obtain ⟨v, hv, h2⟩ := nthK_inv h1
  obtain ⟨s, hs, h3⟩ := nthK_inv h2
  have ha := two (lenIs_inv hl) hv hs
  subst ha
  obtain ⟨e0, h4⟩ := iff_t h3
  obtain ⟨sm, sn, rfl, hws, h5⟩ := rvStr_inv h4
  obtain ⟨e1, h6⟩ := iff_t h5
  obtain ⟨c, l, h7, hsl⟩ := slCells_ok h6
  obtain ⟨e2, h8⟩ := iff_t h7
  have e1 := Nat.le_of_ble_eq_true e1
  have e2 := Nat.le_of_ble_eq_true e2
  -- what is joined
  have key : ∃ m n ss, k (.str m n) h = true ∧ strW m n ∧ (∀ δ, decL δ l = some (ss.map vStr)) ∧ strOf m n = joinB (strOf sm sn) ss ∧ n ≤ 1000000000000 := by
    cases l with
    | nil => exact ⟨0, 0, [], h8, fun _ => rfl, fun δ => decL_nil, rfl, by omega⟩
    | cons x tl =>
      obtain ⟨a, b, e, hw9, h9⟩ := rvStr_inv (show rvStr x (fun a b => tailK sm sn tl a b fun m n => iff (Nat.ble n 1000000000000) (k (.str m n) h) false) = true from h8)
      subst e
      obtain ⟨m, n, ss, h10, h10w, h11, h12, _⟩ := tailK_inv hws hw9 h9
      obtain ⟨e3, h13⟩ := iff_t h10
      exact ⟨m, n, strOf a b :: ss, h13, h10w, fun δ => decL_cons (str_dec hw9) (h11 δ), h12, Nat.le_of_ble_eq_true e3⟩
  obtain ⟨m, n, ss, h9, hwm, hss, hj, hn⟩ := key
  refine ⟨_, h, h9, Grow.refl h, hen, fun F δ W vs hR hvs => ?_⟩
  obtain ⟨x, l1, hx, hl1, rfl⟩ := decL_cons_inv hvs
  obtain ⟨y, l2, hy, hl2, rfl⟩ := decL_cons_inv hl1
  rw [decL_nil] at hl2; cases hl2
  rw [dec_str hws hy]
  obtain ⟨us, hus, hlen, hat⟩ := hsl F δ W x hR.toRelA hx
  rw [hss δ] at hus
  cases hus
  have hlen : ss.length = c := by simpa using hlen
  have hsum : sumS ss ≤ 1000000000000 := by
    refine Nat.le_trans (sumS_cat (strOf sm sn) ss) ?_
    rw [← hj, strOf_size]; exact hn
  have fin : ∀ lo lc, x = .slice lo ss.length lc → Sl W lo 1 (ss.map vStr) → ss.length ≤ lc → Calls P f (x :: [.string (strOf sm sn)]).toArray W fun en W' => ∃ δ' y, Ex h δ δ' ∧ dec δ' (.str m n) = some y ∧ en = .returned y ∧ Rel F δ' h W' := by
    intro lo lc hxe hS hc
    subst hxe
    refine hC ss (strOf sm sn) W lo lc hS hc (by omega) (by rw [strOf_size]; exact e1) hsum _ fun W' hB => ?_
    exact ⟨δ, _, Ex.refl h δ, str_dec hwm, by rw [hj], hR.kept hB.os hB.tape hB.output hB.size hB.block⟩
  rcases hat with ⟨cp, rfl, h0, hu⟩ | ⟨ad, cp, rfl, hcell⟩
  · have h0 : ss = [] := List.eq_nil_of_length_eq_zero (by omega)
    subst h0
    exact fin none cp rfl (Sl.nil _ _) (Nat.zero_le _)
  · have hcp : ss.length ≤ cp := by
      cases v with
      | slc i off ce len =>
        obtain ⟨b, c', _, hle, he⟩ := dec_slc hx
        cases he
        omega
      | nils => simp [dec] at hx
      | _ => exact absurd (show false = true from e0) (by decide)
    rw [← hlen] at *
    refine fin (some ad) cp rfl ⟨vStr_size _, ?_⟩ hcp
    by_cases h0 : ss = []
    · left; rw [h0]; rfl
    · right
      obtain ⟨b, off, spot⟩ := ad
      have hget : ∀ j u, (ss.map vStr)[j]? = some u → W.cell? ((Addr.mk b off spot).add j) = some u := hcell
      obtain ⟨s0, r, rfl⟩ := List.exists_cons_of_ne_nil h0
      have hc0 := hget 0 _ rfl
      have hspot : spot = none := by
        have := World.cell?_spot hc0
        simpa [Addr.add] using this
      subst hspot
      have hb : b < W.heap.size := by
        rw [Addr.add_mid] at hc0
        unfold World.cell? at hc0
        cases hh : W.heap[b]? with
        | none => simp [hh] at hc0
        | some o => exact (Array.getElem?_eq_some_iff.1 hh).1
      refine ⟨b, off, rfl, hb, fun j u hj => ?_⟩
      have e : ((s0 :: r).map vStr).flatMap (·.cells.toList) = (s0 :: r).map vStr := flatS _
      rw [e] at hj
      have := hget j u hj
      rwa [Addr.add_mid] at this
end Go.L.Ev
