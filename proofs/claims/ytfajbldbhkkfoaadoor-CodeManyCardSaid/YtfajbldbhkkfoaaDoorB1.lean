/- Contracts of single functions: no condition but those that each states. -/
import Derived.Test.YtfajbldbhkkfoaaDoorV1
import Derived.Test.YtfajbldbhkkfoaaDoorV2
import Derived.Test.YtfajbldbhkkfoaaDoorA2
import Derived.Laws.Slices
set_option linter.unusedVariables false
set_option linter.unusedSimpArgs false
namespace Go.L
open Go Go.RowKit Go.Proofs
set_option linter.unusedSimpArgs false
set_option linter.unusedVariables false

/-- Types of one cell. -/
def scal (t : TypeId) : Bool := t == 1 || t == 2 || t == 3 || t == 4 || t == 5 || t == 9 || t == 21 || t == 22 || t == 25 || t == 26 || t == 37 || t == 39 || t == 45 || t == 46 || t == 47 || t == 48 || t == 52 || t == 56 || t == 59 || t == 60 || t == 68 || t == 71 || t == 72 || t == 77 || t == 79 || t == 81 || t == 82 || t == 87 || t == 90 || t == 91 || t == 95 || t == 99 || t == 107 || t == 110 || t == 111 || t == 119 || t == 128 || t == 131 || t == 139 || t == 143 || t == 169
theorem scal_agg {t : TypeId} (h : scal t = true) (w : World) : (isAgg t).run Tryd.prog w = .ok false w := by
  simp only [scal, Bool.or_eq_true, beq_iff_eq] at h
  rcases h with ((((((((((((((((((((((((((((((((((((((((rfl | rfl) | rfl) | rfl) | rfl) | rfl) | rfl) | rfl) | rfl) | rfl) | rfl) | rfl) | rfl) | rfl) | rfl) | rfl) | rfl) | rfl) | rfl) | rfl) | rfl) | rfl) | rfl) | rfl) | rfl) | rfl) | rfl) | rfl) | rfl) | rfl) | rfl) | rfl) | rfl) | rfl) | rfl) | rfl) | rfl) | rfl) | rfl) | rfl) | rfl)
  · exact Tryd.isAgg1 w
  · exact Tryd.isAgg2 w
  · exact Tryd.isAgg3 w
  · exact Tryd.isAgg4 w
  · exact Tryd.isAgg5 w
  · exact Tryd.isAgg9 w
  · exact Tryd.isAgg21 w
  · exact Tryd.isAgg22 w
  · exact Tryd.isAgg25 w
  · exact Tryd.isAgg26 w
  · exact Tryd.isAgg37 w
  · exact Tryd.isAgg39 w
  · exact Tryd.isAgg45 w
  · exact Tryd.isAgg46 w
  · exact Tryd.isAgg47 w
  · exact Tryd.isAgg48 w
  · exact Tryd.isAgg52 w
  · exact Tryd.isAgg56 w
  · exact Tryd.isAgg59 w
  · exact Tryd.isAgg60 w
  · exact Tryd.isAgg68 w
  · exact Tryd.isAgg71 w
  · exact Tryd.isAgg72 w
  · exact Tryd.isAgg77 w
  · exact Tryd.isAgg79 w
  · exact Tryd.isAgg81 w
  · exact Tryd.isAgg82 w
  · exact Tryd.isAgg87 w
  · exact Tryd.isAgg90 w
  · exact Tryd.isAgg91 w
  · exact Tryd.isAgg95 w
  · exact Tryd.isAgg99 w
  · exact Tryd.isAgg107 w
  · exact Tryd.isAgg110 w
  · exact Tryd.isAgg111 w
  · exact Tryd.isAgg119 w
  · exact Tryd.isAgg128 w
  · exact Tryd.isAgg131 w
  · exact Tryd.isAgg139 w
  · exact Tryd.isAgg143 w
  · exact Tryd.isAgg169 w
theorem scal_size {t : TypeId} (h : scal t = true) (w : World) : (sizeOf t).run Tryd.prog w = .ok 1 w := by
  simp only [scal, Bool.or_eq_true, beq_iff_eq] at h
  rcases h with ((((((((((((((((((((((((((((((((((((((((rfl | rfl) | rfl) | rfl) | rfl) | rfl) | rfl) | rfl) | rfl) | rfl) | rfl) | rfl) | rfl) | rfl) | rfl) | rfl) | rfl) | rfl) | rfl) | rfl) | rfl) | rfl) | rfl) | rfl) | rfl) | rfl) | rfl) | rfl) | rfl) | rfl) | rfl) | rfl) | rfl) | rfl) | rfl) | rfl) | rfl) | rfl) | rfl) | rfl) | rfl)
  · exact Tryd.sizeOf1 w
  · exact Tryd.sizeOf2 w
  · exact Tryd.sizeOf3 w
  · exact Tryd.sizeOf4 w
  · exact Tryd.sizeOf5 w
  · exact Tryd.sizeOf9 w
  · exact Tryd.sizeOf21 w
  · exact Tryd.sizeOf22 w
  · exact Tryd.sizeOf25 w
  · exact Tryd.sizeOf26 w
  · exact Tryd.sizeOf37 w
  · exact Tryd.sizeOf39 w
  · exact Tryd.sizeOf45 w
  · exact Tryd.sizeOf46 w
  · exact Tryd.sizeOf47 w
  · exact Tryd.sizeOf48 w
  · exact Tryd.sizeOf52 w
  · exact Tryd.sizeOf56 w
  · exact Tryd.sizeOf59 w
  · exact Tryd.sizeOf60 w
  · exact Tryd.sizeOf68 w
  · exact Tryd.sizeOf71 w
  · exact Tryd.sizeOf72 w
  · exact Tryd.sizeOf77 w
  · exact Tryd.sizeOf79 w
  · exact Tryd.sizeOf81 w
  · exact Tryd.sizeOf82 w
  · exact Tryd.sizeOf87 w
  · exact Tryd.sizeOf90 w
  · exact Tryd.sizeOf91 w
  · exact Tryd.sizeOf95 w
  · exact Tryd.sizeOf99 w
  · exact Tryd.sizeOf107 w
  · exact Tryd.sizeOf110 w
  · exact Tryd.sizeOf111 w
  · exact Tryd.sizeOf119 w
  · exact Tryd.sizeOf128 w
  · exact Tryd.sizeOf131 w
  · exact Tryd.sizeOf139 w
  · exact Tryd.sizeOf143 w
  · exact Tryd.sizeOf169 w
theorem xLen9 {X : Chain → World → Prop} {q : Bool} {w : World} {k : Value → World → Prop} {ty : TypeId} {s : ByteArray} {cs : Array Bool} (h : k (.int .i64 s.size) w) : kBlt ⟨Tryd.prog, X, q⟩ w .len #[9] ty cs #[.string s] k := kLen_str (c := ⟨Tryd.prog, X, q⟩) Tryd.underlying9 h
theorem xLen22 {X : Chain → World → Prop} {q : Bool} {w : World} {k : Value → World → Prop} {ty : TypeId} {o : Option Addr} {n cp : Nat} {cs : Array Bool} (h : k (.int .i64 n) w) : kBlt ⟨Tryd.prog, X, q⟩ w .len #[22] ty cs #[.slice o n cp] k := kLen_sl (c := ⟨Tryd.prog, X, q⟩) Tryd.underlying22 h
theorem xLen25 {X : Chain → World → Prop} {q : Bool} {w : World} {k : Value → World → Prop} {ty : TypeId} {o : Option Addr} {n cp : Nat} {cs : Array Bool} (h : k (.int .i64 n) w) : kBlt ⟨Tryd.prog, X, q⟩ w .len #[25] ty cs #[.slice o n cp] k := kLen_sl (c := ⟨Tryd.prog, X, q⟩) Tryd.underlying25 h
theorem xLen45 {X : Chain → World → Prop} {q : Bool} {w : World} {k : Value → World → Prop} {ty : TypeId} {o : Option Addr} {n cp : Nat} {cs : Array Bool} (h : k (.int .i64 n) w) : kBlt ⟨Tryd.prog, X, q⟩ w .len #[45] ty cs #[.slice o n cp] k := kLen_sl (c := ⟨Tryd.prog, X, q⟩) Tryd.underlying45 h
theorem xLen48 {X : Chain → World → Prop} {q : Bool} {w : World} {k : Value → World → Prop} {ty : TypeId} {o : Option Addr} {n cp : Nat} {cs : Array Bool} (h : k (.int .i64 n) w) : kBlt ⟨Tryd.prog, X, q⟩ w .len #[48] ty cs #[.slice o n cp] k := kLen_sl (c := ⟨Tryd.prog, X, q⟩) Tryd.underlying48 h
theorem xLen81 {X : Chain → World → Prop} {q : Bool} {w : World} {k : Value → World → Prop} {ty : TypeId} {o : Option Addr} {n cp : Nat} {cs : Array Bool} (h : k (.int .i64 n) w) : kBlt ⟨Tryd.prog, X, q⟩ w .len #[81] ty cs #[.slice o n cp] k := kLen_sl (c := ⟨Tryd.prog, X, q⟩) Tryd.underlying81 h
theorem xLen111 {X : Chain → World → Prop} {q : Bool} {w : World} {k : Value → World → Prop} {ty : TypeId} {o : Option Addr} {n cp : Nat} {cs : Array Bool} (h : k (.int .i64 n) w) : kBlt ⟨Tryd.prog, X, q⟩ w .len #[111] ty cs #[.slice o n cp] k := kLen_sl (c := ⟨Tryd.prog, X, q⟩) Tryd.underlying111 h
theorem xIa22 {X : Chain → World → Prop} {q : Bool} {w : World} {k : Value → World → Prop} {b o n cp : Nat} {i : Nat} (hi : i < n) (h : k (.pointer (some ⟨b, o + i * 3, none⟩)) w) : kIa ⟨Tryd.prog, X, q⟩ w 22 (.slice (some ⟨b, o, none⟩) n cp) (.int .i64 i) k := kIa_sl (c := ⟨Tryd.prog, X, q⟩) Tryd.underlying22 Tryd.sizeOf41 hi h
theorem xIaz22 {X : Chain → World → Prop} {q : Bool} {w : World} {k : Value → World → Prop} {b o n cp : Nat} {z : Int} (h0 : 0 ≤ z) (h1 : z < n) (h : k (.pointer (some ⟨b, o + z.toNat * 3, none⟩)) w) : kIa ⟨Tryd.prog, X, q⟩ w 22 (.slice (some ⟨b, o, none⟩) n cp) (.int .i64 z) k := kIa_int (c := ⟨Tryd.prog, X, q⟩) Tryd.underlying22 Tryd.sizeOf41 h0 h1 h
theorem xE22 (w : World) : Elt Tryd.prog 22 41 3 32 := ⟨Tryd.underlying22, ⟨Tryd.t41, _, info_of (Tryd.typeInfo41 w), rfl, rfl, rfl, rfl⟩, by omega, by omega⟩
theorem xSl22_l {X : Chain → World → Prop} {q : Bool} {w : World} {k : Value → World → Prop} {a : Option Addr} {n cp : Nat} {l : Nat} (h1 : l ≤ n) (h2 : n ≤ cp) (h : k (.slice (if cp = l then a else a.map (·.add (l * 3))) (n - l) (cp - l)) w) : kSl ⟨Tryd.prog, X, q⟩ w 22 (.slice a n cp) (some (.int .i64 l)) none none k :=
  ⟨kVal_pure (c := ⟨Tryd.prog, X, q⟩) (fun w' => by
    rw [run_sliceAt_slice w' 22 _ _ _ _ (elem_of Tryd.underlying22), run_slice_l w' 22 a n cp (elem_of Tryd.underlying22) .i64 l (by omega) (by omega)]
    rw [show Tryd.prog.elem 22 = 41 by simp [Program.elem, Tryd.underlying22], Tryd.sizeOf41]
    rfl) h⟩
theorem xSl22_h {X : Chain → World → Prop} {q : Bool} {w : World} {k : Value → World → Prop} {a : Option Addr} {n cp : Nat} {l : Nat} (h1 : l ≤ cp) (h : k (.slice (if cp = 0 then a else a.map (·.add (0 * 3))) l cp) w) : kSl ⟨Tryd.prog, X, q⟩ w 22 (.slice a n cp) none (some (.int .i64 l)) none k :=
  ⟨kVal_pure (c := ⟨Tryd.prog, X, q⟩) (fun w' => by
    rw [run_sliceAt_slice w' 22 _ _ _ _ (elem_of Tryd.underlying22), run_slice_h w' 22 a n cp (elem_of Tryd.underlying22) .i64 l (by omega) (by omega)]
    rw [show Tryd.prog.elem 22 = 41 by simp [Program.elem, Tryd.underlying22], Tryd.sizeOf41]
    rfl) h⟩
theorem xSl22_hm {X : Chain → World → Prop} {q : Bool} {w : World} {k : Value → World → Prop} {a : Option Addr} {n cp : Nat} {l : Nat} (h1 : l ≤ cp) (h : k (.slice (if l = 0 then a else a.map (·.add (0 * 3))) l l) w) : kSl ⟨Tryd.prog, X, q⟩ w 22 (.slice a n cp) none (some (.int .i64 l)) (some (.int .i64 l)) k :=
  ⟨kVal_pure (c := ⟨Tryd.prog, X, q⟩) (fun w' => by
    rw [run_sliceAt_slice w' 22 _ _ _ _ (elem_of Tryd.underlying22), run_slice_hm w' 22 a n cp (elem_of Tryd.underlying22) .i64 .i64 l l (by omega) (by omega) (by omega)]
    rw [show Tryd.prog.elem 22 = 41 by simp [Program.elem, Tryd.underlying22], Tryd.sizeOf41]
    rfl) h⟩
theorem xIa25 {X : Chain → World → Prop} {q : Bool} {w : World} {k : Value → World → Prop} {b o n cp : Nat} {i : Nat} (hi : i < n) (h : k (.pointer (some ⟨b, o + i * 1, none⟩)) w) : kIa ⟨Tryd.prog, X, q⟩ w 25 (.slice (some ⟨b, o, none⟩) n cp) (.int .i64 i) k := kIa_sl (c := ⟨Tryd.prog, X, q⟩) Tryd.underlying25 Tryd.sizeOf5 hi h
theorem xIaz25 {X : Chain → World → Prop} {q : Bool} {w : World} {k : Value → World → Prop} {b o n cp : Nat} {z : Int} (h0 : 0 ≤ z) (h1 : z < n) (h : k (.pointer (some ⟨b, o + z.toNat * 1, none⟩)) w) : kIa ⟨Tryd.prog, X, q⟩ w 25 (.slice (some ⟨b, o, none⟩) n cp) (.int .i64 z) k := kIa_int (c := ⟨Tryd.prog, X, q⟩) Tryd.underlying25 Tryd.sizeOf5 h0 h1 h
theorem xE25 (w : World) : Elt Tryd.prog 25 5 1 1 := ⟨Tryd.underlying25, ⟨Tryd.t5, _, info_of (Tryd.typeInfo5 w), rfl, rfl, rfl, rfl⟩, by omega, by omega⟩
theorem xSl25_l {X : Chain → World → Prop} {q : Bool} {w : World} {k : Value → World → Prop} {a : Option Addr} {n cp : Nat} {l : Nat} (h1 : l ≤ n) (h2 : n ≤ cp) (h : k (.slice (if cp = l then a else a.map (·.add (l * 1))) (n - l) (cp - l)) w) : kSl ⟨Tryd.prog, X, q⟩ w 25 (.slice a n cp) (some (.int .i64 l)) none none k :=
  ⟨kVal_pure (c := ⟨Tryd.prog, X, q⟩) (fun w' => by
    rw [run_sliceAt_slice w' 25 _ _ _ _ (elem_of Tryd.underlying25), run_slice_l w' 25 a n cp (elem_of Tryd.underlying25) .i64 l (by omega) (by omega)]
    rw [show Tryd.prog.elem 25 = 5 by simp [Program.elem, Tryd.underlying25], Tryd.sizeOf5]
    rfl) h⟩
theorem xSl25_h {X : Chain → World → Prop} {q : Bool} {w : World} {k : Value → World → Prop} {a : Option Addr} {n cp : Nat} {l : Nat} (h1 : l ≤ cp) (h : k (.slice (if cp = 0 then a else a.map (·.add (0 * 1))) l cp) w) : kSl ⟨Tryd.prog, X, q⟩ w 25 (.slice a n cp) none (some (.int .i64 l)) none k :=
  ⟨kVal_pure (c := ⟨Tryd.prog, X, q⟩) (fun w' => by
    rw [run_sliceAt_slice w' 25 _ _ _ _ (elem_of Tryd.underlying25), run_slice_h w' 25 a n cp (elem_of Tryd.underlying25) .i64 l (by omega) (by omega)]
    rw [show Tryd.prog.elem 25 = 5 by simp [Program.elem, Tryd.underlying25], Tryd.sizeOf5]
    rfl) h⟩
theorem xSl25_hm {X : Chain → World → Prop} {q : Bool} {w : World} {k : Value → World → Prop} {a : Option Addr} {n cp : Nat} {l : Nat} (h1 : l ≤ cp) (h : k (.slice (if l = 0 then a else a.map (·.add (0 * 1))) l l) w) : kSl ⟨Tryd.prog, X, q⟩ w 25 (.slice a n cp) none (some (.int .i64 l)) (some (.int .i64 l)) k :=
  ⟨kVal_pure (c := ⟨Tryd.prog, X, q⟩) (fun w' => by
    rw [run_sliceAt_slice w' 25 _ _ _ _ (elem_of Tryd.underlying25), run_slice_hm w' 25 a n cp (elem_of Tryd.underlying25) .i64 .i64 l l (by omega) (by omega) (by omega)]
    rw [show Tryd.prog.elem 25 = 5 by simp [Program.elem, Tryd.underlying25], Tryd.sizeOf5]
    rfl) h⟩
theorem xIa45 {X : Chain → World → Prop} {q : Bool} {w : World} {k : Value → World → Prop} {b o n cp : Nat} {i : Nat} (hi : i < n) (h : k (.pointer (some ⟨b, o + i * 10, none⟩)) w) : kIa ⟨Tryd.prog, X, q⟩ w 45 (.slice (some ⟨b, o, none⟩) n cp) (.int .i64 i) k := kIa_sl (c := ⟨Tryd.prog, X, q⟩) Tryd.underlying45 Tryd.sizeOf50 hi h
theorem xIaz45 {X : Chain → World → Prop} {q : Bool} {w : World} {k : Value → World → Prop} {b o n cp : Nat} {z : Int} (h0 : 0 ≤ z) (h1 : z < n) (h : k (.pointer (some ⟨b, o + z.toNat * 10, none⟩)) w) : kIa ⟨Tryd.prog, X, q⟩ w 45 (.slice (some ⟨b, o, none⟩) n cp) (.int .i64 z) k := kIa_int (c := ⟨Tryd.prog, X, q⟩) Tryd.underlying45 Tryd.sizeOf50 h0 h1 h
theorem xE45 (w : World) : Elt Tryd.prog 45 50 10 112 := ⟨Tryd.underlying45, ⟨Tryd.t50, _, info_of (Tryd.typeInfo50 w), rfl, rfl, rfl, rfl⟩, by omega, by omega⟩
theorem xIa48 {X : Chain → World → Prop} {q : Bool} {w : World} {k : Value → World → Prop} {b o n cp : Nat} {i : Nat} (hi : i < n) (h : k (.pointer (some ⟨b, o + i * 1, none⟩)) w) : kIa ⟨Tryd.prog, X, q⟩ w 48 (.slice (some ⟨b, o, none⟩) n cp) (.int .i64 i) k := kIa_sl (c := ⟨Tryd.prog, X, q⟩) Tryd.underlying48 Tryd.sizeOf3 hi h
theorem xIaz48 {X : Chain → World → Prop} {q : Bool} {w : World} {k : Value → World → Prop} {b o n cp : Nat} {z : Int} (h0 : 0 ≤ z) (h1 : z < n) (h : k (.pointer (some ⟨b, o + z.toNat * 1, none⟩)) w) : kIa ⟨Tryd.prog, X, q⟩ w 48 (.slice (some ⟨b, o, none⟩) n cp) (.int .i64 z) k := kIa_int (c := ⟨Tryd.prog, X, q⟩) Tryd.underlying48 Tryd.sizeOf3 h0 h1 h
theorem xE48 (w : World) : Elt Tryd.prog 48 3 1 8 := ⟨Tryd.underlying48, ⟨Tryd.t3, _, info_of (Tryd.typeInfo3 w), rfl, rfl, rfl, rfl⟩, by omega, by omega⟩
theorem xIa81 {X : Chain → World → Prop} {q : Bool} {w : World} {k : Value → World → Prop} {b o n cp : Nat} {i : Nat} (hi : i < n) (h : k (.pointer (some ⟨b, o + i * 4, none⟩)) w) : kIa ⟨Tryd.prog, X, q⟩ w 81 (.slice (some ⟨b, o, none⟩) n cp) (.int .i64 i) k := kIa_sl (c := ⟨Tryd.prog, X, q⟩) Tryd.underlying81 Tryd.sizeOf89 hi h
theorem xIaz81 {X : Chain → World → Prop} {q : Bool} {w : World} {k : Value → World → Prop} {b o n cp : Nat} {z : Int} (h0 : 0 ≤ z) (h1 : z < n) (h : k (.pointer (some ⟨b, o + z.toNat * 4, none⟩)) w) : kIa ⟨Tryd.prog, X, q⟩ w 81 (.slice (some ⟨b, o, none⟩) n cp) (.int .i64 z) k := kIa_int (c := ⟨Tryd.prog, X, q⟩) Tryd.underlying81 Tryd.sizeOf89 h0 h1 h
theorem xE81 (w : World) : Elt Tryd.prog 81 89 4 32 := ⟨Tryd.underlying81, ⟨Tryd.t89, _, info_of (Tryd.typeInfo89 w), rfl, rfl, rfl, rfl⟩, by omega, by omega⟩
theorem xIa111 {X : Chain → World → Prop} {q : Bool} {w : World} {k : Value → World → Prop} {b o n cp : Nat} {i : Nat} (hi : i < n) (h : k (.pointer (some ⟨b, o + i * 1, none⟩)) w) : kIa ⟨Tryd.prog, X, q⟩ w 111 (.slice (some ⟨b, o, none⟩) n cp) (.int .i64 i) k := kIa_sl (c := ⟨Tryd.prog, X, q⟩) Tryd.underlying111 Tryd.sizeOf9 hi h
theorem xIaz111 {X : Chain → World → Prop} {q : Bool} {w : World} {k : Value → World → Prop} {b o n cp : Nat} {z : Int} (h0 : 0 ≤ z) (h1 : z < n) (h : k (.pointer (some ⟨b, o + z.toNat * 1, none⟩)) w) : kIa ⟨Tryd.prog, X, q⟩ w 111 (.slice (some ⟨b, o, none⟩) n cp) (.int .i64 z) k := kIa_int (c := ⟨Tryd.prog, X, q⟩) Tryd.underlying111 Tryd.sizeOf9 h0 h1 h
theorem xE111 (w : World) : Elt Tryd.prog 111 9 1 16 := ⟨Tryd.underlying111, ⟨Tryd.t9, _, info_of (Tryd.typeInfo9 w), rfl, rfl, rfl, rfl⟩, by omega, by omega⟩
theorem xSl111_l {X : Chain → World → Prop} {q : Bool} {w : World} {k : Value → World → Prop} {a : Option Addr} {n cp : Nat} {l : Nat} (h1 : l ≤ n) (h2 : n ≤ cp) (h : k (.slice (if cp = l then a else a.map (·.add (l * 1))) (n - l) (cp - l)) w) : kSl ⟨Tryd.prog, X, q⟩ w 111 (.slice a n cp) (some (.int .i64 l)) none none k :=
  ⟨kVal_pure (c := ⟨Tryd.prog, X, q⟩) (fun w' => by
    rw [run_sliceAt_slice w' 111 _ _ _ _ (elem_of Tryd.underlying111), run_slice_l w' 111 a n cp (elem_of Tryd.underlying111) .i64 l (by omega) (by omega)]
    rw [show Tryd.prog.elem 111 = 9 by simp [Program.elem, Tryd.underlying111], Tryd.sizeOf9]
    rfl) h⟩
theorem xSl111_h {X : Chain → World → Prop} {q : Bool} {w : World} {k : Value → World → Prop} {a : Option Addr} {n cp : Nat} {l : Nat} (h1 : l ≤ cp) (h : k (.slice (if cp = 0 then a else a.map (·.add (0 * 1))) l cp) w) : kSl ⟨Tryd.prog, X, q⟩ w 111 (.slice a n cp) none (some (.int .i64 l)) none k :=
  ⟨kVal_pure (c := ⟨Tryd.prog, X, q⟩) (fun w' => by
    rw [run_sliceAt_slice w' 111 _ _ _ _ (elem_of Tryd.underlying111), run_slice_h w' 111 a n cp (elem_of Tryd.underlying111) .i64 l (by omega) (by omega)]
    rw [show Tryd.prog.elem 111 = 9 by simp [Program.elem, Tryd.underlying111], Tryd.sizeOf9]
    rfl) h⟩
theorem xSl111_hm {X : Chain → World → Prop} {q : Bool} {w : World} {k : Value → World → Prop} {a : Option Addr} {n cp : Nat} {l : Nat} (h1 : l ≤ cp) (h : k (.slice (if l = 0 then a else a.map (·.add (0 * 1))) l l) w) : kSl ⟨Tryd.prog, X, q⟩ w 111 (.slice a n cp) none (some (.int .i64 l)) (some (.int .i64 l)) k :=
  ⟨kVal_pure (c := ⟨Tryd.prog, X, q⟩) (fun w' => by
    rw [run_sliceAt_slice w' 111 _ _ _ _ (elem_of Tryd.underlying111), run_slice_hm w' 111 a n cp (elem_of Tryd.underlying111) .i64 .i64 l l (by omega) (by omega) (by omega)]
    rw [show Tryd.prog.elem 111 = 9 by simp [Program.elem, Tryd.underlying111], Tryd.sizeOf9]
    rfl) h⟩
theorem xFa41_0 {X : Chain → World → Prop} {q : Bool} {w : World} {k : Value → World → Prop} {b o : Nat} (h : k (.pointer (some ⟨b, o, none⟩)) w) : kFa ⟨Tryd.prog, X, q⟩ w 41 (.pointer (some ⟨b, o, none⟩)) 0 k := kFa_i (c := ⟨Tryd.prog, X, q⟩) Tryd.underlying41 rfl (n := 0) Tryd.sizeOf39 h
theorem xFa41_1 {X : Chain → World → Prop} {q : Bool} {w : World} {k : Value → World → Prop} {b o : Nat} (h : k (.pointer (some ⟨b, o + 1, none⟩)) w) : kFa ⟨Tryd.prog, X, q⟩ w 41 (.pointer (some ⟨b, o, none⟩)) 1 k := kFa_i (c := ⟨Tryd.prog, X, q⟩) Tryd.underlying41 rfl (n := 0) Tryd.sizeOf2 h
theorem xFa41_2 {X : Chain → World → Prop} {q : Bool} {w : World} {k : Value → World → Prop} {b o : Nat} (h : k (.pointer (some ⟨b, o + 2, none⟩)) w) : kFa ⟨Tryd.prog, X, q⟩ w 41 (.pointer (some ⟨b, o, none⟩)) 2 k := kFa_i (c := ⟨Tryd.prog, X, q⟩) Tryd.underlying41 rfl (n := 0) Tryd.sizeOf9 h
theorem xFa50_0 {X : Chain → World → Prop} {q : Bool} {w : World} {k : Value → World → Prop} {b o : Nat} (h : k (.pointer (some ⟨b, o, none⟩)) w) : kFa ⟨Tryd.prog, X, q⟩ w 50 (.pointer (some ⟨b, o, none⟩)) 0 k := kFa_i (c := ⟨Tryd.prog, X, q⟩) Tryd.underlying50 rfl (n := 0) Tryd.sizeOf46 h
theorem xFa50_1 {X : Chain → World → Prop} {q : Bool} {w : World} {k : Value → World → Prop} {b o : Nat} (h : k (.pointer (some ⟨b, o + 1, none⟩)) w) : kFa ⟨Tryd.prog, X, q⟩ w 50 (.pointer (some ⟨b, o, none⟩)) 1 k := kFa_i (c := ⟨Tryd.prog, X, q⟩) Tryd.underlying50 rfl (n := 0) Tryd.sizeOf3 h
theorem xFa50_2 {X : Chain → World → Prop} {q : Bool} {w : World} {k : Value → World → Prop} {b o : Nat} (h : k (.pointer (some ⟨b, o + 2, none⟩)) w) : kFa ⟨Tryd.prog, X, q⟩ w 50 (.pointer (some ⟨b, o, none⟩)) 2 k := kFa_i (c := ⟨Tryd.prog, X, q⟩) Tryd.underlying50 rfl (n := 0) Tryd.sizeOf3 h
theorem xFa50_3 {X : Chain → World → Prop} {q : Bool} {w : World} {k : Value → World → Prop} {b o : Nat} (h : k (.pointer (some ⟨b, o + 3, none⟩)) w) : kFa ⟨Tryd.prog, X, q⟩ w 50 (.pointer (some ⟨b, o, none⟩)) 3 k := kFa_i (c := ⟨Tryd.prog, X, q⟩) Tryd.underlying50 rfl (n := 0) Tryd.sizeOf3 h
theorem xFa50_4 {X : Chain → World → Prop} {q : Bool} {w : World} {k : Value → World → Prop} {b o : Nat} (h : k (.pointer (some ⟨b, o + 4, none⟩)) w) : kFa ⟨Tryd.prog, X, q⟩ w 50 (.pointer (some ⟨b, o, none⟩)) 4 k := kFa_i (c := ⟨Tryd.prog, X, q⟩) Tryd.underlying50 rfl (n := 0) Tryd.sizeOf47 h
theorem xFa50_5 {X : Chain → World → Prop} {q : Bool} {w : World} {k : Value → World → Prop} {b o : Nat} (h : k (.pointer (some ⟨b, o + 5, none⟩)) w) : kFa ⟨Tryd.prog, X, q⟩ w 50 (.pointer (some ⟨b, o, none⟩)) 5 k := kFa_i (c := ⟨Tryd.prog, X, q⟩) Tryd.underlying50 rfl (n := 2) Tryd.sizeOf41 h
theorem xFa50_6 {X : Chain → World → Prop} {q : Bool} {w : World} {k : Value → World → Prop} {b o : Nat} (h : k (.pointer (some ⟨b, o + 8, none⟩)) w) : kFa ⟨Tryd.prog, X, q⟩ w 50 (.pointer (some ⟨b, o, none⟩)) 6 k := kFa_i (c := ⟨Tryd.prog, X, q⟩) Tryd.underlying50 rfl (n := 0) Tryd.sizeOf9 h
theorem xFa50_7 {X : Chain → World → Prop} {q : Bool} {w : World} {k : Value → World → Prop} {b o : Nat} (h : k (.pointer (some ⟨b, o + 9, none⟩)) w) : kFa ⟨Tryd.prog, X, q⟩ w 50 (.pointer (some ⟨b, o, none⟩)) 7 k := kFa_i (c := ⟨Tryd.prog, X, q⟩) Tryd.underlying50 rfl (n := 0) Tryd.sizeOf48 h
theorem xFa62_0 {X : Chain → World → Prop} {q : Bool} {w : World} {k : Value → World → Prop} {b o : Nat} (h : k (.pointer (some ⟨b, o, none⟩)) w) : kFa ⟨Tryd.prog, X, q⟩ w 62 (.pointer (some ⟨b, o, none⟩)) 0 k := kFa_i (c := ⟨Tryd.prog, X, q⟩) Tryd.underlying62 rfl (n := 0) Tryd.sizeOf25 h
theorem xFa64_0 {X : Chain → World → Prop} {q : Bool} {w : World} {k : Value → World → Prop} {b o : Nat} (h : k (.pointer (some ⟨b, o, none⟩)) w) : kFa ⟨Tryd.prog, X, q⟩ w 64 (.pointer (some ⟨b, o, none⟩)) 0 k := kFa_i (c := ⟨Tryd.prog, X, q⟩) Tryd.underlying64 rfl (n := 0) Tryd.sizeOf62 h
theorem xFa84_0 {X : Chain → World → Prop} {q : Bool} {w : World} {k : Value → World → Prop} {b o : Nat} (h : k (.pointer (some ⟨b, o, none⟩)) w) : kFa ⟨Tryd.prog, X, q⟩ w 84 (.pointer (some ⟨b, o, none⟩)) 0 k := kFa_i (c := ⟨Tryd.prog, X, q⟩) Tryd.underlying84 rfl (n := 0) Tryd.sizeOf9 h
theorem xFa84_1 {X : Chain → World → Prop} {q : Bool} {w : World} {k : Value → World → Prop} {b o : Nat} (h : k (.pointer (some ⟨b, o + 1, none⟩)) w) : kFa ⟨Tryd.prog, X, q⟩ w 84 (.pointer (some ⟨b, o, none⟩)) 1 k := kFa_i (c := ⟨Tryd.prog, X, q⟩) Tryd.underlying84 rfl (n := 0) Tryd.sizeOf81 h
theorem xFa84_2 {X : Chain → World → Prop} {q : Bool} {w : World} {k : Value → World → Prop} {b o : Nat} (h : k (.pointer (some ⟨b, o + 2, none⟩)) w) : kFa ⟨Tryd.prog, X, q⟩ w 84 (.pointer (some ⟨b, o, none⟩)) 2 k := kFa_i (c := ⟨Tryd.prog, X, q⟩) Tryd.underlying84 rfl (n := 0) Tryd.sizeOf82 h
theorem xFa89_0 {X : Chain → World → Prop} {q : Bool} {w : World} {k : Value → World → Prop} {b o : Nat} (h : k (.pointer (some ⟨b, o, none⟩)) w) : kFa ⟨Tryd.prog, X, q⟩ w 89 (.pointer (some ⟨b, o, none⟩)) 0 k := kFa_i (c := ⟨Tryd.prog, X, q⟩) Tryd.underlying89 rfl (n := 0) Tryd.sizeOf87 h
theorem xFa89_1 {X : Chain → World → Prop} {q : Bool} {w : World} {k : Value → World → Prop} {b o : Nat} (h : k (.pointer (some ⟨b, o + 1, none⟩)) w) : kFa ⟨Tryd.prog, X, q⟩ w 89 (.pointer (some ⟨b, o, none⟩)) 1 k := kFa_i (c := ⟨Tryd.prog, X, q⟩) Tryd.underlying89 rfl (n := 0) Tryd.sizeOf3 h
theorem xFa89_2 {X : Chain → World → Prop} {q : Bool} {w : World} {k : Value → World → Prop} {b o : Nat} (h : k (.pointer (some ⟨b, o + 2, none⟩)) w) : kFa ⟨Tryd.prog, X, q⟩ w 89 (.pointer (some ⟨b, o, none⟩)) 2 k := kFa_i (c := ⟨Tryd.prog, X, q⟩) Tryd.underlying89 rfl (n := 0) Tryd.sizeOf3 h
theorem xFa89_3 {X : Chain → World → Prop} {q : Bool} {w : World} {k : Value → World → Prop} {b o : Nat} (h : k (.pointer (some ⟨b, o + 3, none⟩)) w) : kFa ⟨Tryd.prog, X, q⟩ w 89 (.pointer (some ⟨b, o, none⟩)) 3 k := kFa_i (c := ⟨Tryd.prog, X, q⟩) Tryd.underlying89 rfl (n := 0) Tryd.sizeOf4 h
theorem xFa109_0 {X : Chain → World → Prop} {q : Bool} {w : World} {k : Value → World → Prop} {b o : Nat} (h : k (.pointer (some ⟨b, o, none⟩)) w) : kFa ⟨Tryd.prog, X, q⟩ w 109 (.pointer (some ⟨b, o, none⟩)) 0 k := kFa_i (c := ⟨Tryd.prog, X, q⟩) Tryd.underlying109 rfl (n := 0) Tryd.sizeOf107 h
theorem xFa109_1 {X : Chain → World → Prop} {q : Bool} {w : World} {k : Value → World → Prop} {b o : Nat} (h : k (.pointer (some ⟨b, o + 1, none⟩)) w) : kFa ⟨Tryd.prog, X, q⟩ w 109 (.pointer (some ⟨b, o, none⟩)) 1 k := kFa_i (c := ⟨Tryd.prog, X, q⟩) Tryd.underlying109 rfl (n := 0) Tryd.sizeOf25 h
theorem xFa114_0 {X : Chain → World → Prop} {q : Bool} {w : World} {k : Value → World → Prop} {b o : Nat} (h : k (.pointer (some ⟨b, o, none⟩)) w) : kFa ⟨Tryd.prog, X, q⟩ w 114 (.pointer (some ⟨b, o, none⟩)) 0 k := kFa_i (c := ⟨Tryd.prog, X, q⟩) Tryd.underlying114 rfl (n := 0) Tryd.sizeOf9 h
theorem xFa114_1 {X : Chain → World → Prop} {q : Bool} {w : World} {k : Value → World → Prop} {b o : Nat} (h : k (.pointer (some ⟨b, o + 1, none⟩)) w) : kFa ⟨Tryd.prog, X, q⟩ w 114 (.pointer (some ⟨b, o, none⟩)) 1 k := kFa_i (c := ⟨Tryd.prog, X, q⟩) Tryd.underlying114 rfl (n := 0) Tryd.sizeOf3 h
theorem xFa114_2 {X : Chain → World → Prop} {q : Bool} {w : World} {k : Value → World → Prop} {b o : Nat} (h : k (.pointer (some ⟨b, o + 2, none⟩)) w) : kFa ⟨Tryd.prog, X, q⟩ w 114 (.pointer (some ⟨b, o, none⟩)) 2 k := kFa_i (c := ⟨Tryd.prog, X, q⟩) Tryd.underlying114 rfl (n := 0) Tryd.sizeOf112 h
theorem xFa114_3 {X : Chain → World → Prop} {q : Bool} {w : World} {k : Value → World → Prop} {b o : Nat} (h : k (.pointer (some ⟨b, o + 3, none⟩)) w) : kFa ⟨Tryd.prog, X, q⟩ w 114 (.pointer (some ⟨b, o, none⟩)) 3 k := kFa_i (c := ⟨Tryd.prog, X, q⟩) Tryd.underlying114 rfl (n := 0) Tryd.sizeOf112 h
theorem xFa174_0 {X : Chain → World → Prop} {q : Bool} {w : World} {k : Value → World → Prop} {b o : Nat} (h : k (.pointer (some ⟨b, o, none⟩)) w) : kFa ⟨Tryd.prog, X, q⟩ w 174 (.pointer (some ⟨b, o, none⟩)) 0 k := kFa_i (c := ⟨Tryd.prog, X, q⟩) Tryd.underlying174 rfl (n := 0) Tryd.sizeOf5 h
theorem xFa174_1 {X : Chain → World → Prop} {q : Bool} {w : World} {k : Value → World → Prop} {b o : Nat} (h : k (.pointer (some ⟨b, o + 1, none⟩)) w) : kFa ⟨Tryd.prog, X, q⟩ w 174 (.pointer (some ⟨b, o, none⟩)) 1 k := kFa_i (c := ⟨Tryd.prog, X, q⟩) Tryd.underlying174 rfl (n := 0) Tryd.sizeOf5 h
theorem xLdE41 {X : Chain → World → Prop} {q : Bool} {w : World} {k : Value → World → Prop} {b o : Nat} {v : Value} (hr : w.rangeAt b o v.cells.toList) (hv : Value.agg v.cells = v) (hs : v.cells.size = 3) (h : k v w) : kLoad ⟨Tryd.prog, X, q⟩ w 41 (.pointer (some ⟨b, o, none⟩)) k := kLoad_elt (c := ⟨Tryd.prog, X, q⟩) hr hv Tryd.underlying41 rfl Tryd.typeInfo41 hs.symm h
theorem xLdB41 {X : Chain → World → Prop} {q : Bool} {w : World} {k : Value → World → Prop} {w0 : World} {L : List Own} (hS : St w0 L w) (i : Nat) {b : Nat} {t : TypeId} {cs : Array Value} (hi : L[i]? = some (.bx b t cs)) (hn : cs.size = 3) (h : k (.agg cs) w) : kLoad ⟨Tryd.prog, X, q⟩ w 41 (.pointer (some ⟨b, 0, none⟩)) k := kLoadA_st (c := ⟨Tryd.prog, X, q⟩) hS i hi Tryd.underlying41 rfl Tryd.sizeOf41 hn.symm h
theorem xLdE50 {X : Chain → World → Prop} {q : Bool} {w : World} {k : Value → World → Prop} {b o : Nat} {v : Value} (hr : w.rangeAt b o v.cells.toList) (hv : Value.agg v.cells = v) (hs : v.cells.size = 10) (h : k v w) : kLoad ⟨Tryd.prog, X, q⟩ w 50 (.pointer (some ⟨b, o, none⟩)) k := kLoad_elt (c := ⟨Tryd.prog, X, q⟩) hr hv Tryd.underlying50 rfl Tryd.typeInfo50 hs.symm h
theorem xLdB50 {X : Chain → World → Prop} {q : Bool} {w : World} {k : Value → World → Prop} {w0 : World} {L : List Own} (hS : St w0 L w) (i : Nat) {b : Nat} {t : TypeId} {cs : Array Value} (hi : L[i]? = some (.bx b t cs)) (hn : cs.size = 10) (h : k (.agg cs) w) : kLoad ⟨Tryd.prog, X, q⟩ w 50 (.pointer (some ⟨b, 0, none⟩)) k := kLoadA_st (c := ⟨Tryd.prog, X, q⟩) hS i hi Tryd.underlying50 rfl Tryd.sizeOf50 hn.symm h
theorem xLdE84 {X : Chain → World → Prop} {q : Bool} {w : World} {k : Value → World → Prop} {b o : Nat} {v : Value} (hr : w.rangeAt b o v.cells.toList) (hv : Value.agg v.cells = v) (hs : v.cells.size = 3) (h : k v w) : kLoad ⟨Tryd.prog, X, q⟩ w 84 (.pointer (some ⟨b, o, none⟩)) k := kLoad_elt (c := ⟨Tryd.prog, X, q⟩) hr hv Tryd.underlying84 rfl Tryd.typeInfo84 hs.symm h
theorem xLdB84 {X : Chain → World → Prop} {q : Bool} {w : World} {k : Value → World → Prop} {w0 : World} {L : List Own} (hS : St w0 L w) (i : Nat) {b : Nat} {t : TypeId} {cs : Array Value} (hi : L[i]? = some (.bx b t cs)) (hn : cs.size = 3) (h : k (.agg cs) w) : kLoad ⟨Tryd.prog, X, q⟩ w 84 (.pointer (some ⟨b, 0, none⟩)) k := kLoadA_st (c := ⟨Tryd.prog, X, q⟩) hS i hi Tryd.underlying84 rfl Tryd.sizeOf84 hn.symm h
theorem xLdE89 {X : Chain → World → Prop} {q : Bool} {w : World} {k : Value → World → Prop} {b o : Nat} {v : Value} (hr : w.rangeAt b o v.cells.toList) (hv : Value.agg v.cells = v) (hs : v.cells.size = 4) (h : k v w) : kLoad ⟨Tryd.prog, X, q⟩ w 89 (.pointer (some ⟨b, o, none⟩)) k := kLoad_elt (c := ⟨Tryd.prog, X, q⟩) hr hv Tryd.underlying89 rfl Tryd.typeInfo89 hs.symm h
theorem xLdB89 {X : Chain → World → Prop} {q : Bool} {w : World} {k : Value → World → Prop} {w0 : World} {L : List Own} (hS : St w0 L w) (i : Nat) {b : Nat} {t : TypeId} {cs : Array Value} (hi : L[i]? = some (.bx b t cs)) (hn : cs.size = 4) (h : k (.agg cs) w) : kLoad ⟨Tryd.prog, X, q⟩ w 89 (.pointer (some ⟨b, 0, none⟩)) k := kLoadA_st (c := ⟨Tryd.prog, X, q⟩) hS i hi Tryd.underlying89 rfl Tryd.sizeOf89 hn.symm h
theorem xLdE109 {X : Chain → World → Prop} {q : Bool} {w : World} {k : Value → World → Prop} {b o : Nat} {v : Value} (hr : w.rangeAt b o v.cells.toList) (hv : Value.agg v.cells = v) (hs : v.cells.size = 2) (h : k v w) : kLoad ⟨Tryd.prog, X, q⟩ w 109 (.pointer (some ⟨b, o, none⟩)) k := kLoad_elt (c := ⟨Tryd.prog, X, q⟩) hr hv Tryd.underlying109 rfl Tryd.typeInfo109 hs.symm h
theorem xLdB109 {X : Chain → World → Prop} {q : Bool} {w : World} {k : Value → World → Prop} {w0 : World} {L : List Own} (hS : St w0 L w) (i : Nat) {b : Nat} {t : TypeId} {cs : Array Value} (hi : L[i]? = some (.bx b t cs)) (hn : cs.size = 2) (h : k (.agg cs) w) : kLoad ⟨Tryd.prog, X, q⟩ w 109 (.pointer (some ⟨b, 0, none⟩)) k := kLoadA_st (c := ⟨Tryd.prog, X, q⟩) hS i hi Tryd.underlying109 rfl Tryd.sizeOf109 hn.symm h
theorem xLdE114 {X : Chain → World → Prop} {q : Bool} {w : World} {k : Value → World → Prop} {b o : Nat} {v : Value} (hr : w.rangeAt b o v.cells.toList) (hv : Value.agg v.cells = v) (hs : v.cells.size = 4) (h : k v w) : kLoad ⟨Tryd.prog, X, q⟩ w 114 (.pointer (some ⟨b, o, none⟩)) k := kLoad_elt (c := ⟨Tryd.prog, X, q⟩) hr hv Tryd.underlying114 rfl Tryd.typeInfo114 hs.symm h
theorem xLdB114 {X : Chain → World → Prop} {q : Bool} {w : World} {k : Value → World → Prop} {w0 : World} {L : List Own} (hS : St w0 L w) (i : Nat) {b : Nat} {t : TypeId} {cs : Array Value} (hi : L[i]? = some (.bx b t cs)) (hn : cs.size = 4) (h : k (.agg cs) w) : kLoad ⟨Tryd.prog, X, q⟩ w 114 (.pointer (some ⟨b, 0, none⟩)) k := kLoadA_st (c := ⟨Tryd.prog, X, q⟩) hS i hi Tryd.underlying114 rfl Tryd.sizeOf114 hn.symm h
theorem xLdE134 {X : Chain → World → Prop} {q : Bool} {w : World} {k : Value → World → Prop} {b o : Nat} {v : Value} (hr : w.rangeAt b o v.cells.toList) (hv : Value.agg v.cells = v) (hs : v.cells.size = 8) (h : k v w) : kLoad ⟨Tryd.prog, X, q⟩ w 134 (.pointer (some ⟨b, o, none⟩)) k := kLoad_elt (c := ⟨Tryd.prog, X, q⟩) hr hv Tryd.underlying134 rfl Tryd.typeInfo134 hs.symm h
theorem xLdB134 {X : Chain → World → Prop} {q : Bool} {w : World} {k : Value → World → Prop} {w0 : World} {L : List Own} (hS : St w0 L w) (i : Nat) {b : Nat} {t : TypeId} {cs : Array Value} (hi : L[i]? = some (.bx b t cs)) (hn : cs.size = 8) (h : k (.agg cs) w) : kLoad ⟨Tryd.prog, X, q⟩ w 134 (.pointer (some ⟨b, 0, none⟩)) k := kLoadA_st (c := ⟨Tryd.prog, X, q⟩) hS i hi Tryd.underlying134 rfl Tryd.sizeOf134 hn.symm h
theorem xLdE140 {X : Chain → World → Prop} {q : Bool} {w : World} {k : Value → World → Prop} {b o : Nat} {v : Value} (hr : w.rangeAt b o v.cells.toList) (hv : Value.agg v.cells = v) (hs : v.cells.size = 84) (h : k v w) : kLoad ⟨Tryd.prog, X, q⟩ w 140 (.pointer (some ⟨b, o, none⟩)) k := kLoad_elt (c := ⟨Tryd.prog, X, q⟩) hr hv Tryd.underlying140 rfl Tryd.typeInfo140 hs.symm h
theorem xLdB140 {X : Chain → World → Prop} {q : Bool} {w : World} {k : Value → World → Prop} {w0 : World} {L : List Own} (hS : St w0 L w) (i : Nat) {b : Nat} {t : TypeId} {cs : Array Value} (hi : L[i]? = some (.bx b t cs)) (hn : cs.size = 84) (h : k (.agg cs) w) : kLoad ⟨Tryd.prog, X, q⟩ w 140 (.pointer (some ⟨b, 0, none⟩)) k := kLoadA_st (c := ⟨Tryd.prog, X, q⟩) hS i hi Tryd.underlying140 rfl Tryd.sizeOf140 hn.symm h
theorem xLdE159 {X : Chain → World → Prop} {q : Bool} {w : World} {k : Value → World → Prop} {b o : Nat} {v : Value} (hr : w.rangeAt b o v.cells.toList) (hv : Value.agg v.cells = v) (hs : v.cells.size = 24) (h : k v w) : kLoad ⟨Tryd.prog, X, q⟩ w 159 (.pointer (some ⟨b, o, none⟩)) k := kLoad_elt (c := ⟨Tryd.prog, X, q⟩) hr hv Tryd.underlying159 rfl Tryd.typeInfo159 hs.symm h
theorem xLdB159 {X : Chain → World → Prop} {q : Bool} {w : World} {k : Value → World → Prop} {w0 : World} {L : List Own} (hS : St w0 L w) (i : Nat) {b : Nat} {t : TypeId} {cs : Array Value} (hi : L[i]? = some (.bx b t cs)) (hn : cs.size = 24) (h : k (.agg cs) w) : kLoad ⟨Tryd.prog, X, q⟩ w 159 (.pointer (some ⟨b, 0, none⟩)) k := kLoadA_st (c := ⟨Tryd.prog, X, q⟩) hS i hi Tryd.underlying159 rfl Tryd.sizeOf159 hn.symm h
theorem xLdE168 {X : Chain → World → Prop} {q : Bool} {w : World} {k : Value → World → Prop} {b o : Nat} {v : Value} (hr : w.rangeAt b o v.cells.toList) (hv : Value.agg v.cells = v) (hs : v.cells.size = 20) (h : k v w) : kLoad ⟨Tryd.prog, X, q⟩ w 168 (.pointer (some ⟨b, o, none⟩)) k := kLoad_elt (c := ⟨Tryd.prog, X, q⟩) hr hv Tryd.underlying168 rfl Tryd.typeInfo168 hs.symm h
theorem xLdB168 {X : Chain → World → Prop} {q : Bool} {w : World} {k : Value → World → Prop} {w0 : World} {L : List Own} (hS : St w0 L w) (i : Nat) {b : Nat} {t : TypeId} {cs : Array Value} (hi : L[i]? = some (.bx b t cs)) (hn : cs.size = 20) (h : k (.agg cs) w) : kLoad ⟨Tryd.prog, X, q⟩ w 168 (.pointer (some ⟨b, 0, none⟩)) k := kLoadA_st (c := ⟨Tryd.prog, X, q⟩) hS i hi Tryd.underlying168 rfl Tryd.sizeOf168 hn.symm h
theorem xLdE170 {X : Chain → World → Prop} {q : Bool} {w : World} {k : Value → World → Prop} {b o : Nat} {v : Value} (hr : w.rangeAt b o v.cells.toList) (hv : Value.agg v.cells = v) (hs : v.cells.size = 65) (h : k v w) : kLoad ⟨Tryd.prog, X, q⟩ w 170 (.pointer (some ⟨b, o, none⟩)) k := kLoad_elt (c := ⟨Tryd.prog, X, q⟩) hr hv Tryd.underlying170 rfl Tryd.typeInfo170 hs.symm h
theorem xLdB170 {X : Chain → World → Prop} {q : Bool} {w : World} {k : Value → World → Prop} {w0 : World} {L : List Own} (hS : St w0 L w) (i : Nat) {b : Nat} {t : TypeId} {cs : Array Value} (hi : L[i]? = some (.bx b t cs)) (hn : cs.size = 65) (h : k (.agg cs) w) : kLoad ⟨Tryd.prog, X, q⟩ w 170 (.pointer (some ⟨b, 0, none⟩)) k := kLoadA_st (c := ⟨Tryd.prog, X, q⟩) hS i hi Tryd.underlying170 rfl Tryd.sizeOf170 hn.symm h
theorem xLdE174 {X : Chain → World → Prop} {q : Bool} {w : World} {k : Value → World → Prop} {b o : Nat} {v : Value} (hr : w.rangeAt b o v.cells.toList) (hv : Value.agg v.cells = v) (hs : v.cells.size = 2) (h : k v w) : kLoad ⟨Tryd.prog, X, q⟩ w 174 (.pointer (some ⟨b, o, none⟩)) k := kLoad_elt (c := ⟨Tryd.prog, X, q⟩) hr hv Tryd.underlying174 rfl Tryd.typeInfo174 hs.symm h
theorem xLdB174 {X : Chain → World → Prop} {q : Bool} {w : World} {k : Value → World → Prop} {w0 : World} {L : List Own} (hS : St w0 L w) (i : Nat) {b : Nat} {t : TypeId} {cs : Array Value} (hi : L[i]? = some (.bx b t cs)) (hn : cs.size = 2) (h : k (.agg cs) w) : kLoad ⟨Tryd.prog, X, q⟩ w 174 (.pointer (some ⟨b, 0, none⟩)) k := kLoadA_st (c := ⟨Tryd.prog, X, q⟩) hS i hi Tryd.underlying174 rfl Tryd.sizeOf174 hn.symm h
theorem xLdE175 {X : Chain → World → Prop} {q : Bool} {w : World} {k : Value → World → Prop} {b o : Nat} {v : Value} (hr : w.rangeAt b o v.cells.toList) (hv : Value.agg v.cells = v) (hs : v.cells.size = 32) (h : k v w) : kLoad ⟨Tryd.prog, X, q⟩ w 175 (.pointer (some ⟨b, o, none⟩)) k := kLoad_elt (c := ⟨Tryd.prog, X, q⟩) hr hv Tryd.underlying175 rfl Tryd.typeInfo175 hs.symm h
theorem xLdB175 {X : Chain → World → Prop} {q : Bool} {w : World} {k : Value → World → Prop} {w0 : World} {L : List Own} (hS : St w0 L w) (i : Nat) {b : Nat} {t : TypeId} {cs : Array Value} (hi : L[i]? = some (.bx b t cs)) (hn : cs.size = 32) (h : k (.agg cs) w) : kLoad ⟨Tryd.prog, X, q⟩ w 175 (.pointer (some ⟨b, 0, none⟩)) k := kLoadA_st (c := ⟨Tryd.prog, X, q⟩) hS i hi Tryd.underlying175 rfl Tryd.sizeOf175 hn.symm h
theorem xLdE179 {X : Chain → World → Prop} {q : Bool} {w : World} {k : Value → World → Prop} {b o : Nat} {v : Value} (hr : w.rangeAt b o v.cells.toList) (hv : Value.agg v.cells = v) (hs : v.cells.size = 32) (h : k v w) : kLoad ⟨Tryd.prog, X, q⟩ w 179 (.pointer (some ⟨b, o, none⟩)) k := kLoad_elt (c := ⟨Tryd.prog, X, q⟩) hr hv Tryd.underlying179 rfl Tryd.typeInfo179 hs.symm h
theorem xLdB179 {X : Chain → World → Prop} {q : Bool} {w : World} {k : Value → World → Prop} {w0 : World} {L : List Own} (hS : St w0 L w) (i : Nat) {b : Nat} {t : TypeId} {cs : Array Value} (hi : L[i]? = some (.bx b t cs)) (hn : cs.size = 32) (h : k (.agg cs) w) : kLoad ⟨Tryd.prog, X, q⟩ w 179 (.pointer (some ⟨b, 0, none⟩)) k := kLoadA_st (c := ⟨Tryd.prog, X, q⟩) hS i hi Tryd.underlying179 rfl Tryd.sizeOf179 hn.symm h
theorem xLdE180 {X : Chain → World → Prop} {q : Bool} {w : World} {k : Value → World → Prop} {b o : Nat} {v : Value} (hr : w.rangeAt b o v.cells.toList) (hv : Value.agg v.cells = v) (hs : v.cells.size = 64) (h : k v w) : kLoad ⟨Tryd.prog, X, q⟩ w 180 (.pointer (some ⟨b, o, none⟩)) k := kLoad_elt (c := ⟨Tryd.prog, X, q⟩) hr hv Tryd.underlying180 rfl Tryd.typeInfo180 hs.symm h
theorem xLdB180 {X : Chain → World → Prop} {q : Bool} {w : World} {k : Value → World → Prop} {w0 : World} {L : List Own} (hS : St w0 L w) (i : Nat) {b : Nat} {t : TypeId} {cs : Array Value} (hi : L[i]? = some (.bx b t cs)) (hn : cs.size = 64) (h : k (.agg cs) w) : kLoad ⟨Tryd.prog, X, q⟩ w 180 (.pointer (some ⟨b, 0, none⟩)) k := kLoadA_st (c := ⟨Tryd.prog, X, q⟩) hS i hi Tryd.underlying180 rfl Tryd.sizeOf180 hn.symm h
end Go.L
