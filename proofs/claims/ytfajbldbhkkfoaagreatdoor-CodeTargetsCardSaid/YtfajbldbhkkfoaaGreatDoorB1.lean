/- Contracts of single functions: no condition but those that each states. -/
import Derived.Test.YtfajbldbhkkfoaaGreatDoorV1
import Derived.Test.YtfajbldbhkkfoaaGreatDoorV2
import Derived.Test.YtfajbldbhkkfoaaGreatDoorA2
import Derived.Laws.Slices
set_option linter.unusedVariables false
set_option linter.unusedSimpArgs false
namespace Go.L
open Go Go.RowKit Go.Proofs
set_option linter.unusedSimpArgs false
set_option linter.unusedVariables false

/-- Types of one cell. -/
def scal (t : TypeId) : Bool := t == 1 || t == 2 || t == 3 || t == 4 || t == 5 || t == 9 || t == 21 || t == 22 || t == 26 || t == 33 || t == 34 || t == 37 || t == 40 || t == 44 || t == 56 || t == 57 || t == 60 || t == 65 || t == 68 || t == 70 || t == 71 || t == 74 || t == 75 || t == 78 || t == 79 || t == 80 || t == 87 || t == 97 || t == 99 || t == 101 || t == 103 || t == 104 || t == 112 || t == 122 || t == 131 || t == 137 || t == 140 || t == 145 || t == 155 || t == 157 || t == 181 || t == 189 || t == 197 || t == 200 || t == 205 || t == 211 || t == 212
theorem scal_agg {t : TypeId} (h : scal t = true) (w : World) : (isAgg t).run Tryz.prog w = .ok false w := by
  simp only [scal, Bool.or_eq_true, beq_iff_eq] at h
  rcases h with ((((((((((((((((((((((((((((((((((((((((((((((rfl | rfl) | rfl) | rfl) | rfl) | rfl) | rfl) | rfl) | rfl) | rfl) | rfl) | rfl) | rfl) | rfl) | rfl) | rfl) | rfl) | rfl) | rfl) | rfl) | rfl) | rfl) | rfl) | rfl) | rfl) | rfl) | rfl) | rfl) | rfl) | rfl) | rfl) | rfl) | rfl) | rfl) | rfl) | rfl) | rfl) | rfl) | rfl) | rfl) | rfl) | rfl) | rfl) | rfl) | rfl) | rfl) | rfl)
  · exact Tryz.isAgg1 w
  · exact Tryz.isAgg2 w
  · exact Tryz.isAgg3 w
  · exact Tryz.isAgg4 w
  · exact Tryz.isAgg5 w
  · exact Tryz.isAgg9 w
  · exact Tryz.isAgg21 w
  · exact Tryz.isAgg22 w
  · exact Tryz.isAgg26 w
  · exact Tryz.isAgg33 w
  · exact Tryz.isAgg34 w
  · exact Tryz.isAgg37 w
  · exact Tryz.isAgg40 w
  · exact Tryz.isAgg44 w
  · exact Tryz.isAgg56 w
  · exact Tryz.isAgg57 w
  · exact Tryz.isAgg60 w
  · exact Tryz.isAgg65 w
  · exact Tryz.isAgg68 w
  · exact Tryz.isAgg70 w
  · exact Tryz.isAgg71 w
  · exact Tryz.isAgg74 w
  · exact Tryz.isAgg75 w
  · exact Tryz.isAgg78 w
  · exact Tryz.isAgg79 w
  · exact Tryz.isAgg80 w
  · exact Tryz.isAgg87 w
  · exact Tryz.isAgg97 w
  · exact Tryz.isAgg99 w
  · exact Tryz.isAgg101 w
  · exact Tryz.isAgg103 w
  · exact Tryz.isAgg104 w
  · exact Tryz.isAgg112 w
  · exact Tryz.isAgg122 w
  · exact Tryz.isAgg131 w
  · exact Tryz.isAgg137 w
  · exact Tryz.isAgg140 w
  · exact Tryz.isAgg145 w
  · exact Tryz.isAgg155 w
  · exact Tryz.isAgg157 w
  · exact Tryz.isAgg181 w
  · exact Tryz.isAgg189 w
  · exact Tryz.isAgg197 w
  · exact Tryz.isAgg200 w
  · exact Tryz.isAgg205 w
  · exact Tryz.isAgg211 w
  · exact Tryz.isAgg212 w
theorem scal_size {t : TypeId} (h : scal t = true) (w : World) : (sizeOf t).run Tryz.prog w = .ok 1 w := by
  simp only [scal, Bool.or_eq_true, beq_iff_eq] at h
  rcases h with ((((((((((((((((((((((((((((((((((((((((((((((rfl | rfl) | rfl) | rfl) | rfl) | rfl) | rfl) | rfl) | rfl) | rfl) | rfl) | rfl) | rfl) | rfl) | rfl) | rfl) | rfl) | rfl) | rfl) | rfl) | rfl) | rfl) | rfl) | rfl) | rfl) | rfl) | rfl) | rfl) | rfl) | rfl) | rfl) | rfl) | rfl) | rfl) | rfl) | rfl) | rfl) | rfl) | rfl) | rfl) | rfl) | rfl) | rfl) | rfl) | rfl) | rfl) | rfl)
  · exact Tryz.sizeOf1 w
  · exact Tryz.sizeOf2 w
  · exact Tryz.sizeOf3 w
  · exact Tryz.sizeOf4 w
  · exact Tryz.sizeOf5 w
  · exact Tryz.sizeOf9 w
  · exact Tryz.sizeOf21 w
  · exact Tryz.sizeOf22 w
  · exact Tryz.sizeOf26 w
  · exact Tryz.sizeOf33 w
  · exact Tryz.sizeOf34 w
  · exact Tryz.sizeOf37 w
  · exact Tryz.sizeOf40 w
  · exact Tryz.sizeOf44 w
  · exact Tryz.sizeOf56 w
  · exact Tryz.sizeOf57 w
  · exact Tryz.sizeOf60 w
  · exact Tryz.sizeOf65 w
  · exact Tryz.sizeOf68 w
  · exact Tryz.sizeOf70 w
  · exact Tryz.sizeOf71 w
  · exact Tryz.sizeOf74 w
  · exact Tryz.sizeOf75 w
  · exact Tryz.sizeOf78 w
  · exact Tryz.sizeOf79 w
  · exact Tryz.sizeOf80 w
  · exact Tryz.sizeOf87 w
  · exact Tryz.sizeOf97 w
  · exact Tryz.sizeOf99 w
  · exact Tryz.sizeOf101 w
  · exact Tryz.sizeOf103 w
  · exact Tryz.sizeOf104 w
  · exact Tryz.sizeOf112 w
  · exact Tryz.sizeOf122 w
  · exact Tryz.sizeOf131 w
  · exact Tryz.sizeOf137 w
  · exact Tryz.sizeOf140 w
  · exact Tryz.sizeOf145 w
  · exact Tryz.sizeOf155 w
  · exact Tryz.sizeOf157 w
  · exact Tryz.sizeOf181 w
  · exact Tryz.sizeOf189 w
  · exact Tryz.sizeOf197 w
  · exact Tryz.sizeOf200 w
  · exact Tryz.sizeOf205 w
  · exact Tryz.sizeOf211 w
  · exact Tryz.sizeOf212 w
theorem xLen9 {X : Chain → World → Prop} {q : Bool} {w : World} {k : Value → World → Prop} {ty : TypeId} {s : ByteArray} {cs : Array Bool} (h : k (.int .i64 s.size) w) : kBlt ⟨Tryz.prog, X, q⟩ w .len #[9] ty cs #[.string s] k := kLen_str (c := ⟨Tryz.prog, X, q⟩) Tryz.underlying9 h
theorem xLen22 {X : Chain → World → Prop} {q : Bool} {w : World} {k : Value → World → Prop} {ty : TypeId} {o : Option Addr} {n cp : Nat} {cs : Array Bool} (h : k (.int .i64 n) w) : kBlt ⟨Tryz.prog, X, q⟩ w .len #[22] ty cs #[.slice o n cp] k := kLen_sl (c := ⟨Tryz.prog, X, q⟩) Tryz.underlying22 h
theorem xLen34 {X : Chain → World → Prop} {q : Bool} {w : World} {k : Value → World → Prop} {ty : TypeId} {o : Option Addr} {n cp : Nat} {cs : Array Bool} (h : k (.int .i64 n) w) : kBlt ⟨Tryz.prog, X, q⟩ w .len #[34] ty cs #[.slice o n cp] k := kLen_sl (c := ⟨Tryz.prog, X, q⟩) Tryz.underlying34 h
theorem xLen44 {X : Chain → World → Prop} {q : Bool} {w : World} {k : Value → World → Prop} {ty : TypeId} {o : Option Addr} {n cp : Nat} {cs : Array Bool} (h : k (.int .i64 n) w) : kBlt ⟨Tryz.prog, X, q⟩ w .len #[44] ty cs #[.slice o n cp] k := kLen_sl (c := ⟨Tryz.prog, X, q⟩) Tryz.underlying44 h
theorem xLen60 {X : Chain → World → Prop} {q : Bool} {w : World} {k : Value → World → Prop} {ty : TypeId} {o : Option Addr} {n cp : Nat} {cs : Array Bool} (h : k (.int .i64 n) w) : kBlt ⟨Tryz.prog, X, q⟩ w .len #[60] ty cs #[.slice o n cp] k := kLen_sl (c := ⟨Tryz.prog, X, q⟩) Tryz.underlying60 h
theorem xLen70 {X : Chain → World → Prop} {q : Bool} {w : World} {k : Value → World → Prop} {ty : TypeId} {o : Option Addr} {n cp : Nat} {cs : Array Bool} (h : k (.int .i64 n) w) : kBlt ⟨Tryz.prog, X, q⟩ w .len #[70] ty cs #[.slice o n cp] k := kLen_sl (c := ⟨Tryz.prog, X, q⟩) Tryz.underlying70 h
theorem xLen74 {X : Chain → World → Prop} {q : Bool} {w : World} {k : Value → World → Prop} {ty : TypeId} {o : Option Addr} {n cp : Nat} {cs : Array Bool} (h : k (.int .i64 n) w) : kBlt ⟨Tryz.prog, X, q⟩ w .len #[74] ty cs #[.slice o n cp] k := kLen_sl (c := ⟨Tryz.prog, X, q⟩) Tryz.underlying74 h
theorem xLen104 {X : Chain → World → Prop} {q : Bool} {w : World} {k : Value → World → Prop} {ty : TypeId} {o : Option Addr} {n cp : Nat} {cs : Array Bool} (h : k (.int .i64 n) w) : kBlt ⟨Tryz.prog, X, q⟩ w .len #[104] ty cs #[.slice o n cp] k := kLen_sl (c := ⟨Tryz.prog, X, q⟩) Tryz.underlying104 h
theorem xIa22 {X : Chain → World → Prop} {q : Bool} {w : World} {k : Value → World → Prop} {b o n cp : Nat} {i : Nat} (hi : i < n) (h : k (.pointer (some ⟨b, o + i * 10, none⟩)) w) : kIa ⟨Tryz.prog, X, q⟩ w 22 (.slice (some ⟨b, o, none⟩) n cp) (.int .i64 i) k := kIa_sl (c := ⟨Tryz.prog, X, q⟩) Tryz.underlying22 Tryz.sizeOf62 hi h
theorem xIaz22 {X : Chain → World → Prop} {q : Bool} {w : World} {k : Value → World → Prop} {b o n cp : Nat} {z : Int} (h0 : 0 ≤ z) (h1 : z < n) (h : k (.pointer (some ⟨b, o + z.toNat * 10, none⟩)) w) : kIa ⟨Tryz.prog, X, q⟩ w 22 (.slice (some ⟨b, o, none⟩) n cp) (.int .i64 z) k := kIa_int (c := ⟨Tryz.prog, X, q⟩) Tryz.underlying22 Tryz.sizeOf62 h0 h1 h
theorem xE22 (w : World) : Elt Tryz.prog 22 62 10 112 := ⟨Tryz.underlying22, ⟨Tryz.t62, _, info_of (Tryz.typeInfo62 w), rfl, rfl, rfl, rfl⟩, by omega, by omega⟩
theorem xIa34 {X : Chain → World → Prop} {q : Bool} {w : World} {k : Value → World → Prop} {b o n cp : Nat} {i : Nat} (hi : i < n) (h : k (.pointer (some ⟨b, o + i * 2, none⟩)) w) : kIa ⟨Tryz.prog, X, q⟩ w 34 (.slice (some ⟨b, o, none⟩) n cp) (.int .i64 i) k := kIa_sl (c := ⟨Tryz.prog, X, q⟩) Tryz.underlying34 Tryz.sizeOf42 hi h
theorem xIaz34 {X : Chain → World → Prop} {q : Bool} {w : World} {k : Value → World → Prop} {b o n cp : Nat} {z : Int} (h0 : 0 ≤ z) (h1 : z < n) (h : k (.pointer (some ⟨b, o + z.toNat * 2, none⟩)) w) : kIa ⟨Tryz.prog, X, q⟩ w 34 (.slice (some ⟨b, o, none⟩) n cp) (.int .i64 z) k := kIa_int (c := ⟨Tryz.prog, X, q⟩) Tryz.underlying34 Tryz.sizeOf42 h0 h1 h
theorem xE34 (w : World) : Elt Tryz.prog 34 42 2 16 := ⟨Tryz.underlying34, ⟨Tryz.t42, _, info_of (Tryz.typeInfo42 w), rfl, rfl, rfl, rfl⟩, by omega, by omega⟩
theorem xIa44 {X : Chain → World → Prop} {q : Bool} {w : World} {k : Value → World → Prop} {b o n cp : Nat} {i : Nat} (hi : i < n) (h : k (.pointer (some ⟨b, o + i * 1, none⟩)) w) : kIa ⟨Tryz.prog, X, q⟩ w 44 (.slice (some ⟨b, o, none⟩) n cp) (.int .i64 i) k := kIa_sl (c := ⟨Tryz.prog, X, q⟩) Tryz.underlying44 Tryz.sizeOf5 hi h
theorem xIaz44 {X : Chain → World → Prop} {q : Bool} {w : World} {k : Value → World → Prop} {b o n cp : Nat} {z : Int} (h0 : 0 ≤ z) (h1 : z < n) (h : k (.pointer (some ⟨b, o + z.toNat * 1, none⟩)) w) : kIa ⟨Tryz.prog, X, q⟩ w 44 (.slice (some ⟨b, o, none⟩) n cp) (.int .i64 z) k := kIa_int (c := ⟨Tryz.prog, X, q⟩) Tryz.underlying44 Tryz.sizeOf5 h0 h1 h
theorem xE44 (w : World) : Elt Tryz.prog 44 5 1 1 := ⟨Tryz.underlying44, ⟨Tryz.t5, _, info_of (Tryz.typeInfo5 w), rfl, rfl, rfl, rfl⟩, by omega, by omega⟩
theorem xSl44_l {X : Chain → World → Prop} {q : Bool} {w : World} {k : Value → World → Prop} {a : Option Addr} {n cp : Nat} {l : Nat} (h1 : l ≤ n) (h2 : n ≤ cp) (h : k (.slice (if cp = l then a else a.map (·.add (l * 1))) (n - l) (cp - l)) w) : kSl ⟨Tryz.prog, X, q⟩ w 44 (.slice a n cp) (some (.int .i64 l)) none none k :=
  ⟨kVal_pure (c := ⟨Tryz.prog, X, q⟩) (fun w' => by
    rw [run_sliceAt_slice w' 44 _ _ _ _ (elem_of Tryz.underlying44), run_slice_l w' 44 a n cp (elem_of Tryz.underlying44) .i64 l (by omega) (by omega)]
    rw [show Tryz.prog.elem 44 = 5 by simp [Program.elem, Tryz.underlying44], Tryz.sizeOf5]
    rfl) h⟩
theorem xSl44_h {X : Chain → World → Prop} {q : Bool} {w : World} {k : Value → World → Prop} {a : Option Addr} {n cp : Nat} {l : Nat} (h1 : l ≤ cp) (h : k (.slice (if cp = 0 then a else a.map (·.add (0 * 1))) l cp) w) : kSl ⟨Tryz.prog, X, q⟩ w 44 (.slice a n cp) none (some (.int .i64 l)) none k :=
  ⟨kVal_pure (c := ⟨Tryz.prog, X, q⟩) (fun w' => by
    rw [run_sliceAt_slice w' 44 _ _ _ _ (elem_of Tryz.underlying44), run_slice_h w' 44 a n cp (elem_of Tryz.underlying44) .i64 l (by omega) (by omega)]
    rw [show Tryz.prog.elem 44 = 5 by simp [Program.elem, Tryz.underlying44], Tryz.sizeOf5]
    rfl) h⟩
theorem xSl44_hm {X : Chain → World → Prop} {q : Bool} {w : World} {k : Value → World → Prop} {a : Option Addr} {n cp : Nat} {l : Nat} (h1 : l ≤ cp) (h : k (.slice (if l = 0 then a else a.map (·.add (0 * 1))) l l) w) : kSl ⟨Tryz.prog, X, q⟩ w 44 (.slice a n cp) none (some (.int .i64 l)) (some (.int .i64 l)) k :=
  ⟨kVal_pure (c := ⟨Tryz.prog, X, q⟩) (fun w' => by
    rw [run_sliceAt_slice w' 44 _ _ _ _ (elem_of Tryz.underlying44), run_slice_hm w' 44 a n cp (elem_of Tryz.underlying44) .i64 .i64 l l (by omega) (by omega) (by omega)]
    rw [show Tryz.prog.elem 44 = 5 by simp [Program.elem, Tryz.underlying44], Tryz.sizeOf5]
    rfl) h⟩
theorem xIa60 {X : Chain → World → Prop} {q : Bool} {w : World} {k : Value → World → Prop} {b o n cp : Nat} {i : Nat} (hi : i < n) (h : k (.pointer (some ⟨b, o + i * 1, none⟩)) w) : kIa ⟨Tryz.prog, X, q⟩ w 60 (.slice (some ⟨b, o, none⟩) n cp) (.int .i64 i) k := kIa_sl (c := ⟨Tryz.prog, X, q⟩) Tryz.underlying60 Tryz.sizeOf3 hi h
theorem xIaz60 {X : Chain → World → Prop} {q : Bool} {w : World} {k : Value → World → Prop} {b o n cp : Nat} {z : Int} (h0 : 0 ≤ z) (h1 : z < n) (h : k (.pointer (some ⟨b, o + z.toNat * 1, none⟩)) w) : kIa ⟨Tryz.prog, X, q⟩ w 60 (.slice (some ⟨b, o, none⟩) n cp) (.int .i64 z) k := kIa_int (c := ⟨Tryz.prog, X, q⟩) Tryz.underlying60 Tryz.sizeOf3 h0 h1 h
theorem xE60 (w : World) : Elt Tryz.prog 60 3 1 8 := ⟨Tryz.underlying60, ⟨Tryz.t3, _, info_of (Tryz.typeInfo3 w), rfl, rfl, rfl, rfl⟩, by omega, by omega⟩
theorem xSl60_l {X : Chain → World → Prop} {q : Bool} {w : World} {k : Value → World → Prop} {a : Option Addr} {n cp : Nat} {l : Nat} (h1 : l ≤ n) (h2 : n ≤ cp) (h : k (.slice (if cp = l then a else a.map (·.add (l * 1))) (n - l) (cp - l)) w) : kSl ⟨Tryz.prog, X, q⟩ w 60 (.slice a n cp) (some (.int .i64 l)) none none k :=
  ⟨kVal_pure (c := ⟨Tryz.prog, X, q⟩) (fun w' => by
    rw [run_sliceAt_slice w' 60 _ _ _ _ (elem_of Tryz.underlying60), run_slice_l w' 60 a n cp (elem_of Tryz.underlying60) .i64 l (by omega) (by omega)]
    rw [show Tryz.prog.elem 60 = 3 by simp [Program.elem, Tryz.underlying60], Tryz.sizeOf3]
    rfl) h⟩
theorem xSl60_h {X : Chain → World → Prop} {q : Bool} {w : World} {k : Value → World → Prop} {a : Option Addr} {n cp : Nat} {l : Nat} (h1 : l ≤ cp) (h : k (.slice (if cp = 0 then a else a.map (·.add (0 * 1))) l cp) w) : kSl ⟨Tryz.prog, X, q⟩ w 60 (.slice a n cp) none (some (.int .i64 l)) none k :=
  ⟨kVal_pure (c := ⟨Tryz.prog, X, q⟩) (fun w' => by
    rw [run_sliceAt_slice w' 60 _ _ _ _ (elem_of Tryz.underlying60), run_slice_h w' 60 a n cp (elem_of Tryz.underlying60) .i64 l (by omega) (by omega)]
    rw [show Tryz.prog.elem 60 = 3 by simp [Program.elem, Tryz.underlying60], Tryz.sizeOf3]
    rfl) h⟩
theorem xSl60_hm {X : Chain → World → Prop} {q : Bool} {w : World} {k : Value → World → Prop} {a : Option Addr} {n cp : Nat} {l : Nat} (h1 : l ≤ cp) (h : k (.slice (if l = 0 then a else a.map (·.add (0 * 1))) l l) w) : kSl ⟨Tryz.prog, X, q⟩ w 60 (.slice a n cp) none (some (.int .i64 l)) (some (.int .i64 l)) k :=
  ⟨kVal_pure (c := ⟨Tryz.prog, X, q⟩) (fun w' => by
    rw [run_sliceAt_slice w' 60 _ _ _ _ (elem_of Tryz.underlying60), run_slice_hm w' 60 a n cp (elem_of Tryz.underlying60) .i64 .i64 l l (by omega) (by omega) (by omega)]
    rw [show Tryz.prog.elem 60 = 3 by simp [Program.elem, Tryz.underlying60], Tryz.sizeOf3]
    rfl) h⟩
theorem xIa70 {X : Chain → World → Prop} {q : Bool} {w : World} {k : Value → World → Prop} {b o n cp : Nat} {i : Nat} (hi : i < n) (h : k (.pointer (some ⟨b, o + i * 4, none⟩)) w) : kIa ⟨Tryz.prog, X, q⟩ w 70 (.slice (some ⟨b, o, none⟩) n cp) (.int .i64 i) k := kIa_sl (c := ⟨Tryz.prog, X, q⟩) Tryz.underlying70 Tryz.sizeOf77 hi h
theorem xIaz70 {X : Chain → World → Prop} {q : Bool} {w : World} {k : Value → World → Prop} {b o n cp : Nat} {z : Int} (h0 : 0 ≤ z) (h1 : z < n) (h : k (.pointer (some ⟨b, o + z.toNat * 4, none⟩)) w) : kIa ⟨Tryz.prog, X, q⟩ w 70 (.slice (some ⟨b, o, none⟩) n cp) (.int .i64 z) k := kIa_int (c := ⟨Tryz.prog, X, q⟩) Tryz.underlying70 Tryz.sizeOf77 h0 h1 h
theorem xE70 (w : World) : Elt Tryz.prog 70 77 4 32 := ⟨Tryz.underlying70, ⟨Tryz.t77, _, info_of (Tryz.typeInfo77 w), rfl, rfl, rfl, rfl⟩, by omega, by omega⟩
theorem xIa74 {X : Chain → World → Prop} {q : Bool} {w : World} {k : Value → World → Prop} {b o n cp : Nat} {i : Nat} (hi : i < n) (h : k (.pointer (some ⟨b, o + i * 1, none⟩)) w) : kIa ⟨Tryz.prog, X, q⟩ w 74 (.slice (some ⟨b, o, none⟩) n cp) (.int .i64 i) k := kIa_sl (c := ⟨Tryz.prog, X, q⟩) Tryz.underlying74 Tryz.sizeOf9 hi h
theorem xIaz74 {X : Chain → World → Prop} {q : Bool} {w : World} {k : Value → World → Prop} {b o n cp : Nat} {z : Int} (h0 : 0 ≤ z) (h1 : z < n) (h : k (.pointer (some ⟨b, o + z.toNat * 1, none⟩)) w) : kIa ⟨Tryz.prog, X, q⟩ w 74 (.slice (some ⟨b, o, none⟩) n cp) (.int .i64 z) k := kIa_int (c := ⟨Tryz.prog, X, q⟩) Tryz.underlying74 Tryz.sizeOf9 h0 h1 h
theorem xE74 (w : World) : Elt Tryz.prog 74 9 1 16 := ⟨Tryz.underlying74, ⟨Tryz.t9, _, info_of (Tryz.typeInfo9 w), rfl, rfl, rfl, rfl⟩, by omega, by omega⟩
theorem xSl74_l {X : Chain → World → Prop} {q : Bool} {w : World} {k : Value → World → Prop} {a : Option Addr} {n cp : Nat} {l : Nat} (h1 : l ≤ n) (h2 : n ≤ cp) (h : k (.slice (if cp = l then a else a.map (·.add (l * 1))) (n - l) (cp - l)) w) : kSl ⟨Tryz.prog, X, q⟩ w 74 (.slice a n cp) (some (.int .i64 l)) none none k :=
  ⟨kVal_pure (c := ⟨Tryz.prog, X, q⟩) (fun w' => by
    rw [run_sliceAt_slice w' 74 _ _ _ _ (elem_of Tryz.underlying74), run_slice_l w' 74 a n cp (elem_of Tryz.underlying74) .i64 l (by omega) (by omega)]
    rw [show Tryz.prog.elem 74 = 9 by simp [Program.elem, Tryz.underlying74], Tryz.sizeOf9]
    rfl) h⟩
theorem xSl74_h {X : Chain → World → Prop} {q : Bool} {w : World} {k : Value → World → Prop} {a : Option Addr} {n cp : Nat} {l : Nat} (h1 : l ≤ cp) (h : k (.slice (if cp = 0 then a else a.map (·.add (0 * 1))) l cp) w) : kSl ⟨Tryz.prog, X, q⟩ w 74 (.slice a n cp) none (some (.int .i64 l)) none k :=
  ⟨kVal_pure (c := ⟨Tryz.prog, X, q⟩) (fun w' => by
    rw [run_sliceAt_slice w' 74 _ _ _ _ (elem_of Tryz.underlying74), run_slice_h w' 74 a n cp (elem_of Tryz.underlying74) .i64 l (by omega) (by omega)]
    rw [show Tryz.prog.elem 74 = 9 by simp [Program.elem, Tryz.underlying74], Tryz.sizeOf9]
    rfl) h⟩
theorem xSl74_hm {X : Chain → World → Prop} {q : Bool} {w : World} {k : Value → World → Prop} {a : Option Addr} {n cp : Nat} {l : Nat} (h1 : l ≤ cp) (h : k (.slice (if l = 0 then a else a.map (·.add (0 * 1))) l l) w) : kSl ⟨Tryz.prog, X, q⟩ w 74 (.slice a n cp) none (some (.int .i64 l)) (some (.int .i64 l)) k :=
  ⟨kVal_pure (c := ⟨Tryz.prog, X, q⟩) (fun w' => by
    rw [run_sliceAt_slice w' 74 _ _ _ _ (elem_of Tryz.underlying74), run_slice_hm w' 74 a n cp (elem_of Tryz.underlying74) .i64 .i64 l l (by omega) (by omega) (by omega)]
    rw [show Tryz.prog.elem 74 = 9 by simp [Program.elem, Tryz.underlying74], Tryz.sizeOf9]
    rfl) h⟩
theorem xIa104 {X : Chain → World → Prop} {q : Bool} {w : World} {k : Value → World → Prop} {b o n cp : Nat} {i : Nat} (hi : i < n) (h : k (.pointer (some ⟨b, o + i * 3, none⟩)) w) : kIa ⟨Tryz.prog, X, q⟩ w 104 (.slice (some ⟨b, o, none⟩) n cp) (.int .i64 i) k := kIa_sl (c := ⟨Tryz.prog, X, q⟩) Tryz.underlying104 Tryz.sizeOf59 hi h
theorem xIaz104 {X : Chain → World → Prop} {q : Bool} {w : World} {k : Value → World → Prop} {b o n cp : Nat} {z : Int} (h0 : 0 ≤ z) (h1 : z < n) (h : k (.pointer (some ⟨b, o + z.toNat * 3, none⟩)) w) : kIa ⟨Tryz.prog, X, q⟩ w 104 (.slice (some ⟨b, o, none⟩) n cp) (.int .i64 z) k := kIa_int (c := ⟨Tryz.prog, X, q⟩) Tryz.underlying104 Tryz.sizeOf59 h0 h1 h
theorem xE104 (w : World) : Elt Tryz.prog 104 59 3 32 := ⟨Tryz.underlying104, ⟨Tryz.t59, _, info_of (Tryz.typeInfo59 w), rfl, rfl, rfl, rfl⟩, by omega, by omega⟩
theorem xSl104_l {X : Chain → World → Prop} {q : Bool} {w : World} {k : Value → World → Prop} {a : Option Addr} {n cp : Nat} {l : Nat} (h1 : l ≤ n) (h2 : n ≤ cp) (h : k (.slice (if cp = l then a else a.map (·.add (l * 3))) (n - l) (cp - l)) w) : kSl ⟨Tryz.prog, X, q⟩ w 104 (.slice a n cp) (some (.int .i64 l)) none none k :=
  ⟨kVal_pure (c := ⟨Tryz.prog, X, q⟩) (fun w' => by
    rw [run_sliceAt_slice w' 104 _ _ _ _ (elem_of Tryz.underlying104), run_slice_l w' 104 a n cp (elem_of Tryz.underlying104) .i64 l (by omega) (by omega)]
    rw [show Tryz.prog.elem 104 = 59 by simp [Program.elem, Tryz.underlying104], Tryz.sizeOf59]
    rfl) h⟩
theorem xSl104_h {X : Chain → World → Prop} {q : Bool} {w : World} {k : Value → World → Prop} {a : Option Addr} {n cp : Nat} {l : Nat} (h1 : l ≤ cp) (h : k (.slice (if cp = 0 then a else a.map (·.add (0 * 3))) l cp) w) : kSl ⟨Tryz.prog, X, q⟩ w 104 (.slice a n cp) none (some (.int .i64 l)) none k :=
  ⟨kVal_pure (c := ⟨Tryz.prog, X, q⟩) (fun w' => by
    rw [run_sliceAt_slice w' 104 _ _ _ _ (elem_of Tryz.underlying104), run_slice_h w' 104 a n cp (elem_of Tryz.underlying104) .i64 l (by omega) (by omega)]
    rw [show Tryz.prog.elem 104 = 59 by simp [Program.elem, Tryz.underlying104], Tryz.sizeOf59]
    rfl) h⟩
theorem xSl104_hm {X : Chain → World → Prop} {q : Bool} {w : World} {k : Value → World → Prop} {a : Option Addr} {n cp : Nat} {l : Nat} (h1 : l ≤ cp) (h : k (.slice (if l = 0 then a else a.map (·.add (0 * 3))) l l) w) : kSl ⟨Tryz.prog, X, q⟩ w 104 (.slice a n cp) none (some (.int .i64 l)) (some (.int .i64 l)) k :=
  ⟨kVal_pure (c := ⟨Tryz.prog, X, q⟩) (fun w' => by
    rw [run_sliceAt_slice w' 104 _ _ _ _ (elem_of Tryz.underlying104), run_slice_hm w' 104 a n cp (elem_of Tryz.underlying104) .i64 .i64 l l (by omega) (by omega) (by omega)]
    rw [show Tryz.prog.elem 104 = 59 by simp [Program.elem, Tryz.underlying104], Tryz.sizeOf59]
    rfl) h⟩
theorem xFa42_0 {X : Chain → World → Prop} {q : Bool} {w : World} {k : Value → World → Prop} {b o : Nat} (h : k (.pointer (some ⟨b, o, none⟩)) w) : kFa ⟨Tryz.prog, X, q⟩ w 42 (.pointer (some ⟨b, o, none⟩)) 0 k := kFa_i (c := ⟨Tryz.prog, X, q⟩) Tryz.underlying42 rfl (n := 0) Tryz.sizeOf3 h
theorem xFa42_1 {X : Chain → World → Prop} {q : Bool} {w : World} {k : Value → World → Prop} {b o : Nat} (h : k (.pointer (some ⟨b, o + 1, none⟩)) w) : kFa ⟨Tryz.prog, X, q⟩ w 42 (.pointer (some ⟨b, o, none⟩)) 1 k := kFa_i (c := ⟨Tryz.prog, X, q⟩) Tryz.underlying42 rfl (n := 0) Tryz.sizeOf3 h
theorem xFa59_0 {X : Chain → World → Prop} {q : Bool} {w : World} {k : Value → World → Prop} {b o : Nat} (h : k (.pointer (some ⟨b, o, none⟩)) w) : kFa ⟨Tryz.prog, X, q⟩ w 59 (.pointer (some ⟨b, o, none⟩)) 0 k := kFa_i (c := ⟨Tryz.prog, X, q⟩) Tryz.underlying59 rfl (n := 0) Tryz.sizeOf57 h
theorem xFa59_1 {X : Chain → World → Prop} {q : Bool} {w : World} {k : Value → World → Prop} {b o : Nat} (h : k (.pointer (some ⟨b, o + 1, none⟩)) w) : kFa ⟨Tryz.prog, X, q⟩ w 59 (.pointer (some ⟨b, o, none⟩)) 1 k := kFa_i (c := ⟨Tryz.prog, X, q⟩) Tryz.underlying59 rfl (n := 0) Tryz.sizeOf2 h
theorem xFa59_2 {X : Chain → World → Prop} {q : Bool} {w : World} {k : Value → World → Prop} {b o : Nat} (h : k (.pointer (some ⟨b, o + 2, none⟩)) w) : kFa ⟨Tryz.prog, X, q⟩ w 59 (.pointer (some ⟨b, o, none⟩)) 2 k := kFa_i (c := ⟨Tryz.prog, X, q⟩) Tryz.underlying59 rfl (n := 0) Tryz.sizeOf9 h
theorem xFa62_0 {X : Chain → World → Prop} {q : Bool} {w : World} {k : Value → World → Prop} {b o : Nat} (h : k (.pointer (some ⟨b, o, none⟩)) w) : kFa ⟨Tryz.prog, X, q⟩ w 62 (.pointer (some ⟨b, o, none⟩)) 0 k := kFa_i (c := ⟨Tryz.prog, X, q⟩) Tryz.underlying62 rfl (n := 0) Tryz.sizeOf33 h
theorem xFa62_1 {X : Chain → World → Prop} {q : Bool} {w : World} {k : Value → World → Prop} {b o : Nat} (h : k (.pointer (some ⟨b, o + 1, none⟩)) w) : kFa ⟨Tryz.prog, X, q⟩ w 62 (.pointer (some ⟨b, o, none⟩)) 1 k := kFa_i (c := ⟨Tryz.prog, X, q⟩) Tryz.underlying62 rfl (n := 0) Tryz.sizeOf3 h
theorem xFa62_2 {X : Chain → World → Prop} {q : Bool} {w : World} {k : Value → World → Prop} {b o : Nat} (h : k (.pointer (some ⟨b, o + 2, none⟩)) w) : kFa ⟨Tryz.prog, X, q⟩ w 62 (.pointer (some ⟨b, o, none⟩)) 2 k := kFa_i (c := ⟨Tryz.prog, X, q⟩) Tryz.underlying62 rfl (n := 0) Tryz.sizeOf3 h
theorem xFa62_3 {X : Chain → World → Prop} {q : Bool} {w : World} {k : Value → World → Prop} {b o : Nat} (h : k (.pointer (some ⟨b, o + 3, none⟩)) w) : kFa ⟨Tryz.prog, X, q⟩ w 62 (.pointer (some ⟨b, o, none⟩)) 3 k := kFa_i (c := ⟨Tryz.prog, X, q⟩) Tryz.underlying62 rfl (n := 0) Tryz.sizeOf3 h
theorem xFa62_4 {X : Chain → World → Prop} {q : Bool} {w : World} {k : Value → World → Prop} {b o : Nat} (h : k (.pointer (some ⟨b, o + 4, none⟩)) w) : kFa ⟨Tryz.prog, X, q⟩ w 62 (.pointer (some ⟨b, o, none⟩)) 4 k := kFa_i (c := ⟨Tryz.prog, X, q⟩) Tryz.underlying62 rfl (n := 0) Tryz.sizeOf56 h
theorem xFa62_5 {X : Chain → World → Prop} {q : Bool} {w : World} {k : Value → World → Prop} {b o : Nat} (h : k (.pointer (some ⟨b, o + 5, none⟩)) w) : kFa ⟨Tryz.prog, X, q⟩ w 62 (.pointer (some ⟨b, o, none⟩)) 5 k := kFa_i (c := ⟨Tryz.prog, X, q⟩) Tryz.underlying62 rfl (n := 2) Tryz.sizeOf59 h
theorem xFa62_6 {X : Chain → World → Prop} {q : Bool} {w : World} {k : Value → World → Prop} {b o : Nat} (h : k (.pointer (some ⟨b, o + 8, none⟩)) w) : kFa ⟨Tryz.prog, X, q⟩ w 62 (.pointer (some ⟨b, o, none⟩)) 6 k := kFa_i (c := ⟨Tryz.prog, X, q⟩) Tryz.underlying62 rfl (n := 0) Tryz.sizeOf9 h
theorem xFa62_7 {X : Chain → World → Prop} {q : Bool} {w : World} {k : Value → World → Prop} {b o : Nat} (h : k (.pointer (some ⟨b, o + 9, none⟩)) w) : kFa ⟨Tryz.prog, X, q⟩ w 62 (.pointer (some ⟨b, o, none⟩)) 7 k := kFa_i (c := ⟨Tryz.prog, X, q⟩) Tryz.underlying62 rfl (n := 0) Tryz.sizeOf60 h
theorem xFa67_0 {X : Chain → World → Prop} {q : Bool} {w : World} {k : Value → World → Prop} {b o : Nat} (h : k (.pointer (some ⟨b, o, none⟩)) w) : kFa ⟨Tryz.prog, X, q⟩ w 67 (.pointer (some ⟨b, o, none⟩)) 0 k := kFa_i (c := ⟨Tryz.prog, X, q⟩) Tryz.underlying67 rfl (n := 0) Tryz.sizeOf65 h
theorem xFa67_1 {X : Chain → World → Prop} {q : Bool} {w : World} {k : Value → World → Prop} {b o : Nat} (h : k (.pointer (some ⟨b, o + 1, none⟩)) w) : kFa ⟨Tryz.prog, X, q⟩ w 67 (.pointer (some ⟨b, o, none⟩)) 1 k := kFa_i (c := ⟨Tryz.prog, X, q⟩) Tryz.underlying67 rfl (n := 0) Tryz.sizeOf44 h
theorem xFa73_0 {X : Chain → World → Prop} {q : Bool} {w : World} {k : Value → World → Prop} {b o : Nat} (h : k (.pointer (some ⟨b, o, none⟩)) w) : kFa ⟨Tryz.prog, X, q⟩ w 73 (.pointer (some ⟨b, o, none⟩)) 0 k := kFa_i (c := ⟨Tryz.prog, X, q⟩) Tryz.underlying73 rfl (n := 0) Tryz.sizeOf9 h
theorem xFa73_1 {X : Chain → World → Prop} {q : Bool} {w : World} {k : Value → World → Prop} {b o : Nat} (h : k (.pointer (some ⟨b, o + 1, none⟩)) w) : kFa ⟨Tryz.prog, X, q⟩ w 73 (.pointer (some ⟨b, o, none⟩)) 1 k := kFa_i (c := ⟨Tryz.prog, X, q⟩) Tryz.underlying73 rfl (n := 0) Tryz.sizeOf70 h
theorem xFa73_2 {X : Chain → World → Prop} {q : Bool} {w : World} {k : Value → World → Prop} {b o : Nat} (h : k (.pointer (some ⟨b, o + 2, none⟩)) w) : kFa ⟨Tryz.prog, X, q⟩ w 73 (.pointer (some ⟨b, o, none⟩)) 2 k := kFa_i (c := ⟨Tryz.prog, X, q⟩) Tryz.underlying73 rfl (n := 0) Tryz.sizeOf71 h
theorem xFa77_0 {X : Chain → World → Prop} {q : Bool} {w : World} {k : Value → World → Prop} {b o : Nat} (h : k (.pointer (some ⟨b, o, none⟩)) w) : kFa ⟨Tryz.prog, X, q⟩ w 77 (.pointer (some ⟨b, o, none⟩)) 0 k := kFa_i (c := ⟨Tryz.prog, X, q⟩) Tryz.underlying77 rfl (n := 0) Tryz.sizeOf75 h
theorem xFa77_1 {X : Chain → World → Prop} {q : Bool} {w : World} {k : Value → World → Prop} {b o : Nat} (h : k (.pointer (some ⟨b, o + 1, none⟩)) w) : kFa ⟨Tryz.prog, X, q⟩ w 77 (.pointer (some ⟨b, o, none⟩)) 1 k := kFa_i (c := ⟨Tryz.prog, X, q⟩) Tryz.underlying77 rfl (n := 0) Tryz.sizeOf3 h
theorem xFa77_2 {X : Chain → World → Prop} {q : Bool} {w : World} {k : Value → World → Prop} {b o : Nat} (h : k (.pointer (some ⟨b, o + 2, none⟩)) w) : kFa ⟨Tryz.prog, X, q⟩ w 77 (.pointer (some ⟨b, o, none⟩)) 2 k := kFa_i (c := ⟨Tryz.prog, X, q⟩) Tryz.underlying77 rfl (n := 0) Tryz.sizeOf3 h
theorem xFa77_3 {X : Chain → World → Prop} {q : Bool} {w : World} {k : Value → World → Prop} {b o : Nat} (h : k (.pointer (some ⟨b, o + 3, none⟩)) w) : kFa ⟨Tryz.prog, X, q⟩ w 77 (.pointer (some ⟨b, o, none⟩)) 3 k := kFa_i (c := ⟨Tryz.prog, X, q⟩) Tryz.underlying77 rfl (n := 0) Tryz.sizeOf4 h
theorem xFa82_0 {X : Chain → World → Prop} {q : Bool} {w : World} {k : Value → World → Prop} {b o : Nat} (h : k (.pointer (some ⟨b, o, none⟩)) w) : kFa ⟨Tryz.prog, X, q⟩ w 82 (.pointer (some ⟨b, o, none⟩)) 0 k := kFa_i (c := ⟨Tryz.prog, X, q⟩) Tryz.underlying82 rfl (n := 0) Tryz.sizeOf9 h
theorem xFa82_1 {X : Chain → World → Prop} {q : Bool} {w : World} {k : Value → World → Prop} {b o : Nat} (h : k (.pointer (some ⟨b, o + 1, none⟩)) w) : kFa ⟨Tryz.prog, X, q⟩ w 82 (.pointer (some ⟨b, o, none⟩)) 1 k := kFa_i (c := ⟨Tryz.prog, X, q⟩) Tryz.underlying82 rfl (n := 0) Tryz.sizeOf3 h
theorem xFa82_2 {X : Chain → World → Prop} {q : Bool} {w : World} {k : Value → World → Prop} {b o : Nat} (h : k (.pointer (some ⟨b, o + 2, none⟩)) w) : kFa ⟨Tryz.prog, X, q⟩ w 82 (.pointer (some ⟨b, o, none⟩)) 2 k := kFa_i (c := ⟨Tryz.prog, X, q⟩) Tryz.underlying82 rfl (n := 0) Tryz.sizeOf80 h
theorem xFa82_3 {X : Chain → World → Prop} {q : Bool} {w : World} {k : Value → World → Prop} {b o : Nat} (h : k (.pointer (some ⟨b, o + 3, none⟩)) w) : kFa ⟨Tryz.prog, X, q⟩ w 82 (.pointer (some ⟨b, o, none⟩)) 3 k := kFa_i (c := ⟨Tryz.prog, X, q⟩) Tryz.underlying82 rfl (n := 0) Tryz.sizeOf80 h
theorem xFa114_0 {X : Chain → World → Prop} {q : Bool} {w : World} {k : Value → World → Prop} {b o : Nat} (h : k (.pointer (some ⟨b, o, none⟩)) w) : kFa ⟨Tryz.prog, X, q⟩ w 114 (.pointer (some ⟨b, o, none⟩)) 0 k := kFa_i (c := ⟨Tryz.prog, X, q⟩) Tryz.underlying114 rfl (n := 0) Tryz.sizeOf22 h
theorem xFa116_0 {X : Chain → World → Prop} {q : Bool} {w : World} {k : Value → World → Prop} {b o : Nat} (h : k (.pointer (some ⟨b, o, none⟩)) w) : kFa ⟨Tryz.prog, X, q⟩ w 116 (.pointer (some ⟨b, o, none⟩)) 0 k := kFa_i (c := ⟨Tryz.prog, X, q⟩) Tryz.underlying116 rfl (n := 0) Tryz.sizeOf114 h
theorem xFa116_1 {X : Chain → World → Prop} {q : Bool} {w : World} {k : Value → World → Prop} {b o : Nat} (h : k (.pointer (some ⟨b, o + 1, none⟩)) w) : kFa ⟨Tryz.prog, X, q⟩ w 116 (.pointer (some ⟨b, o, none⟩)) 1 k := kFa_i (c := ⟨Tryz.prog, X, q⟩) Tryz.underlying116 rfl (n := 0) Tryz.sizeOf44 h
theorem xFa142_0 {X : Chain → World → Prop} {q : Bool} {w : World} {k : Value → World → Prop} {b o : Nat} (h : k (.pointer (some ⟨b, o, none⟩)) w) : kFa ⟨Tryz.prog, X, q⟩ w 142 (.pointer (some ⟨b, o, none⟩)) 0 k := kFa_i (c := ⟨Tryz.prog, X, q⟩) Tryz.underlying142 rfl (n := 0) Tryz.sizeOf44 h
theorem xFa144_0 {X : Chain → World → Prop} {q : Bool} {w : World} {k : Value → World → Prop} {b o : Nat} (h : k (.pointer (some ⟨b, o, none⟩)) w) : kFa ⟨Tryz.prog, X, q⟩ w 144 (.pointer (some ⟨b, o, none⟩)) 0 k := kFa_i (c := ⟨Tryz.prog, X, q⟩) Tryz.underlying144 rfl (n := 0) Tryz.sizeOf142 h
theorem xFa192_0 {X : Chain → World → Prop} {q : Bool} {w : World} {k : Value → World → Prop} {b o : Nat} (h : k (.pointer (some ⟨b, o, none⟩)) w) : kFa ⟨Tryz.prog, X, q⟩ w 192 (.pointer (some ⟨b, o, none⟩)) 0 k := kFa_i (c := ⟨Tryz.prog, X, q⟩) Tryz.underlying192 rfl (n := 0) Tryz.sizeOf44 h
theorem xFa194_0 {X : Chain → World → Prop} {q : Bool} {w : World} {k : Value → World → Prop} {b o : Nat} (h : k (.pointer (some ⟨b, o, none⟩)) w) : kFa ⟨Tryz.prog, X, q⟩ w 194 (.pointer (some ⟨b, o, none⟩)) 0 k := kFa_i (c := ⟨Tryz.prog, X, q⟩) Tryz.underlying194 rfl (n := 0) Tryz.sizeOf192 h
theorem xFa220_0 {X : Chain → World → Prop} {q : Bool} {w : World} {k : Value → World → Prop} {b o : Nat} (h : k (.pointer (some ⟨b, o, none⟩)) w) : kFa ⟨Tryz.prog, X, q⟩ w 220 (.pointer (some ⟨b, o, none⟩)) 0 k := kFa_i (c := ⟨Tryz.prog, X, q⟩) Tryz.underlying220 rfl (n := 0) Tryz.sizeOf5 h
theorem xFa220_1 {X : Chain → World → Prop} {q : Bool} {w : World} {k : Value → World → Prop} {b o : Nat} (h : k (.pointer (some ⟨b, o + 1, none⟩)) w) : kFa ⟨Tryz.prog, X, q⟩ w 220 (.pointer (some ⟨b, o, none⟩)) 1 k := kFa_i (c := ⟨Tryz.prog, X, q⟩) Tryz.underlying220 rfl (n := 0) Tryz.sizeOf5 h
theorem xLdE59 {X : Chain → World → Prop} {q : Bool} {w : World} {k : Value → World → Prop} {b o : Nat} {v : Value} (hr : w.rangeAt b o v.cells.toList) (hv : Value.agg v.cells = v) (hs : v.cells.size = 3) (h : k v w) : kLoad ⟨Tryz.prog, X, q⟩ w 59 (.pointer (some ⟨b, o, none⟩)) k := kLoad_elt (c := ⟨Tryz.prog, X, q⟩) hr hv Tryz.underlying59 rfl Tryz.typeInfo59 hs.symm h
theorem xLdB59 {X : Chain → World → Prop} {q : Bool} {w : World} {k : Value → World → Prop} {w0 : World} {L : List Own} (hS : St w0 L w) (i : Nat) {b : Nat} {t : TypeId} {cs : Array Value} (hi : L[i]? = some (.bx b t cs)) (hn : cs.size = 3) (h : k (.agg cs) w) : kLoad ⟨Tryz.prog, X, q⟩ w 59 (.pointer (some ⟨b, 0, none⟩)) k := kLoadA_st (c := ⟨Tryz.prog, X, q⟩) hS i hi Tryz.underlying59 rfl Tryz.sizeOf59 hn.symm h
theorem xLdE62 {X : Chain → World → Prop} {q : Bool} {w : World} {k : Value → World → Prop} {b o : Nat} {v : Value} (hr : w.rangeAt b o v.cells.toList) (hv : Value.agg v.cells = v) (hs : v.cells.size = 10) (h : k v w) : kLoad ⟨Tryz.prog, X, q⟩ w 62 (.pointer (some ⟨b, o, none⟩)) k := kLoad_elt (c := ⟨Tryz.prog, X, q⟩) hr hv Tryz.underlying62 rfl Tryz.typeInfo62 hs.symm h
theorem xLdB62 {X : Chain → World → Prop} {q : Bool} {w : World} {k : Value → World → Prop} {w0 : World} {L : List Own} (hS : St w0 L w) (i : Nat) {b : Nat} {t : TypeId} {cs : Array Value} (hi : L[i]? = some (.bx b t cs)) (hn : cs.size = 10) (h : k (.agg cs) w) : kLoad ⟨Tryz.prog, X, q⟩ w 62 (.pointer (some ⟨b, 0, none⟩)) k := kLoadA_st (c := ⟨Tryz.prog, X, q⟩) hS i hi Tryz.underlying62 rfl Tryz.sizeOf62 hn.symm h
theorem xLdE67 {X : Chain → World → Prop} {q : Bool} {w : World} {k : Value → World → Prop} {b o : Nat} {v : Value} (hr : w.rangeAt b o v.cells.toList) (hv : Value.agg v.cells = v) (hs : v.cells.size = 2) (h : k v w) : kLoad ⟨Tryz.prog, X, q⟩ w 67 (.pointer (some ⟨b, o, none⟩)) k := kLoad_elt (c := ⟨Tryz.prog, X, q⟩) hr hv Tryz.underlying67 rfl Tryz.typeInfo67 hs.symm h
theorem xLdB67 {X : Chain → World → Prop} {q : Bool} {w : World} {k : Value → World → Prop} {w0 : World} {L : List Own} (hS : St w0 L w) (i : Nat) {b : Nat} {t : TypeId} {cs : Array Value} (hi : L[i]? = some (.bx b t cs)) (hn : cs.size = 2) (h : k (.agg cs) w) : kLoad ⟨Tryz.prog, X, q⟩ w 67 (.pointer (some ⟨b, 0, none⟩)) k := kLoadA_st (c := ⟨Tryz.prog, X, q⟩) hS i hi Tryz.underlying67 rfl Tryz.sizeOf67 hn.symm h
theorem xLdE73 {X : Chain → World → Prop} {q : Bool} {w : World} {k : Value → World → Prop} {b o : Nat} {v : Value} (hr : w.rangeAt b o v.cells.toList) (hv : Value.agg v.cells = v) (hs : v.cells.size = 3) (h : k v w) : kLoad ⟨Tryz.prog, X, q⟩ w 73 (.pointer (some ⟨b, o, none⟩)) k := kLoad_elt (c := ⟨Tryz.prog, X, q⟩) hr hv Tryz.underlying73 rfl Tryz.typeInfo73 hs.symm h
theorem xLdB73 {X : Chain → World → Prop} {q : Bool} {w : World} {k : Value → World → Prop} {w0 : World} {L : List Own} (hS : St w0 L w) (i : Nat) {b : Nat} {t : TypeId} {cs : Array Value} (hi : L[i]? = some (.bx b t cs)) (hn : cs.size = 3) (h : k (.agg cs) w) : kLoad ⟨Tryz.prog, X, q⟩ w 73 (.pointer (some ⟨b, 0, none⟩)) k := kLoadA_st (c := ⟨Tryz.prog, X, q⟩) hS i hi Tryz.underlying73 rfl Tryz.sizeOf73 hn.symm h
theorem xLdE77 {X : Chain → World → Prop} {q : Bool} {w : World} {k : Value → World → Prop} {b o : Nat} {v : Value} (hr : w.rangeAt b o v.cells.toList) (hv : Value.agg v.cells = v) (hs : v.cells.size = 4) (h : k v w) : kLoad ⟨Tryz.prog, X, q⟩ w 77 (.pointer (some ⟨b, o, none⟩)) k := kLoad_elt (c := ⟨Tryz.prog, X, q⟩) hr hv Tryz.underlying77 rfl Tryz.typeInfo77 hs.symm h
theorem xLdB77 {X : Chain → World → Prop} {q : Bool} {w : World} {k : Value → World → Prop} {w0 : World} {L : List Own} (hS : St w0 L w) (i : Nat) {b : Nat} {t : TypeId} {cs : Array Value} (hi : L[i]? = some (.bx b t cs)) (hn : cs.size = 4) (h : k (.agg cs) w) : kLoad ⟨Tryz.prog, X, q⟩ w 77 (.pointer (some ⟨b, 0, none⟩)) k := kLoadA_st (c := ⟨Tryz.prog, X, q⟩) hS i hi Tryz.underlying77 rfl Tryz.sizeOf77 hn.symm h
theorem xLdE82 {X : Chain → World → Prop} {q : Bool} {w : World} {k : Value → World → Prop} {b o : Nat} {v : Value} (hr : w.rangeAt b o v.cells.toList) (hv : Value.agg v.cells = v) (hs : v.cells.size = 4) (h : k v w) : kLoad ⟨Tryz.prog, X, q⟩ w 82 (.pointer (some ⟨b, o, none⟩)) k := kLoad_elt (c := ⟨Tryz.prog, X, q⟩) hr hv Tryz.underlying82 rfl Tryz.typeInfo82 hs.symm h
theorem xLdB82 {X : Chain → World → Prop} {q : Bool} {w : World} {k : Value → World → Prop} {w0 : World} {L : List Own} (hS : St w0 L w) (i : Nat) {b : Nat} {t : TypeId} {cs : Array Value} (hi : L[i]? = some (.bx b t cs)) (hn : cs.size = 4) (h : k (.agg cs) w) : kLoad ⟨Tryz.prog, X, q⟩ w 82 (.pointer (some ⟨b, 0, none⟩)) k := kLoadA_st (c := ⟨Tryz.prog, X, q⟩) hS i hi Tryz.underlying82 rfl Tryz.sizeOf82 hn.symm h
theorem xLdE127 {X : Chain → World → Prop} {q : Bool} {w : World} {k : Value → World → Prop} {b o : Nat} {v : Value} (hr : w.rangeAt b o v.cells.toList) (hv : Value.agg v.cells = v) (hs : v.cells.size = 84) (h : k v w) : kLoad ⟨Tryz.prog, X, q⟩ w 127 (.pointer (some ⟨b, o, none⟩)) k := kLoad_elt (c := ⟨Tryz.prog, X, q⟩) hr hv Tryz.underlying127 rfl Tryz.typeInfo127 hs.symm h
theorem xLdB127 {X : Chain → World → Prop} {q : Bool} {w : World} {k : Value → World → Prop} {w0 : World} {L : List Own} (hS : St w0 L w) (i : Nat) {b : Nat} {t : TypeId} {cs : Array Value} (hi : L[i]? = some (.bx b t cs)) (hn : cs.size = 84) (h : k (.agg cs) w) : kLoad ⟨Tryz.prog, X, q⟩ w 127 (.pointer (some ⟨b, 0, none⟩)) k := kLoadA_st (c := ⟨Tryz.prog, X, q⟩) hS i hi Tryz.underlying127 rfl Tryz.sizeOf127 hn.symm h
theorem xLdE183 {X : Chain → World → Prop} {q : Bool} {w : World} {k : Value → World → Prop} {b o : Nat} {v : Value} (hr : w.rangeAt b o v.cells.toList) (hv : Value.agg v.cells = v) (hs : v.cells.size = 24) (h : k v w) : kLoad ⟨Tryz.prog, X, q⟩ w 183 (.pointer (some ⟨b, o, none⟩)) k := kLoad_elt (c := ⟨Tryz.prog, X, q⟩) hr hv Tryz.underlying183 rfl Tryz.typeInfo183 hs.symm h
theorem xLdB183 {X : Chain → World → Prop} {q : Bool} {w : World} {k : Value → World → Prop} {w0 : World} {L : List Own} (hS : St w0 L w) (i : Nat) {b : Nat} {t : TypeId} {cs : Array Value} (hi : L[i]? = some (.bx b t cs)) (hn : cs.size = 24) (h : k (.agg cs) w) : kLoad ⟨Tryz.prog, X, q⟩ w 183 (.pointer (some ⟨b, 0, none⟩)) k := kLoadA_st (c := ⟨Tryz.prog, X, q⟩) hS i hi Tryz.underlying183 rfl Tryz.sizeOf183 hn.symm h
theorem xLdE204 {X : Chain → World → Prop} {q : Bool} {w : World} {k : Value → World → Prop} {b o : Nat} {v : Value} (hr : w.rangeAt b o v.cells.toList) (hv : Value.agg v.cells = v) (hs : v.cells.size = 20) (h : k v w) : kLoad ⟨Tryz.prog, X, q⟩ w 204 (.pointer (some ⟨b, o, none⟩)) k := kLoad_elt (c := ⟨Tryz.prog, X, q⟩) hr hv Tryz.underlying204 rfl Tryz.typeInfo204 hs.symm h
theorem xLdB204 {X : Chain → World → Prop} {q : Bool} {w : World} {k : Value → World → Prop} {w0 : World} {L : List Own} (hS : St w0 L w) (i : Nat) {b : Nat} {t : TypeId} {cs : Array Value} (hi : L[i]? = some (.bx b t cs)) (hn : cs.size = 20) (h : k (.agg cs) w) : kLoad ⟨Tryz.prog, X, q⟩ w 204 (.pointer (some ⟨b, 0, none⟩)) k := kLoadA_st (c := ⟨Tryz.prog, X, q⟩) hS i hi Tryz.underlying204 rfl Tryz.sizeOf204 hn.symm h
theorem xLdE206 {X : Chain → World → Prop} {q : Bool} {w : World} {k : Value → World → Prop} {b o : Nat} {v : Value} (hr : w.rangeAt b o v.cells.toList) (hv : Value.agg v.cells = v) (hs : v.cells.size = 65) (h : k v w) : kLoad ⟨Tryz.prog, X, q⟩ w 206 (.pointer (some ⟨b, o, none⟩)) k := kLoad_elt (c := ⟨Tryz.prog, X, q⟩) hr hv Tryz.underlying206 rfl Tryz.typeInfo206 hs.symm h
theorem xLdB206 {X : Chain → World → Prop} {q : Bool} {w : World} {k : Value → World → Prop} {w0 : World} {L : List Own} (hS : St w0 L w) (i : Nat) {b : Nat} {t : TypeId} {cs : Array Value} (hi : L[i]? = some (.bx b t cs)) (hn : cs.size = 65) (h : k (.agg cs) w) : kLoad ⟨Tryz.prog, X, q⟩ w 206 (.pointer (some ⟨b, 0, none⟩)) k := kLoadA_st (c := ⟨Tryz.prog, X, q⟩) hS i hi Tryz.underlying206 rfl Tryz.sizeOf206 hn.symm h
theorem xLdE216 {X : Chain → World → Prop} {q : Bool} {w : World} {k : Value → World → Prop} {b o : Nat} {v : Value} (hr : w.rangeAt b o v.cells.toList) (hv : Value.agg v.cells = v) (hs : v.cells.size = 32) (h : k v w) : kLoad ⟨Tryz.prog, X, q⟩ w 216 (.pointer (some ⟨b, o, none⟩)) k := kLoad_elt (c := ⟨Tryz.prog, X, q⟩) hr hv Tryz.underlying216 rfl Tryz.typeInfo216 hs.symm h
theorem xLdB216 {X : Chain → World → Prop} {q : Bool} {w : World} {k : Value → World → Prop} {w0 : World} {L : List Own} (hS : St w0 L w) (i : Nat) {b : Nat} {t : TypeId} {cs : Array Value} (hi : L[i]? = some (.bx b t cs)) (hn : cs.size = 32) (h : k (.agg cs) w) : kLoad ⟨Tryz.prog, X, q⟩ w 216 (.pointer (some ⟨b, 0, none⟩)) k := kLoadA_st (c := ⟨Tryz.prog, X, q⟩) hS i hi Tryz.underlying216 rfl Tryz.sizeOf216 hn.symm h
theorem xLdE217 {X : Chain → World → Prop} {q : Bool} {w : World} {k : Value → World → Prop} {b o : Nat} {v : Value} (hr : w.rangeAt b o v.cells.toList) (hv : Value.agg v.cells = v) (hs : v.cells.size = 64) (h : k v w) : kLoad ⟨Tryz.prog, X, q⟩ w 217 (.pointer (some ⟨b, o, none⟩)) k := kLoad_elt (c := ⟨Tryz.prog, X, q⟩) hr hv Tryz.underlying217 rfl Tryz.typeInfo217 hs.symm h
theorem xLdB217 {X : Chain → World → Prop} {q : Bool} {w : World} {k : Value → World → Prop} {w0 : World} {L : List Own} (hS : St w0 L w) (i : Nat) {b : Nat} {t : TypeId} {cs : Array Value} (hi : L[i]? = some (.bx b t cs)) (hn : cs.size = 64) (h : k (.agg cs) w) : kLoad ⟨Tryz.prog, X, q⟩ w 217 (.pointer (some ⟨b, 0, none⟩)) k := kLoadA_st (c := ⟨Tryz.prog, X, q⟩) hS i hi Tryz.underlying217 rfl Tryz.sizeOf217 hn.symm h
theorem xLdE220 {X : Chain → World → Prop} {q : Bool} {w : World} {k : Value → World → Prop} {b o : Nat} {v : Value} (hr : w.rangeAt b o v.cells.toList) (hv : Value.agg v.cells = v) (hs : v.cells.size = 2) (h : k v w) : kLoad ⟨Tryz.prog, X, q⟩ w 220 (.pointer (some ⟨b, o, none⟩)) k := kLoad_elt (c := ⟨Tryz.prog, X, q⟩) hr hv Tryz.underlying220 rfl Tryz.typeInfo220 hs.symm h
theorem xLdB220 {X : Chain → World → Prop} {q : Bool} {w : World} {k : Value → World → Prop} {w0 : World} {L : List Own} (hS : St w0 L w) (i : Nat) {b : Nat} {t : TypeId} {cs : Array Value} (hi : L[i]? = some (.bx b t cs)) (hn : cs.size = 2) (h : k (.agg cs) w) : kLoad ⟨Tryz.prog, X, q⟩ w 220 (.pointer (some ⟨b, 0, none⟩)) k := kLoadA_st (c := ⟨Tryz.prog, X, q⟩) hS i hi Tryz.underlying220 rfl Tryz.sizeOf220 hn.symm h
theorem xLdE221 {X : Chain → World → Prop} {q : Bool} {w : World} {k : Value → World → Prop} {b o : Nat} {v : Value} (hr : w.rangeAt b o v.cells.toList) (hv : Value.agg v.cells = v) (hs : v.cells.size = 32) (h : k v w) : kLoad ⟨Tryz.prog, X, q⟩ w 221 (.pointer (some ⟨b, o, none⟩)) k := kLoad_elt (c := ⟨Tryz.prog, X, q⟩) hr hv Tryz.underlying221 rfl Tryz.typeInfo221 hs.symm h
theorem xLdB221 {X : Chain → World → Prop} {q : Bool} {w : World} {k : Value → World → Prop} {w0 : World} {L : List Own} (hS : St w0 L w) (i : Nat) {b : Nat} {t : TypeId} {cs : Array Value} (hi : L[i]? = some (.bx b t cs)) (hn : cs.size = 32) (h : k (.agg cs) w) : kLoad ⟨Tryz.prog, X, q⟩ w 221 (.pointer (some ⟨b, 0, none⟩)) k := kLoadA_st (c := ⟨Tryz.prog, X, q⟩) hS i hi Tryz.underlying221 rfl Tryz.sizeOf221 hn.symm h
end Go.L
