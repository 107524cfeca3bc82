/- Contracts of single functions: no condition but those that each states. -/
import Derived.Test.YtfajbldbhkkfoaaGreatDoorV1
import Derived.Test.YtfajbldbhkkfoaaGreatDoorV2
import Derived.Test.YtfajbldbhkkfoaaGreatDoorA2
import Derived.Laws.Slices
import Derived.Below
import Derived.Carry
import Derived.ChangeArms
import Derived.Deep.AppendLies
import Derived.Deep.MidRow
import Derived.Great.BuildSlice
import Derived.JoinedCond
import Derived.Laws.Build
import Derived.Laws.BytesArg
import Derived.Laws.Cover1
import Derived.Laws.Small
import Derived.Laws.StructEq
import Derived.Laws.Tables
import Derived.Lib.AppendStr
import Derived.OpenShut
import Derived.ProofKit
import Derived.Tactics
import Derived.Tactics2
import Derived.WideMake
import Derived.Shelf.Strings.Builder1
import Derived.Shelf.Strings.Builder2
import Derived.Shelf.Utf8.RuneCount
import Derived.Shelf.Strconv.Itoa0
import Derived.Shelf.Strconv.Itoa1
import Derived.Shelf.LaysM
import Derived.Shelf.Strconv.Itoa2
import Derived.Shelf.Strconv.Itoa3
import Derived.Shelf.Strings.Search1
import Derived.Shelf.Strings.Search2
import Derived.Shelf.Strings.Search3
import Derived.Shelf.Strings.Count
import Derived.Shelf.Strings.Shaped
import Derived.Shelf.Strings.Split
import Derived.Shelf.Strings.Replace
import Derived.Shelf.Strings.SplitShaped
import Derived.Shelf.Unicode.Decode
import Derived.Shelf.Strings.RuneCount
import Derived.Shelf.Unicode.DecodeSlow
import Derived.Shelf.Unicode.DecodeAny
import Derived.Test.YtfajbldbhkkfoaaGreatDoorProg
set_option linter.unusedVariables false
set_option linter.unusedSimpArgs false
namespace Go.L
open Go Go.RowKit Go.Proofs
set_option linter.unusedSimpArgs false
set_option linter.unusedVariables false

/-- Types of one cell. -/
def scal (t : TypeId) : Bool := t == 1 || t == 2 || t == 3 || t == 4 || t == 5 || t == 9 || t == 21 || t == 22 || t == 26 || t == 33 || t == 34 || t == 37 || t == 40 || t == 44 || t == 56 || t == 57 || t == 60 || t == 65 || t == 68 || t == 70 || t == 71 || t == 74 || t == 75 || t == 78 || t == 79 || t == 80 || t == 87 || t == 97 || t == 99 || t == 101 || t == 103 || t == 104 || t == 112 || t == 122 || t == 131 || t == 137 || t == 140 || t == 145 || t == 155 || t == 157 || t == 181 || t == 189 || t == 197 || t == 200 || t == 205 || t == 211 || t == 212
theorem scal_agg {t : TypeId} (h : scal t = true) (w : World) : (isAgg t).run Tryz.prog w = .ok false w := by
  simp only [scal, Bool.or_eq_true, beq_iff_eq] at h
  rcases h with ((((((((((((((((((((((((((((((((((((((((((((((rfl | rfl) | rfl) | rfl) | rfl) | rfl) | rfl) | rfl) | rfl) | rfl) | rfl) | rfl) | rfl) | rfl) | rfl) | rfl) | rfl) | rfl) | rfl) | rfl) | rfl) | rfl) | rfl) | rfl) | rfl) | rfl) | rfl) | rfl) | rfl) | rfl) | rfl) | rfl) | rfl) | rfl) | rfl) | rfl) | rfl) | rfl) | rfl) | rfl) | rfl) | rfl) | rfl) | rfl) | rfl) | rfl) | rfl)
  · exact Tryz.isAgg1 w
  · exact Tryz.isAgg2 w
  · exact Tryz.isAgg3 w
  · exact Tryz.isAgg4 w
  · exact Tryz.isAgg5 w
  · exact Tryz.isAgg9 w
  · exact Tryz.isAgg21 w
  · exact Tryz.isAgg22 w
  · exact Tryz.isAgg26 w
  · exact Tryz.isAgg33 w
  · exact Tryz.isAgg34 w
  · exact Tryz.isAgg37 w
  · exact Tryz.isAgg40 w
  · exact Tryz.isAgg44 w
  · exact Tryz.isAgg56 w
  · exact Tryz.isAgg57 w
  · exact Tryz.isAgg60 w
  · exact Tryz.isAgg65 w
  · exact Tryz.isAgg68 w
  · exact Tryz.isAgg70 w
  · exact Tryz.isAgg71 w
  · exact Tryz.isAgg74 w
  · exact Tryz.isAgg75 w
  · exact Tryz.isAgg78 w
  · exact Tryz.isAgg79 w
  · exact Tryz.isAgg80 w
  · exact Tryz.isAgg87 w
  · exact Tryz.isAgg97 w
  · exact Tryz.isAgg99 w
  · exact Tryz.isAgg101 w
  · exact Tryz.isAgg103 w
  · exact Tryz.isAgg104 w
  · exact Tryz.isAgg112 w
  · exact Tryz.isAgg122 w
  · exact Tryz.isAgg131 w
  · exact Tryz.isAgg137 w
  · exact Tryz.isAgg140 w
  · exact Tryz.isAgg145 w
  · exact Tryz.isAgg155 w
  · exact Tryz.isAgg157 w
  · exact Tryz.isAgg181 w
  · exact Tryz.isAgg189 w
  · exact Tryz.isAgg197 w
  · exact Tryz.isAgg200 w
  · exact Tryz.isAgg205 w
  · exact Tryz.isAgg211 w
  · exact Tryz.isAgg212 w
theorem scal_size {t : TypeId} (h : scal t = true) (w : World) : (sizeOf t).run Tryz.prog w = .ok 1 w := by
  simp only [scal, Bool.or_eq_true, beq_iff_eq] at h
  rcases h with ((((((((((((((((((((((((((((((((((((((((((((((rfl | rfl) | rfl) | rfl) | rfl) | rfl) | rfl) | rfl) | rfl) | rfl) | rfl) | rfl) | rfl) | rfl) | rfl) | rfl) | rfl) | rfl) | rfl) | rfl) | rfl) | rfl) | rfl) | rfl) | rfl) | rfl) | rfl) | rfl) | rfl) | rfl) | rfl) | rfl) | rfl) | rfl) | rfl) | rfl) | rfl) | rfl) | rfl) | rfl) | rfl) | rfl) | rfl) | rfl) | rfl) | rfl) | rfl)
  · exact Tryz.sizeOf1 w
  · exact Tryz.sizeOf2 w
  · exact Tryz.sizeOf3 w
  · exact Tryz.sizeOf4 w
  · exact Tryz.sizeOf5 w
  · exact Tryz.sizeOf9 w
  · exact Tryz.sizeOf21 w
  · exact Tryz.sizeOf22 w
  · exact Tryz.sizeOf26 w
  · exact Tryz.sizeOf33 w
  · exact Tryz.sizeOf34 w
  · exact Tryz.sizeOf37 w
  · exact Tryz.sizeOf40 w
  · exact Tryz.sizeOf44 w
  · exact Tryz.sizeOf56 w
  · exact Tryz.sizeOf57 w
  · exact Tryz.sizeOf60 w
  · exact Tryz.sizeOf65 w
  · exact Tryz.sizeOf68 w
  · exact Tryz.sizeOf70 w
  · exact Tryz.sizeOf71 w
  · exact Tryz.sizeOf74 w
  · exact Tryz.sizeOf75 w
  · exact Tryz.sizeOf78 w
  · exact Tryz.sizeOf79 w
  · exact Tryz.sizeOf80 w
  · exact Tryz.sizeOf87 w
  · exact Tryz.sizeOf97 w
  · exact Tryz.sizeOf99 w
  · exact Tryz.sizeOf101 w
  · exact Tryz.sizeOf103 w
  · exact Tryz.sizeOf104 w
  · exact Tryz.sizeOf112 w
  · exact Tryz.sizeOf122 w
  · exact Tryz.sizeOf131 w
  · exact Tryz.sizeOf137 w
  · exact Tryz.sizeOf140 w
  · exact Tryz.sizeOf145 w
  · exact Tryz.sizeOf155 w
  · exact Tryz.sizeOf157 w
  · exact Tryz.sizeOf181 w
  · exact Tryz.sizeOf189 w
  · exact Tryz.sizeOf197 w
  · exact Tryz.sizeOf200 w
  · exact Tryz.sizeOf205 w
  · exact Tryz.sizeOf211 w
  · exact Tryz.sizeOf212 w
theorem xLen9 {X : Chain → World → Prop} {q : Bool} {w : World} {k : Value → World → Prop} {ty : TypeId} {s : ByteArray} {cs : Array Bool} (h : k (.int .i64 s.size) w) : kBlt ⟨Tryz.prog, X, q⟩ w .len #[9] ty cs #[.string s] k := kLen_str (c := ⟨Tryz.prog, X, q⟩) Tryz.underlying9 h
theorem xLen22 {X : Chain → World → Prop} {q : Bool} {w : World} {k : Value → World → Prop} {ty : TypeId} {o : Option Addr} {n cp : Nat} {cs : Array Bool} (h : k (.int .i64 n) w) : kBlt ⟨Tryz.prog, X, q⟩ w .len #[22] ty cs #[.slice o n cp] k := kLen_sl (c := ⟨Tryz.prog, X, q⟩) Tryz.underlying22 h
theorem xLen44 {X : Chain → World → Prop} {q : Bool} {w : World} {k : Value → World → Prop} {ty : TypeId} {o : Option Addr} {n cp : Nat} {cs : Array Bool} (h : k (.int .i64 n) w) : kBlt ⟨Tryz.prog, X, q⟩ w .len #[44] ty cs #[.slice o n cp] k := kLen_sl (c := ⟨Tryz.prog, X, q⟩) Tryz.underlying44 h
theorem xLen60 {X : Chain → World → Prop} {q : Bool} {w : World} {k : Value → World → Prop} {ty : TypeId} {o : Option Addr} {n cp : Nat} {cs : Array Bool} (h : k (.int .i64 n) w) : kBlt ⟨Tryz.prog, X, q⟩ w .len #[60] ty cs #[.slice o n cp] k := kLen_sl (c := ⟨Tryz.prog, X, q⟩) Tryz.underlying60 h
theorem xLen70 {X : Chain → World → Prop} {q : Bool} {w : World} {k : Value → World → Prop} {ty : TypeId} {o : Option Addr} {n cp : Nat} {cs : Array Bool} (h : k (.int .i64 n) w) : kBlt ⟨Tryz.prog, X, q⟩ w .len #[70] ty cs #[.slice o n cp] k := kLen_sl (c := ⟨Tryz.prog, X, q⟩) Tryz.underlying70 h
theorem xLen74 {X : Chain → World → Prop} {q : Bool} {w : World} {k : Value → World → Prop} {ty : TypeId} {o : Option Addr} {n cp : Nat} {cs : Array Bool} (h : k (.int .i64 n) w) : kBlt ⟨Tryz.prog, X, q⟩ w .len #[74] ty cs #[.slice o n cp] k := kLen_sl (c := ⟨Tryz.prog, X, q⟩) Tryz.underlying74 h
theorem xLen104 {X : Chain → World → Prop} {q : Bool} {w : World} {k : Value → World → Prop} {ty : TypeId} {o : Option Addr} {n cp : Nat} {cs : Array Bool} (h : k (.int .i64 n) w) : kBlt ⟨Tryz.prog, X, q⟩ w .len #[104] ty cs #[.slice o n cp] k := kLen_sl (c := ⟨Tryz.prog, X, q⟩) Tryz.underlying104 h
theorem xIa22 {X : Chain → World → Prop} {q : Bool} {w : World} {k : Value → World → Prop} {b o n cp : Nat} {i : Nat} (hi : i < n) (h : k (.pointer (some ⟨b, o + i * 10, none⟩)) w) : kIa ⟨Tryz.prog, X, q⟩ w 22 (.slice (some ⟨b, o, none⟩) n cp) (.int .i64 i) k := kIa_sl (c := ⟨Tryz.prog, X, q⟩) Tryz.underlying22 Tryz.sizeOf62 hi h
theorem xE22 (w : World) : Elt Tryz.prog 22 62 10 112 := ⟨Tryz.underlying22, ⟨Tryz.t62, _, info_of (Tryz.typeInfo62 w), rfl, rfl, rfl, rfl⟩, by omega, by omega⟩
theorem xIa44 {X : Chain → World → Prop} {q : Bool} {w : World} {k : Value → World → Prop} {b o n cp : Nat} {i : Nat} (hi : i < n) (h : k (.pointer (some ⟨b, o + i * 1, none⟩)) w) : kIa ⟨Tryz.prog, X, q⟩ w 44 (.slice (some ⟨b, o, none⟩) n cp) (.int .i64 i) k := kIa_sl (c := ⟨Tryz.prog, X, q⟩) Tryz.underlying44 Tryz.sizeOf5 hi h
theorem xE44 (w : World) : Elt Tryz.prog 44 5 1 1 := ⟨Tryz.underlying44, ⟨Tryz.t5, _, info_of (Tryz.typeInfo5 w), rfl, rfl, rfl, rfl⟩, by omega, by omega⟩
theorem xSl44_l {X : Chain → World → Prop} {q : Bool} {w : World} {k : Value → World → Prop} {a : Option Addr} {n cp : Nat} {l : Nat} (h1 : l ≤ n) (h2 : n ≤ cp) (h : k (.slice (if cp = l then a else a.map (·.add (l * 1))) (n - l) (cp - l)) w) : kSl ⟨Tryz.prog, X, q⟩ w 44 (.slice a n cp) (some (.int .i64 l)) none none k :=
  ⟨kVal_pure (c := ⟨Tryz.prog, X, q⟩) (fun w' => by
    rw [run_sliceAt_slice w' 44 _ _ _ _ (elem_of Tryz.underlying44), run_slice_l w' 44 a n cp (elem_of Tryz.underlying44) .i64 l (by omega) (by omega)]
    rw [show Tryz.prog.elem 44 = 5 by simp [Program.elem, Tryz.underlying44], Tryz.sizeOf5]
    rfl) h⟩
theorem xIa60 {X : Chain → World → Prop} {q : Bool} {w : World} {k : Value → World → Prop} {b o n cp : Nat} {i : Nat} (hi : i < n) (h : k (.pointer (some ⟨b, o + i * 1, none⟩)) w) : kIa ⟨Tryz.prog, X, q⟩ w 60 (.slice (some ⟨b, o, none⟩) n cp) (.int .i64 i) k := kIa_sl (c := ⟨Tryz.prog, X, q⟩) Tryz.underlying60 Tryz.sizeOf3 hi h
theorem xE60 (w : World) : Elt Tryz.prog 60 3 1 8 := ⟨Tryz.underlying60, ⟨Tryz.t3, _, info_of (Tryz.typeInfo3 w), rfl, rfl, rfl, rfl⟩, by omega, by omega⟩
theorem xSl60_l {X : Chain → World → Prop} {q : Bool} {w : World} {k : Value → World → Prop} {a : Option Addr} {n cp : Nat} {l : Nat} (h1 : l ≤ n) (h2 : n ≤ cp) (h : k (.slice (if cp = l then a else a.map (·.add (l * 1))) (n - l) (cp - l)) w) : kSl ⟨Tryz.prog, X, q⟩ w 60 (.slice a n cp) (some (.int .i64 l)) none none k :=
  ⟨kVal_pure (c := ⟨Tryz.prog, X, q⟩) (fun w' => by
    rw [run_sliceAt_slice w' 60 _ _ _ _ (elem_of Tryz.underlying60), run_slice_l w' 60 a n cp (elem_of Tryz.underlying60) .i64 l (by omega) (by omega)]
    rw [show Tryz.prog.elem 60 = 3 by simp [Program.elem, Tryz.underlying60], Tryz.sizeOf3]
    rfl) h⟩
theorem xIa70 {X : Chain → World → Prop} {q : Bool} {w : World} {k : Value → World → Prop} {b o n cp : Nat} {i : Nat} (hi : i < n) (h : k (.pointer (some ⟨b, o + i * 4, none⟩)) w) : kIa ⟨Tryz.prog, X, q⟩ w 70 (.slice (some ⟨b, o, none⟩) n cp) (.int .i64 i) k := kIa_sl (c := ⟨Tryz.prog, X, q⟩) Tryz.underlying70 Tryz.sizeOf77 hi h
theorem xE70 (w : World) : Elt Tryz.prog 70 77 4 32 := ⟨Tryz.underlying70, ⟨Tryz.t77, _, info_of (Tryz.typeInfo77 w), rfl, rfl, rfl, rfl⟩, by omega, by omega⟩
theorem xIa74 {X : Chain → World → Prop} {q : Bool} {w : World} {k : Value → World → Prop} {b o n cp : Nat} {i : Nat} (hi : i < n) (h : k (.pointer (some ⟨b, o + i * 1, none⟩)) w) : kIa ⟨Tryz.prog, X, q⟩ w 74 (.slice (some ⟨b, o, none⟩) n cp) (.int .i64 i) k := kIa_sl (c := ⟨Tryz.prog, X, q⟩) Tryz.underlying74 Tryz.sizeOf9 hi h
theorem xE74 (w : World) : Elt Tryz.prog 74 9 1 16 := ⟨Tryz.underlying74, ⟨Tryz.t9, _, info_of (Tryz.typeInfo9 w), rfl, rfl, rfl, rfl⟩, by omega, by omega⟩
theorem xSl74_l {X : Chain → World → Prop} {q : Bool} {w : World} {k : Value → World → Prop} {a : Option Addr} {n cp : Nat} {l : Nat} (h1 : l ≤ n) (h2 : n ≤ cp) (h : k (.slice (if cp = l then a else a.map (·.add (l * 1))) (n - l) (cp - l)) w) : kSl ⟨Tryz.prog, X, q⟩ w 74 (.slice a n cp) (some (.int .i64 l)) none none k :=
  ⟨kVal_pure (c := ⟨Tryz.prog, X, q⟩) (fun w' => by
    rw [run_sliceAt_slice w' 74 _ _ _ _ (elem_of Tryz.underlying74), run_slice_l w' 74 a n cp (elem_of Tryz.underlying74) .i64 l (by omega) (by omega)]
    rw [show Tryz.prog.elem 74 = 9 by simp [Program.elem, Tryz.underlying74], Tryz.sizeOf9]
    rfl) h⟩
theorem xIa104 {X : Chain → World → Prop} {q : Bool} {w : World} {k : Value → World → Prop} {b o n cp : Nat} {i : Nat} (hi : i < n) (h : k (.pointer (some ⟨b, o + i * 3, none⟩)) w) : kIa ⟨Tryz.prog, X, q⟩ w 104 (.slice (some ⟨b, o, none⟩) n cp) (.int .i64 i) k := kIa_sl (c := ⟨Tryz.prog, X, q⟩) Tryz.underlying104 Tryz.sizeOf59 hi h
theorem xE104 (w : World) : Elt Tryz.prog 104 59 3 32 := ⟨Tryz.underlying104, ⟨Tryz.t59, _, info_of (Tryz.typeInfo59 w), rfl, rfl, rfl, rfl⟩, by omega, by omega⟩
theorem xSl104_l {X : Chain → World → Prop} {q : Bool} {w : World} {k : Value → World → Prop} {a : Option Addr} {n cp : Nat} {l : Nat} (h1 : l ≤ n) (h2 : n ≤ cp) (h : k (.slice (if cp = l then a else a.map (·.add (l * 3))) (n - l) (cp - l)) w) : kSl ⟨Tryz.prog, X, q⟩ w 104 (.slice a n cp) (some (.int .i64 l)) none none k :=
  ⟨kVal_pure (c := ⟨Tryz.prog, X, q⟩) (fun w' => by
    rw [run_sliceAt_slice w' 104 _ _ _ _ (elem_of Tryz.underlying104), run_slice_l w' 104 a n cp (elem_of Tryz.underlying104) .i64 l (by omega) (by omega)]
    rw [show Tryz.prog.elem 104 = 59 by simp [Program.elem, Tryz.underlying104], Tryz.sizeOf59]
    rfl) h⟩
theorem xSl104_h {X : Chain → World → Prop} {q : Bool} {w : World} {k : Value → World → Prop} {a : Option Addr} {n cp : Nat} {l : Nat} (h1 : l ≤ cp) (h : k (.slice (if cp = 0 then a else a.map (·.add (0 * 3))) l cp) w) : kSl ⟨Tryz.prog, X, q⟩ w 104 (.slice a n cp) none (some (.int .i64 l)) none k :=
  ⟨kVal_pure (c := ⟨Tryz.prog, X, q⟩) (fun w' => by
    rw [run_sliceAt_slice w' 104 _ _ _ _ (elem_of Tryz.underlying104), run_slice_h w' 104 a n cp (elem_of Tryz.underlying104) .i64 l (by omega) (by omega)]
    rw [show Tryz.prog.elem 104 = 59 by simp [Program.elem, Tryz.underlying104], Tryz.sizeOf59]
    rfl) h⟩
theorem xFa59_0 {X : Chain → World → Prop} {q : Bool} {w : World} {k : Value → World → Prop} {b o : Nat} (h : k (.pointer (some ⟨b, o, none⟩)) w) : kFa ⟨Tryz.prog, X, q⟩ w 59 (.pointer (some ⟨b, o, none⟩)) 0 k := kFa_i (c := ⟨Tryz.prog, X, q⟩) Tryz.underlying59 rfl (n := 0) Tryz.sizeOf57 h
theorem xFa59_1 {X : Chain → World → Prop} {q : Bool} {w : World} {k : Value → World → Prop} {b o : Nat} (h : k (.pointer (some ⟨b, o + 1, none⟩)) w) : kFa ⟨Tryz.prog, X, q⟩ w 59 (.pointer (some ⟨b, o, none⟩)) 1 k := kFa_i (c := ⟨Tryz.prog, X, q⟩) Tryz.underlying59 rfl (n := 0) Tryz.sizeOf2 h
theorem xFa59_2 {X : Chain → World → Prop} {q : Bool} {w : World} {k : Value → World → Prop} {b o : Nat} (h : k (.pointer (some ⟨b, o + 2, none⟩)) w) : kFa ⟨Tryz.prog, X, q⟩ w 59 (.pointer (some ⟨b, o, none⟩)) 2 k := kFa_i (c := ⟨Tryz.prog, X, q⟩) Tryz.underlying59 rfl (n := 0) Tryz.sizeOf9 h
theorem xFa62_0 {X : Chain → World → Prop} {q : Bool} {w : World} {k : Value → World → Prop} {b o : Nat} (h : k (.pointer (some ⟨b, o, none⟩)) w) : kFa ⟨Tryz.prog, X, q⟩ w 62 (.pointer (some ⟨b, o, none⟩)) 0 k := kFa_i (c := ⟨Tryz.prog, X, q⟩) Tryz.underlying62 rfl (n := 0) Tryz.sizeOf33 h
theorem xFa62_1 {X : Chain → World → Prop} {q : Bool} {w : World} {k : Value → World → Prop} {b o : Nat} (h : k (.pointer (some ⟨b, o + 1, none⟩)) w) : kFa ⟨Tryz.prog, X, q⟩ w 62 (.pointer (some ⟨b, o, none⟩)) 1 k := kFa_i (c := ⟨Tryz.prog, X, q⟩) Tryz.underlying62 rfl (n := 0) Tryz.sizeOf3 h
theorem xFa62_2 {X : Chain → World → Prop} {q : Bool} {w : World} {k : Value → World → Prop} {b o : Nat} (h : k (.pointer (some ⟨b, o + 2, none⟩)) w) : kFa ⟨Tryz.prog, X, q⟩ w 62 (.pointer (some ⟨b, o, none⟩)) 2 k := kFa_i (c := ⟨Tryz.prog, X, q⟩) Tryz.underlying62 rfl (n := 0) Tryz.sizeOf3 h
theorem xFa62_3 {X : Chain → World → Prop} {q : Bool} {w : World} {k : Value → World → Prop} {b o : Nat} (h : k (.pointer (some ⟨b, o + 3, none⟩)) w) : kFa ⟨Tryz.prog, X, q⟩ w 62 (.pointer (some ⟨b, o, none⟩)) 3 k := kFa_i (c := ⟨Tryz.prog, X, q⟩) Tryz.underlying62 rfl (n := 0) Tryz.sizeOf3 h
theorem xFa62_4 {X : Chain → World → Prop} {q : Bool} {w : World} {k : Value → World → Prop} {b o : Nat} (h : k (.pointer (some ⟨b, o + 4, none⟩)) w) : kFa ⟨Tryz.prog, X, q⟩ w 62 (.pointer (some ⟨b, o, none⟩)) 4 k := kFa_i (c := ⟨Tryz.prog, X, q⟩) Tryz.underlying62 rfl (n := 0) Tryz.sizeOf56 h
theorem xFa62_5 {X : Chain → World → Prop} {q : Bool} {w : World} {k : Value → World → Prop} {b o : Nat} (h : k (.pointer (some ⟨b, o + 5, none⟩)) w) : kFa ⟨Tryz.prog, X, q⟩ w 62 (.pointer (some ⟨b, o, none⟩)) 5 k := kFa_i (c := ⟨Tryz.prog, X, q⟩) Tryz.underlying62 rfl (n := 2) Tryz.sizeOf59 h
theorem xFa62_6 {X : Chain → World → Prop} {q : Bool} {w : World} {k : Value → World → Prop} {b o : Nat} (h : k (.pointer (some ⟨b, o + 8, none⟩)) w) : kFa ⟨Tryz.prog, X, q⟩ w 62 (.pointer (some ⟨b, o, none⟩)) 6 k := kFa_i (c := ⟨Tryz.prog, X, q⟩) Tryz.underlying62 rfl (n := 0) Tryz.sizeOf9 h
theorem xFa62_7 {X : Chain → World → Prop} {q : Bool} {w : World} {k : Value → World → Prop} {b o : Nat} (h : k (.pointer (some ⟨b, o + 9, none⟩)) w) : kFa ⟨Tryz.prog, X, q⟩ w 62 (.pointer (some ⟨b, o, none⟩)) 7 k := kFa_i (c := ⟨Tryz.prog, X, q⟩) Tryz.underlying62 rfl (n := 0) Tryz.sizeOf60 h
theorem xFa73_1 {X : Chain → World → Prop} {q : Bool} {w : World} {k : Value → World → Prop} {b o : Nat} (h : k (.pointer (some ⟨b, o + 1, none⟩)) w) : kFa ⟨Tryz.prog, X, q⟩ w 73 (.pointer (some ⟨b, o, none⟩)) 1 k := kFa_i (c := ⟨Tryz.prog, X, q⟩) Tryz.underlying73 rfl (n := 0) Tryz.sizeOf70 h
theorem xFa73_2 {X : Chain → World → Prop} {q : Bool} {w : World} {k : Value → World → Prop} {b o : Nat} (h : k (.pointer (some ⟨b, o + 2, none⟩)) w) : kFa ⟨Tryz.prog, X, q⟩ w 73 (.pointer (some ⟨b, o, none⟩)) 2 k := kFa_i (c := ⟨Tryz.prog, X, q⟩) Tryz.underlying73 rfl (n := 0) Tryz.sizeOf71 h
theorem xFa77_0 {X : Chain → World → Prop} {q : Bool} {w : World} {k : Value → World → Prop} {b o : Nat} (h : k (.pointer (some ⟨b, o, none⟩)) w) : kFa ⟨Tryz.prog, X, q⟩ w 77 (.pointer (some ⟨b, o, none⟩)) 0 k := kFa_i (c := ⟨Tryz.prog, X, q⟩) Tryz.underlying77 rfl (n := 0) Tryz.sizeOf75 h
theorem xFa77_1 {X : Chain → World → Prop} {q : Bool} {w : World} {k : Value → World → Prop} {b o : Nat} (h : k (.pointer (some ⟨b, o + 1, none⟩)) w) : kFa ⟨Tryz.prog, X, q⟩ w 77 (.pointer (some ⟨b, o, none⟩)) 1 k := kFa_i (c := ⟨Tryz.prog, X, q⟩) Tryz.underlying77 rfl (n := 0) Tryz.sizeOf3 h
theorem xFa77_2 {X : Chain → World → Prop} {q : Bool} {w : World} {k : Value → World → Prop} {b o : Nat} (h : k (.pointer (some ⟨b, o + 2, none⟩)) w) : kFa ⟨Tryz.prog, X, q⟩ w 77 (.pointer (some ⟨b, o, none⟩)) 2 k := kFa_i (c := ⟨Tryz.prog, X, q⟩) Tryz.underlying77 rfl (n := 0) Tryz.sizeOf3 h
theorem xFa77_3 {X : Chain → World → Prop} {q : Bool} {w : World} {k : Value → World → Prop} {b o : Nat} (h : k (.pointer (some ⟨b, o + 3, none⟩)) w) : kFa ⟨Tryz.prog, X, q⟩ w 77 (.pointer (some ⟨b, o, none⟩)) 3 k := kFa_i (c := ⟨Tryz.prog, X, q⟩) Tryz.underlying77 rfl (n := 0) Tryz.sizeOf4 h
theorem xFa82_0 {X : Chain → World → Prop} {q : Bool} {w : World} {k : Value → World → Prop} {b o : Nat} (h : k (.pointer (some ⟨b, o, none⟩)) w) : kFa ⟨Tryz.prog, X, q⟩ w 82 (.pointer (some ⟨b, o, none⟩)) 0 k := kFa_i (c := ⟨Tryz.prog, X, q⟩) Tryz.underlying82 rfl (n := 0) Tryz.sizeOf9 h
theorem xFa82_1 {X : Chain → World → Prop} {q : Bool} {w : World} {k : Value → World → Prop} {b o : Nat} (h : k (.pointer (some ⟨b, o + 1, none⟩)) w) : kFa ⟨Tryz.prog, X, q⟩ w 82 (.pointer (some ⟨b, o, none⟩)) 1 k := kFa_i (c := ⟨Tryz.prog, X, q⟩) Tryz.underlying82 rfl (n := 0) Tryz.sizeOf3 h
theorem xFa114_0 {X : Chain → World → Prop} {q : Bool} {w : World} {k : Value → World → Prop} {b o : Nat} (h : k (.pointer (some ⟨b, o, none⟩)) w) : kFa ⟨Tryz.prog, X, q⟩ w 114 (.pointer (some ⟨b, o, none⟩)) 0 k := kFa_i (c := ⟨Tryz.prog, X, q⟩) Tryz.underlying114 rfl (n := 0) Tryz.sizeOf22 h
theorem xFa116_0 {X : Chain → World → Prop} {q : Bool} {w : World} {k : Value → World → Prop} {b o : Nat} (h : k (.pointer (some ⟨b, o, none⟩)) w) : kFa ⟨Tryz.prog, X, q⟩ w 116 (.pointer (some ⟨b, o, none⟩)) 0 k := kFa_i (c := ⟨Tryz.prog, X, q⟩) Tryz.underlying116 rfl (n := 0) Tryz.sizeOf114 h
theorem xFa116_1 {X : Chain → World → Prop} {q : Bool} {w : World} {k : Value → World → Prop} {b o : Nat} (h : k (.pointer (some ⟨b, o + 1, none⟩)) w) : kFa ⟨Tryz.prog, X, q⟩ w 116 (.pointer (some ⟨b, o, none⟩)) 1 k := kFa_i (c := ⟨Tryz.prog, X, q⟩) Tryz.underlying116 rfl (n := 0) Tryz.sizeOf44 h
theorem xLdE59 {X : Chain → World → Prop} {q : Bool} {w : World} {k : Value → World → Prop} {b o : Nat} {v : Value} (hr : w.rangeAt b o v.cells.toList) (hv : Value.agg v.cells = v) (hs : v.cells.size = 3) (h : k v w) : kLoad ⟨Tryz.prog, X, q⟩ w 59 (.pointer (some ⟨b, o, none⟩)) k := kLoad_elt (c := ⟨Tryz.prog, X, q⟩) hr hv Tryz.underlying59 rfl Tryz.typeInfo59 hs.symm h
theorem xLdB59 {X : Chain → World → Prop} {q : Bool} {w : World} {k : Value → World → Prop} {w0 : World} {L : List Own} (hS : St w0 L w) (i : Nat) {b : Nat} {t : TypeId} {cs : Array Value} (hi : L[i]? = some (.bx b t cs)) (hn : cs.size = 3) (h : k (.agg cs) w) : kLoad ⟨Tryz.prog, X, q⟩ w 59 (.pointer (some ⟨b, 0, none⟩)) k := kLoadA_st (c := ⟨Tryz.prog, X, q⟩) hS i hi Tryz.underlying59 rfl Tryz.sizeOf59 hn.symm h
theorem xLdE62 {X : Chain → World → Prop} {q : Bool} {w : World} {k : Value → World → Prop} {b o : Nat} {v : Value} (hr : w.rangeAt b o v.cells.toList) (hv : Value.agg v.cells = v) (hs : v.cells.size = 10) (h : k v w) : kLoad ⟨Tryz.prog, X, q⟩ w 62 (.pointer (some ⟨b, o, none⟩)) k := kLoad_elt (c := ⟨Tryz.prog, X, q⟩) hr hv Tryz.underlying62 rfl Tryz.typeInfo62 hs.symm h
theorem xLdB62 {X : Chain → World → Prop} {q : Bool} {w : World} {k : Value → World → Prop} {w0 : World} {L : List Own} (hS : St w0 L w) (i : Nat) {b : Nat} {t : TypeId} {cs : Array Value} (hi : L[i]? = some (.bx b t cs)) (hn : cs.size = 10) (h : k (.agg cs) w) : kLoad ⟨Tryz.prog, X, q⟩ w 62 (.pointer (some ⟨b, 0, none⟩)) k := kLoadA_st (c := ⟨Tryz.prog, X, q⟩) hS i hi Tryz.underlying62 rfl Tryz.sizeOf62 hn.symm h
theorem xLdE77 {X : Chain → World → Prop} {q : Bool} {w : World} {k : Value → World → Prop} {b o : Nat} {v : Value} (hr : w.rangeAt b o v.cells.toList) (hv : Value.agg v.cells = v) (hs : v.cells.size = 4) (h : k v w) : kLoad ⟨Tryz.prog, X, q⟩ w 77 (.pointer (some ⟨b, o, none⟩)) k := kLoad_elt (c := ⟨Tryz.prog, X, q⟩) hr hv Tryz.underlying77 rfl Tryz.typeInfo77 hs.symm h
end Go.L
namespace Go.L
open Go Go.RowKit Go.Proofs
set_option linter.unusedSimpArgs false
set_option linter.unusedVariables false

def unit : Value := .tuple #[]
def pe (n : Int) (r : Bool) : PanicEntry := { v := .iface 26 (.int .i64 n), recovered := r }
theorem run_ta28 (v : Value) (w : World) : (Instr.typeAssert (.iface 26 v) 20 26 false).run Tryz.prog w = .ok v w := by
  simp [Instr.typeAssert, run_underlying Tryz.underlying26]
theorem caught_idle87 (p c : Value) (w : World) : CallsD Tryz.prog 76 #[p, c] .returning w fun e u' w' => e = .returned unit ∧ u' = .returning ∧ w' = w := by
  refine callsD_of_wpS Tryz.func76 rfl fun c₀ cs hu => ?_
  apply wpS_seq
  apply wpS_region
  simp [wpOpsS, go_sem, recoverD, hu, Tryz.ntmps76, Exit.thenS, Tryz.underlying20]
  apply wpS_seq
  apply wpS_region
  simp [wpOpsS, go_sem, recoverD, hu, Tryz.ntmps76, Exit.thenS, Tryz.underlying20]
  refine wpS_cond (t := false) (by simp [Act.eval, Array.replicate]) ?_
  simp only [Bool.false_eq_true, if_false]
  refine wpS_of_wp (wp_skip ?_)
  cases c₀
  simp_all [bodyPostS, results, Tryz.results87, unit]
theorem caught_panics87 (p : Addr) (x n : Int) (fc : FuncId) (caps : Array Value) (Rc : World → Prop) (w : World) (hc : w.cell? p = some (.int .i64 x)) (hz : w.frozen? p = false)
    (hf : ∀ args w, (callFunc fc args).run Tryz.prog w = .ok (.enter fc args) w) (hcl : Calls Tryz.prog fc caps (w.setCell p (.int .i64 n)) fun e w' => e = .returned unit ∧ Rc w') :
    CallsD Tryz.prog 76 #[.pointer (some p), .func (.func fc) #[] caps] (.panicking [pe n false]) w fun e u' w' =>
      e = .returned unit ∧ u' = .panicking [pe n true] ∧ Rc w' := by
  refine callsD_of_wpS Tryz.func76 rfl fun c₀ cs hu => ?_
  apply wpS_seq
  apply wpS_region
  simp [wpOpsS, go_sem, recoverD, hu, Tryz.ntmps76, Exit.thenS, Tryz.underlying20, pe]
  apply wpS_seq
  apply wpS_region
  simp [wpOpsS, go_sem, recoverD, hu, Tryz.ntmps76, Exit.thenS, Tryz.underlying20]
  refine wpS_cond (t := true) (by simp [Act.eval, Array.replicate]) ?_
  simp only [if_true]
  apply wpS_seq
  apply wpS_region
  simp [wpOpsS, go_sem, run_ta28, hc, hz, bodyPostS, results, Tryz.results87, Exit.thenS, Tryz.underlying26, Tryz.sizeOf26]
  apply wpS_region
  simp [wpOpsS, go_sem, hf, hc, hz, bodyPostS, results, Tryz.results87, Exit.thenS, Oper.upon]
  refine hcl.mono ?_
  rintro e w' ⟨rfl, h⟩
  exact ⟨rfl, h⟩
theorem conc28 : Tryz.prog.concrete 26 = true := by simp [Program.concrete, Tryz.underlying26]
theorem must120 (b : Bool) (n : Int) (w : World) (R : Ending → World → Prop) (h1 : b = true → R (.returned unit) w) (h2 : b = false → R (.panicked [pe n false]) w) : Calls Tryz.prog 108 #[.bool b, .int .i64 n] w R := by
  refine c108 _ _ _ _ ?_
  unfold vc108
  refine kUn_not (kIf_b (fun h => ?_) (fun h => ?_))
  · refine kMkI_c conc28 (kPanic_i ?_)
    exact h2 (by simpa using h)
  · exact h1 (by simpa using h)
abbrev AV := Int × Int × ByteArray
def vVal (r : AV) : Value := .agg #[.int .i64 r.1, .int .i64 r.2.1, .string r.2.2]
def vInt (i : Int) : Value := .int .i64 i
def flat (vs : List Value) : List Value := vs.flatMap (·.cells.toList)
theorem bytes_toList_inj {a b : ByteArray} : a.toList = b.toList ↔ a = b := by
  rw [ByteArray.toList_eq, ByteArray.toList_eq]
  obtain ⟨⟨x⟩⟩ := a
  obtain ⟨⟨y⟩⟩ := b
  simp
theorem eq49 (a b : AV) (ox oy : Operand) (w : World) : (do eqGuard .eql 59 ox oy (vVal a) (vVal b); binOp .eql 59 (vVal a) (vVal b) : Sem Value).run Tryz.prog w = .ok (.bool (decide (a = b))) w := by
  obtain ⟨a1, a2, a3⟩ := a
  obtain ⟨b1, b2, b3⟩ := b
  simp [go_sem, vVal, Tryz.underlying59, Tryz.eqGuardType59, Tryz.stoodInHeld59, Tryz.underlying57, Tryz.underlying2, Tryz.underlying9, Op.eqFields, bytes_toList_inj]
  by_cases h1 : a1 = b1 <;> by_cases h2 : a2 = b2 <;> by_cases h3 : a3 = b3 <;> simp [h1, h2, h3]
section
variable {c : Cx} {w : World} {k : Value → World → Prop} {t : TypeId}
theorem kEq_49 {X : Chain → World → Prop} {q : Bool} {a b : AV} {ox oy : Operand} (h : k (.bool (decide (a = b))) w) : kEq ⟨Tryz.prog, X, q⟩ w .eql 59 ox oy (vVal a) (vVal b) k := ⟨kVal_pure (c := ⟨Tryz.prog, X, q⟩) (fun w' => by exact eq49 a b ox oy w') h⟩
theorem eqGuard_str (op : BinOp) (ox oy : Operand) (a : ByteArray) (v : Value) : eqGuard op t ox oy (.string a) v = pure () := by cases op <;> rfl
theorem kEq_str {a b : ByteArray} {ox oy : Operand} (h : k (.bool (decide (a = b))) w) : kEq c w .eql t ox oy (.string a) (.string b) k :=
  ⟨kVal_pure (fun w' => by
    rw [eqGuard_str, binOp_string_eql]
    have : (a.toList == b.toList) = decide (a = b) := by
      by_cases hab : a = b
      · subst hab; simp
      · have : a.toList ≠ b.toList := fun h => hab (bytes_toList_inj.1 h)
        simp [this, hab]
    rw [this]; rfl) h⟩
theorem kNe_str {a b : ByteArray} {ox oy : Operand} (h : k (.bool (!decide (a = b))) w) : kEq c w .neq t ox oy (.string a) (.string b) k :=
  ⟨kVal_pure (fun w' => by
    rw [eqGuard_str, binOp_string_neq]
    have : (a.toList == b.toList) = decide (a = b) := by
      by_cases hab : a = b
      · subst hab; simp
      · have : a.toList ≠ b.toList := fun h => hab (bytes_toList_inj.1 h)
        simp [this, hab]
    rw [this]; rfl) h⟩
theorem kIf_eq {a b : Int} {A B : Prop} (h1 : a = b → A) (h2 : a ≠ b → B) : kIf (.bool (a == b)) A B :=
  kIf_b (fun h => h1 (by simpa using h)) (fun h => h2 (by simpa using h))
theorem kIf_ne {a b : Int} {A B : Prop} (h1 : a ≠ b → A) (h2 : a = b → B) : kIf (.bool (a != b)) A B :=
  kIf_b (fun h => h1 (by simpa using h)) (fun h => h2 (by simpa using h))
theorem kBin_and {q : IntKind} {a b : Int} (h : k (.int q (bits .and q a b)) w) : kBin c w .and t (.int q a) (.int q b) k := ⟨kVal_pure (fun _ => by rw [binOp_and, intBits_and]; rfl) h⟩
end
/-- The three fields of an api.Value. -/
theorem kFa49 {X : Chain → World → Prop} {q : Bool} {w : World} {b o : Nat} {k : Value → World → Prop} (f : Nat) (hf : f < 3) (h : k (.pointer (some ⟨b, o + f, none⟩)) w) : kFa ⟨Tryz.prog, X, q⟩ w 59 (.pointer (some ⟨b, o, none⟩)) f k := by
  have : f = 0 ∨ f = 1 ∨ f = 2 := by omega
  rcases this with rfl | rfl | rfl
  · exact kFa_i (c := ⟨Tryz.prog, X, q⟩) Tryz.underlying59 rfl (n := 0) Tryz.sizeOf57 h
  · exact kFa_i (c := ⟨Tryz.prog, X, q⟩) Tryz.underlying59 rfl (n := 0) Tryz.sizeOf2 h
  · exact kFa_i (c := ⟨Tryz.prog, X, q⟩) Tryz.underlying59 rfl (n := 0) Tryz.sizeOf9 h
theorem kLd {X : Chain → World → Prop} {q : Bool} {w0 w : World} {L : List Own} {k : Value → World → Prop} {t' : TypeId} (hS : St w0 L w) (i : Nat) {b : Nat} {t : TypeId} {cs : Array Value} (hi : L[i]? = some (.bx b t cs)) {off : Nat} {v : Value} (hv : cs[off]? = some v) (ht : scal t' = true) (h : k v w) :
    kLoad ⟨Tryz.prog, X, q⟩ w t' (.pointer (some ⟨b, off, none⟩)) k := kLoad_st (c := ⟨Tryz.prog, X, q⟩) hS i hi hv (scal_agg ht) h
theorem kLen9 {X : Chain → World → Prop} {q : Bool} {w : World} {k : Value → World → Prop} {ty : TypeId} {s : ByteArray} {cs : Array Bool} (h : k (.int .i64 s.size) w) : kBlt ⟨Tryz.prog, X, q⟩ w .len #[9] ty cs #[.string s] k := kLen_str (c := ⟨Tryz.prog, X, q⟩) Tryz.underlying9 h
theorem kSt {X : Chain → World → Prop} {w0 w : World} {L : List Own} {t' : TypeId} {k : World → Prop} (hS : St w0 L w) (i : Nat) {b : Nat} {t : TypeId} {cs : Array Value} (hi : L[i]? = some (.bx b t cs)) {off : Nat} (hoff : off < cs.size) {v : Value} (hv : v.cells = #[v]) (h1 : v.oneCell' = true) (ht : scal t' = true)
    (h : ∀ W, St w0 (L.set i (.bx b t (cs.setIfInBounds off v))) W → k W) : kStore ⟨Tryz.prog, X, false⟩ w t' (.pointer (some ⟨b, off, none⟩)) v k := kStore_st hS i hi hoff hv h1 (scal_size ht) h
/-- What Check answers. -/
def checkE (r : AV) : Int :=
  if 1000 < r.2.2.size then 3
  else if r.1 < 0 ∨ 4 < r.1 ∨ (r.1 < 3 ∧ r.2.2 ≠ ⟨#[]⟩) ∨ (r.1 ≠ 1 ∧ r.1 ≠ 2 ∧ r.2.1 ≠ 0) ∨ (r.1 = 1 ∧ r.2.1 ≠ 0 ∧ r.2.1 ≠ 1) then 2 else 0
theorem bits_and_one (n : Int) : bits .and .i64 n 1 = n % 2 := by
  have h1 : ((BitVec.ofInt 64 n) &&& (BitVec.ofInt 64 1)).toNat = (BitVec.ofInt 64 n).toNat % 2 := by
    rw [BitVec.toNat_and]
    show (BitVec.ofInt 64 n).toNat &&& 1 = _
    exact Nat.and_one_is_mod _
  have h2 : (BitVec.ofInt 64 n).toNat = (n % 18446744073709551616).toNat := by simp [BitVec.toNat_ofInt]
  have h3 : ((BitVec.ofInt IntKind.i64.bits n) &&& (BitVec.ofInt IntKind.i64.bits 1)).toNat = (n % 18446744073709551616).toNat % 2 := by
    rw [← h2]; exact h1
  simp only [bits, h3]
  simp [IntKind.wrap, IntKind.bits, IntKind.signed]
  omega
def bareOf (r : AV) : AV := (r.1, if r.1 = 1 then r.2.1 % 2 else if r.1 = 2 then r.2.1 else 0, if r.1 = 3 ∨ r.1 = 4 then r.2.2 else ⟨#[]⟩)
theorem checkE_bare (r : AV) (h : r.2.2.size ≤ 1000) : checkE r = if r = bareOf r ∧ 0 ≤ r.1 ∧ r.1 ≤ 4 then 0 else 2 := by
  obtain ⟨t, n, s⟩ := r
  have he : s.size ≤ 1000 := h
  simp only [checkE, bareOf, Prod.mk.injEq, true_and]
  rw [if_neg (by omega)]
  grind
theorem kJn_inv {f : (List Value → World → Prop) → Prop} {a : List Value → World → Prop} (I : List Value → World → Prop) (ha : ∀ cs W, I cs W → a cs W) (hf : ∀ J, (∀ cs W, I cs W → J cs W) → f J) : kJn f a := ⟨hf _ ha⟩
theorem built49 (t : Int) : Tryz.prog.built 59 [(0, .int .i64 t)] = some #[.int .i64 t, .int .i64 0, .string ⟨#[]⟩] := by
  have h1 := info_of (Tryz.typeInfo59 default)
  have h2 := info_of (Tryz.typeInfo57 default)
  have h3 := info_of (Tryz.typeInfo2 default)
  have h4 := info_of (Tryz.typeInfo9 default)
  simp [Program.built, h1, Tryz.underlying59, Tryz.t59, h2, h3, h4, Tryz.t57, Tryz.t2, Tryz.t9, Instr.fill]
  exact ⟨⟨rfl, Nat.le_of_ble_eq_true rfl⟩, rfl⟩
theorem right89 (r : AV) (w : World) (R : Ending → World → Prop) (h0 : checkE r = 0 → ∀ W, Below w.heap.size w W → R (.returned unit) W) (h1 : checkE r ≠ 0 → ∀ W, Below w.heap.size w W → R (.panicked [pe (checkE r) false]) W) :
    Calls Tryz.prog 78 #[vVal r] w R := by
  obtain ⟨t, n, s⟩ := r
  refine c78 _ _ _ _ _ ?_
  unfold vc78
  refine kBox_st (St.start w) fun b W hS => ?_
  refine kFa49 _ (by omega) (kLd hS 0 rfl rfl rfl (kLen9 (kBin_leq (kCall_i (Tryz.call108 _ _) (must120 _ _ _ _ (fun hl => ?_) (fun hl => ?_))))))
  · have hl : s.size ≤ 1000 := by simp at hl; omega
    have hce := checkE_bare (t, n, s) hl
    refine kFa49 _ (by omega) (kLd hS 0 rfl rfl rfl (kBuild_i (cs := #[.int .i64 t, .int .i64 0, .string ⟨#[]⟩]) (built49 t) (kAlloc_st Tryz.zeroValue59 hS fun b2 W hS => kStoreA_st hS 1 rfl rfl (by simp [Value.oneCell']) Tryz.sizeOf59 fun W hS => ?_)))
    refine kJn_inv (fun cs W => St w [.bx b 59 (vVal (t, n, s)).cells, .bx b2 59 (vVal (bareOf (t, n, s))).cells] W) ?_ ?_
    · intro cs W hS ds
      refine kLoadA_st hS 1 rfl Tryz.underlying59 rfl Tryz.sizeOf59 rfl (kLoadA_st hS 0 rfl Tryz.underlying59 rfl Tryz.sizeOf59 rfl (kEq_49 (a := bareOf (t, n, s)) (b := (t, n, s)) (kIf_d (fun h => ?_) (fun h => ?_))))
      · refine kFa49 _ (by omega) (kLd hS 0 rfl rfl rfl (kBin_geq (kIf_d (fun h2 => ?_) (fun h2 => ?_))))
        · refine kFa49 _ (by omega) (kLd hS 0 rfl rfl rfl (kBin_leq (kCall_i (Tryz.call108 _ _) (must120 _ _ _ _ (fun hl => ?_) (fun hl => ?_)))))
          · exact h0 (by rw [hce, if_pos ⟨h.symm, by simpa using h2, by simpa using hl⟩]) _ hS.below
          · have : checkE (t, n, s) = 2 := by rw [hce, if_neg]; intro hh; simp at hl; have := hh.2.2; simp at this; omega
            have h3 := h1 (by omega) _ hS.below; rw [this] at h3; exact h3
        · refine kCall_i (Tryz.call108 _ _) (must120 _ _ _ _ (fun hl => by cases hl) (fun hl => ?_))
          have : checkE (t, n, s) = 2 := by rw [hce, if_neg]; intro hh; exact h2 (by simpa using hh.2.1)
          have h3 := h1 (by omega) _ hS.below; rw [this] at h3; exact h3
      · refine kCall_i (Tryz.call108 _ _) (must120 _ _ _ _ (fun hl => by cases hl) (fun hl => ?_))
        have : checkE (t, n, s) = 2 := by rw [hce, if_neg]; intro hh; exact h hh.1.symm
        have h3 := h1 (by omega) _ hS.below; rw [this] at h3; exact h3
    · intro J hJ
      refine kFa49 _ (by omega) (kLd hS 0 rfl rfl rfl (kEq_int (kIf_eq (fun e1 => ?_) (fun e1 => ?_))))
      · refine kFa49 _ (by omega) (kLd hS 0 rfl rfl rfl (kBin_and (kFa49 _ (by omega) (kSt hS 1 rfl (by simp) rfl rfl rfl fun W hS => kD_i (hJ _ _ ?_)))))
        have e1 : t = 1 := e1
        subst e1
        rw [bits_and_one] at hS
        exact hS
      refine kEq_int (kIf_eq (fun e2 => ?_) (fun e2 => ?_))
      · refine kFa49 _ (by omega) (kLd hS 0 rfl rfl rfl (kFa49 _ (by omega) (kSt hS 1 rfl (by simp) rfl rfl rfl fun W hS => kD_i (hJ _ _ ?_))))
        have e2 : t = 2 := e2
        subst e2
        exact hS
      refine kJn_inv (fun cs W => St w [.bx b 59 (vVal (t, n, s)).cells, .bx b2 59 #[.int .i64 t, .int .i64 0, .string ⟨#[]⟩]] W ∧ cs = [.bool (decide (t = 3 ∨ t = 4))]) ?_ ?_
      · rintro cs W ⟨hS, rfl⟩ ds
        refine kIf_d (fun e3 => ?_) (fun e3 => ?_)
        · refine kFa49 _ (by omega) (kLd hS 0 rfl rfl rfl (kFa49 _ (by omega) (kSt hS 1 rfl (by simp) rfl rfl rfl fun W hS => kD_i (hJ _ _ ?_))))
          have : vVal (bareOf (t, n, s)) = .agg #[.int .i64 t, .int .i64 0, .string s] := by
            have h1 : t ≠ 1 := e1
            have h2 : t ≠ 2 := e2
            simp [vVal, bareOf, h1, h2, e3]
          rw [this]; exact hS
        · refine kD_i (hJ _ _ ?_)
          have : vVal (bareOf (t, n, s)) = .agg #[.int .i64 t, .int .i64 0, .string ⟨#[]⟩] := by
            have h1 : t ≠ 1 := e1
            have h2 : t ≠ 2 := e2
            simp [vVal, bareOf, h1, h2, e3]
          rw [this]; exact hS
      · intro J1 hJ1
        refine kEq_int (kIf_eq (fun e3 => ?_) (fun e3 => ?_))
        · have e3 : t = 3 := e3
          exact kD_i (hJ1 _ _ ⟨hS, by subst e3; rfl⟩)
        · have e3 : t ≠ 3 := e3
          refine kEq_int (kD_i (hJ1 _ _ ⟨hS, ?_⟩))
          by_cases e4 : t = 4
          · subst e4; rfl
          · simp [e3, e4]
  · have : checkE (t, n, s) = 3 := by simp [checkE]; simp at hl; omega
    have h2 := h1 (by omega) _ hS.below
    rw [this] at h2; exact h2
theorem St.setCell {w0 w : World} {L : List Own} (hS : St w0 L w) (i : Nat) {b : Nat} {t : TypeId} {cs : Array Value} (hi : L[i]? = some (.bx b t cs)) (off : Nat) (v : Value) : St w0 (L.set i (.bx b t (cs.setIfInBounds off v))) (w.setCell ⟨b, off, none⟩ v) := by
  have hg := hS.get i hi
  have hheap : (w.setCell ⟨b, off, none⟩ v).heap[b]? = some (.cells (cs.setIfInBounds off v) t (0, 0)) := by
    simp [World.setCell, Array.getElem?_modify, hg.2]
  refine hS.set i hi ?_ ⟨hg.1, hheap⟩ (.inl rfl)
  refine ⟨rfl, rfl, rfl, by simp [World.setCell], fun k hk hne => ?_⟩
  exact Below.heap_setCell w ⟨b, off, none⟩ v k (fun e => hne (by rw [e]; rfl))
theorem St.unfrozen {w0 w : World} {L : List Own} (hS : St w0 L w) (i : Nat) {b : Nat} {t : TypeId} {cs : Array Value} (hi : L[i]? = some (.bx b t cs)) (off : Nat) : w.frozen? ⟨b, off, none⟩ = false := by
  simp [World.frozen?, (hS.get i hi).2]
theorem RetK_cell {R : Ending → World → Prop} {w : World} {a : Addr} {t : TypeId} {v : Value} (ht : scal t = true) (hc : w.cell? a = some v) (h : R (.returned v) w) : RetK Tryz.prog [.cell (.pointer (some a)) t] R w :=
  ⟨v, by simp [resSem, asAddr, loadVar, scal_agg ht, hc], h⟩
theorem Lv_ret87 {p c : Value} {rs : List RV} {R : Ending → World → Prop} {w : World} (h : RetK Tryz.prog rs R w) : Lv Tryz.prog rs R [{ target := .fn (.func 76) #[], args := #[p, c] }] .returning w :=
  ⟨rfl, Tryz.call76, (caught_idle87 p c w).mono (by rintro e u' w' ⟨rfl, rfl, rfl⟩; exact h)⟩
theorem Lv_pan87 {w0 : World} {L : List Own} {rs : List RV} {R : Ending → World → Prop} {w : World} (hS : St w0 L w) (i : Nat) {b : Nat} {t : TypeId} {x n : Int} (hi : L[i]? = some (.bx b t #[.int .i64 x]))
    {fc : FuncId} {caps : Array Value} (Rc : World → Prop) (hf : ∀ args w, (callFunc fc args).run Tryz.prog w = .ok (.enter fc args) w)
    (hcl : ∀ W, St w0 (L.set i (.bx b t #[.int .i64 n])) W → Calls Tryz.prog fc caps W fun e w' => e = .returned unit ∧ Rc w') (h : ∀ W, Rc W → RetK Tryz.prog rs R W) :
    Lv Tryz.prog rs R [{ target := .fn (.func 76) #[], args := #[.pointer (some ⟨b, 0, none⟩), .func (.func fc) #[] caps] }] (.panicking [pe n false]) w :=
  ⟨rfl, Tryz.call76, (caught_panics87 ⟨b, 0, none⟩ x n fc caps Rc w (hS.cell i hi 0 rfl) (hS.unfrozen i hi 0) hf (hcl _ (hS.setCell i hi 0 _))).mono (by rintro e u' w' ⟨rfl, rfl, hR⟩; exact h _ hR)⟩
theorem check57 (r : AV) (w : World) (R : Ending → World → Prop) (h : ∀ W, Below w.heap.size w W → R (.returned (.int .i64 (checkE r))) W) : Calls Tryz.prog 104 #[vVal r] w R := by
  refine c104 _ _ _ _ _ ?_
  unfold vc104
  refine kBox_st (St.start w) fun b W hS => kAlloc_st Tryz.zeroValue26 hS fun b2 W hS => ?_
  refine kLoadA_st (c := ⟨Tryz.prog, _, false⟩) hS 0 rfl Tryz.underlying59 rfl Tryz.sizeOf59 rfl ?_
  refine kCall_i (Tryz.call78 _ _) (right89 r _ _ (fun he W hB => ?_) (fun he W hB => ?_))
  · have hS := hS.bel hB
    refine kSt hS 1 rfl (by simp [Value.cells]) rfl rfl rfl fun W hS => Lv_ret87 (RetK_cell rfl (hS.cell 1 rfl 0 rfl) ?_)
    rw [he] at h
    exact h _ hS.below
  · have hS := hS.bel hB
    refine Lv_pan87 hS 1 rfl (fun W => St w [Own.bx b 59 (vVal r).cells, Own.bx b2 26 #[.int .i64 (checkE r)]] W) Tryz.call130 (fun W hS => ?_) (fun W hS => RetK_cell rfl (hS.cell 1 rfl 0 rfl) (h _ hS.below))
    refine c130 _ _ ⟨rfl, hS⟩
theorem wrap_id {a : Int} (h0 : -9223372036854775808 ≤ a) (h1 : a ≤ 9223372036854775807) : IntKind.i64.wrap a = a := by
  simp [IntKind.wrap, IntKind.bits, IntKind.signed]; omega
theorem kCallV_i {P : Program} {X : Chain → World → Prop} {w : World} {f : FuncId} {args caps : Array Value} {k : Value → World → Prop} (hc : (callFunc f (args ++ caps)).run P w = .ok (.enter f (args ++ caps)) w)
    (h : Calls P f (args ++ caps) w (after k X)) : kCallV ⟨P, X, false⟩ w (.func (.func f) #[] caps) args k := ⟨by
  show kNext _ _ _
  have : (do let d ← Deferred.ofValue (.func (.func f) #[] caps) args; invoke d.target d.args : Sem Next).run P w = .ok (.enter f (args ++ caps)) w := by
    simp [Deferred.ofValue, invoke, hc]
  rw [this]; exact h⟩
theorem kLdS {X : Chain → World → Prop} {q : Bool} {w : World} {t : TypeId} {a : Addr} {v : Value} {k : Value → World → Prop} (ht : scal t = true) (hv : w.cell? a = some v) (h : k v w) : kLoad ⟨Tryz.prog, X, q⟩ w t (.pointer (some a)) k := kLoad_cell (c := ⟨Tryz.prog, X, q⟩) (scal_agg ht) hv h
def vB (b : Nat) : Value := .int .u8 b
theorem kBuildS_row {P : Program} {X : Chain → World → Prop} {w : World} {t e : TypeId} {sz by_ : Nat} (E : Elt P t e sz by_) {base : Nat} (hbase : base ≤ w.heap.size) (vs : List Value) {n : Nat} {parts : Array (Nat × Value)} {k : Value → World → Prop} (hp : parts.toList = (vs.zipIdx 0).map fun x => (x.2, x.1)) (hn : vs.length = n) (h0 : 0 < n) (h1 : n ≤ 1024)
    (hv : ∀ v ∈ vs, v.cells.size = sz) (h : ∀ x W, W.ownsRow base e sz x n (flat vs) → w.grownBy W none → (∀ j, x.ownBlock = some j → w.heap.size ≤ j) → k x W) : kBuildS ⟨P, X, false⟩ w t n parts k := by
  refine ⟨kVal_do (run_buildSlice_row E w vs n parts hp hn h0 h1 hv) (h _ _ ?_ (World.grownBy_alloc w _ _) ?_)⟩
  · have := World.ownsRow_lit (base := base) (e := e) (size := sz) w (vs.flatMap fun v => v.cells.toList).toArray n hbase (by simp [maxLen]; omega) (by
      have : ∀ vs : List Value, (∀ v ∈ vs, v.cells.size = sz) → (vs.flatMap fun v => v.cells.toList).length = vs.length * sz := by
        intro vs; induction vs with
        | nil => simp
        | cons a l ih => intro h; rw [List.flatMap_cons, List.length_append, ih (fun v hv => h v (List.mem_cons_of_mem _ hv)), List.length_cons, Nat.succ_mul, Array.length_toList, h a (List.mem_cons_self ..), Nat.add_comm]
      rw [List.size_toArray, this vs hv, hn])
    simpa [flat] using this
  · intro j hj; cases hj; exact Nat.le_refl _
theorem ownsRow_rebase {W : World} {a b : Nat} {e : TypeId} {sz n : Nat} {x : Value} {xs : List Value} (h : W.ownsRow a e sz x n xs) (hb : b ≤ a) : W.ownsRow b e sz x n xs := ⟨h.1, h.2.imp id fun ⟨g, cap, cur, h1, h2, h3⟩ => ⟨g, cap, cur, h1, Nat.le_trans hb h2, h3⟩⟩
section
variable {P : Program} {X : Chain → World → Prop} {w w0 : World} {L : List Own} {k : Value → World → Prop} {c : Cx}
theorem kMkMap_st {t : TypeId} (hS : St w0 L w) (h : ∀ b W, St w0 (L ++ [.ob b (.map #[] 0)]) W → k (.map (some b)) W) : kMkMap ⟨P, X, false⟩ w t none k :=
  ⟨kVal_do (run_makeMap_plain w t) (h _ _ (hS.push (World.grownBy_alloc w _ _) ⟨hS.size, World.alloc_heap_new w _⟩ (fun k hk => by cases hk; exact Nat.le_refl _)))⟩
theorem kUpd_st {k : World → Prop} {t kt et : TypeId} {d : TypeDesc} {key v : Value} (hS : St w0 L w) (i : Nat) {b clock : Nat} {es : Array MapEntry} (hi : L[i]? = some (.ob b (.map es clock))) (hm : P.underlying t = some (.map kt et)) (hk : P.underlying kt = some d)
    (hkey : MapKept.IsKey d key) (hf : Instr.findNow d key es.toList 0 = some none) (h : ∀ W, St w0 (L.set i (.ob b (.map (es.push { key, val := v, born := clock }) (clock + 1)))) W → k W) : kUpd ⟨P, X, false⟩ w t (.map (some b)) key v k := by
  have hg := hS.get i hi
  have hb : b < w.heap.size := (Array.getElem?_eq_some_iff.1 hg.2).1
  have hc : (Instr.checkKey false 10000 kt key).run P w = .ok () w := MapKept.run_checkKey hk hkey false 9999
  refine ⟨kUnit_do (w' := { w with heap := w.heap.setIfInBounds b (.map (es.push { key, val := v, born := clock }) (clock + 1)) }) ?_ (h _ (hS.set i hi ?_ ⟨hg.1, by simp [hb]⟩ (.inl rfl)))⟩
  · simp [Instr.mapUpdate, run_underlying hm, MapKept.run_getObj_map hg.2, hc, MapKept.run_findKey hk hf, MapKept.run_setObj_map _ hg.2, Result.andThen]
  · refine ⟨rfl, rfl, rfl, by simp, fun j hj hne => ?_⟩
    have : b ≠ j := fun e => hne (by rw [← e]; rfl)
    simp [Array.getElem?_setIfInBounds_ne this]
theorem kLook_map {t kt et : TypeId} {d : TypeDesc} {key v : Value} {b clock j : Nat} {es : Array MapEntry} (hb : w.heap[b]? = some (.map es clock)) (hm : c.P.underlying t = some (.map kt et)) (hk : c.P.underlying kt = some d)
    (hkey : MapKept.IsKey d key) (hf : Instr.findNow d key es.toList 0 = some (some (j, v))) (h : k v w) : kLook c w t (.map (some b)) key false k :=
  ⟨kVal_look (fun n => by
    have hg : (w.drewN n).heap[b]? = some (.map es clock) := hb
    have hc : ∀ e, (Instr.checkKey e 10000 kt key).run c.P (w.drewN n) = .ok () (w.drewN n) := fun e => MapKept.run_checkKey hk hkey e 9999
    simp [Instr.lookup, run_underlying hm, MapKept.run_getObj_map hg, hc, MapKept.run_findKey hk hf, Result.andThen]) h⟩
end
theorem kCallV_y {P : Program} {X : Chain → World → Prop} {w : World} {l : Nat} {args : Array Value} {R : Ending → World → Prop} {k : Value → World → Prop} (h : YieldC P l args w R) (hk : ∀ e w', R e w' → after k X e w') :
    kCallV ⟨P, X, false⟩ w (.func (.yield l) #[] #[]) args k := by
  obtain ⟨fn, tmps, asn, body, hrun, hr⟩ := h
  refine ⟨?_⟩
  show kNext _ _ _
  have : (do let d ← Deferred.ofValue (.func (.yield l) #[] #[]) args; invoke d.target d.args : Sem Next).run P w = .ok (.round l fn tmps asn body) w := by
    simp [Deferred.ofValue, invoke, hrun]
  rw [this]
  exact hr.mono hk
theorem St.take {w0 : World} {L : List Own} {W : World} (h : St w0 L W) (k : Nat) : St w0 (L.take k) W :=
  ⟨h.below, fun o ho => h.all o (List.mem_of_mem_take ho), fun i j a b ha hb hij => by
    have key : ∀ (i : Nat) (a : Own), (L.take k)[i]? = some a → L[i]? = some a := fun i a ha => by
      by_cases hi : i < k
      · rwa [List.getElem?_take_of_lt hi] at ha
      · rw [List.getElem?_eq_none (by simp; omega)] at ha; cases ha
    exact h.apart i j a b (key i a ha) (key j b hb) hij⟩
/-- Cells only. -/
def Own.cl : Own → Prop
  | .ob _ _ => False
  | _ => True
theorem Own.cl_blk {base : Nat} {W : World} {o : Own} (h : o.holds base W) (hc : o.cl) : ∀ b, o.blk = some b → ∃ c t f, W.heap[b]? = some (.cells c t f) := by
  intro b hb
  cases o with
  | bx b' t cs => cases hb; exact ⟨_, _, _, h.2⟩
  | row x e sz n xs =>
    rcases h.2 with ⟨rfl, _⟩ | ⟨g, cap, cur, rfl, _, hg, _⟩
    · cases hb
    · cases hb; exact ⟨_, _, _, hg⟩
  | ob b' o => exact hc.elim
theorem St.turn {w0 : World} {L : List Own} {W W' : World} {row : Option Nat} (h : St w0 L W) (hcl : ∀ o ∈ L, o.cl) (hg : W.grownBy W' row) (hr : ∀ r, row = some r → w0.heap.size ≤ r ∧ ∃ o : Obj, W.heap[r]? = some o ∧ o.isCells = false) : St w0 L W' := by
  refine ⟨h.below.grown hg h.size fun k hk => (hr k hk).1, fun o ho => Own.kept (h.all o ho) hg ?_, h.apart⟩
  cases hb : o.blk with
  | none => exact .inl rfl
  | some b =>
    right
    intro he
    obtain ⟨_, o', ho', hn⟩ := hr b he.symm
    obtain ⟨c, t, f, hc⟩ := Own.cl_blk (h.all o ho) (hcl o ho) b hb
    rw [hc] at ho'
    cases ho'
    simp [Obj.isCells] at hn
theorem Below.turn {w0 W W' : World} {row : Option Nat} (h : Below w0.heap.size w0 W) (hg : W.grownBy W' row) (hr : ∀ r, row = some r → w0.heap.size ≤ r ∧ ∃ o : Obj, W.heap[r]? = some o ∧ o.isCells = false) : Below w0.heap.size w0 W' :=
  h.grown hg h.size fun k hk => (hr k hk).1
/-- Something that was there already comes under watch. -/
theorem St.adopt {w0 W : World} {L : List Own} (h : St w0 L W) {o : Own} (ho : o.holds w0.heap.size W) (hne : ∀ p ∈ L, p.blk = none ∨ p.blk ≠ o.blk) : St w0 (L ++ [o]) W := by
  refine ⟨h.below, fun p hp => ?_, fun i j a b ha hb hij => ?_⟩
  · rcases List.mem_append.1 hp with hp | hp
    · exact h.all p hp
    · simp at hp; subst hp; exact ho
  · have key : ∀ (i : Nat) (a : Own), (L ++ [o])[i]? = some a → (i < L.length ∧ L[i]? = some a) ∨ (i = L.length ∧ a = o) := by
      intro i a ha
      by_cases hi : i < L.length
      · rw [List.getElem?_append_left hi] at ha; exact .inl ⟨hi, ha⟩
      · have hlt := (List.getElem?_eq_some_iff.1 ha).1
        simp at hlt
        have : i = L.length := by omega
        subst this
        simp at ha
        exact .inr ⟨rfl, ha.symm⟩
    rcases key i a ha with ⟨_, ha'⟩ | ⟨hi, hao⟩ <;> rcases key j b hb with ⟨_, hb'⟩ | ⟨hj, hbo⟩
    · exact h.apart i j a b ha' hb' hij
    · rw [hbo]; exact hne a (List.mem_of_getElem? ha')
    · rw [hao]
      rcases hne b (List.mem_of_getElem? hb') with h1 | h1
      · cases hk : o.blk with
        | none => exact .inl rfl
        | some k => exact .inr (by rw [h1]; simp)
      · exact .inr (Ne.symm h1)
    · exact absurd (hi.trans hj.symm) hij
theorem kAppRow_st {P : Program} {X : Chain → World → Prop} {w w0 : World} {t e : TypeId} {sz by_ : Nat} (E : Elt P t e sz by_) {L : List Own} (hS : St w0 L w) (i j : Nat) {n m : Nat} {x y : Value} {xs ys : List Value} (hi : L[i]? = some (.row x e sz n xs)) (hj : L[j]? = some (.row y e sz m ys))
    {cs : Array Bool} {ty : TypeId} {k : Value → World → Prop} (h1 : ∀ u ∈ ys, u.oneCell' = true) (hmax : n + m ≤ maxLen) (hby : (n + m) * by_ ≤ 140737488355328)
    (h : ∀ x' W, St w0 (L.set i (.row x' e sz (n + m) (xs ++ ys))) W → k x' W) : kBlt ⟨P, X, false⟩ w .append #[t, t] ty cs #[x, y] k := by
  obtain ⟨ii, z, hin, hz, hs, hb, hzs⟩ := E.info
  have hx : w.ownsRow w0.heap.size e sz x n xs := hS.get i hi
  have hy : w.ownsRow w0.heap.size e sz y m ys := hS.get j hj
  have fin : ∀ x' W, (Builtin.append_ #[t, t] ty #[x, y]).run P w = .ok x' W → W.ownsRow w0.heap.size e sz x' (n + m) (xs ++ ys) → w.grownBy W x.ownBlock → (x'.ownBlock = x.ownBlock ∨ x'.ownBlock = some w.heap.size) → kBlt ⟨P, X, false⟩ w .append #[t, t] ty cs #[x, y] k := by
    intro x' W hr ho hg hbk
    refine ⟨?_⟩
    show kNext _ _ _
    simp only [builtin, Sem.run_bind, hr, Result.andThen_ok, Sem.run_pure]
    refine h x' W (hS.set i hi hg ho (hbk.imp id fun hb k hk => ?_))
    have hk : x'.ownBlock = some k := hk
    rw [hb] at hk; cases hk; exact Nat.le_refl _
  rcases hy.2 with ⟨rfl, rfl⟩ | ⟨g, cap, cur, rfl, _, hg, _⟩
  · have hys : ys = [] := List.eq_nil_of_length_eq_zero (by simpa using hy.1)
    subst hys
    refine fin x w (run_append_owned_none w w0.heap.size t ty e ii sz E.sl hin x n xs hx) (by simpa using hx) ⟨rfl, rfl, rfl, Nat.le_refl _, fun _ _ _ => rfl⟩ (.inl rfl)
  · obtain ⟨v', w', hr, h2, h3, _, h5⟩ := run_append_own_at (P := P) w w0.heap.size t ty e ii z sz by_ E.sl hin hz hs hb hzs E.pos x n xs hx ⟨g, 0, none⟩ m cap ys hy.1 (hy.cells rfl) h1 hmax hby hS.size
    exact fin v' w' hr h2 h3 h5
/-- A slice literal: a new row. -/
theorem kBuildS_st {P : Program} {X : Chain → World → Prop} {w w0 : World} {t e : TypeId} {sz by_ : Nat} (E : Elt P t e sz by_) {L : List Own} (hS : St w0 L w) (vs : List Value) {n : Nat} {parts : Array (Nat × Value)} {k : Value → World → Prop} (hp : parts.toList = (vs.zipIdx 0).map fun x => (x.2, x.1)) (hn : vs.length = n) (h0 : 0 < n) (h1 : n ≤ 1024)
    (hv : ∀ v ∈ vs, v.cells.size = sz) (h : ∀ x W, St w0 (L ++ [.row x e sz n (flat vs)]) W → k x W) : kBuildS ⟨P, X, false⟩ w t n parts k :=
  kBuildS_row E hS.size vs hp hn h0 h1 hv fun x W ho hg hb => h x W (hS.push hg ho hb)
/-- What a call has made. -/
theorem St.made {w0 w W : World} {L : List Own} (hS : St w0 L w) (hB : Below w.heap.size w W) {x : Value} {e : TypeId} {sz n : Nat} {xs : List Value} (ho : W.ownsRow w.heap.size e sz x n xs) : St w0 (L ++ [.row x e sz n xs]) W :=
  hS.push (grown_of_below hB) (ownsRow_rebase ho hS.size) fun k hk => (World.ownsRow.lt ho k hk).1
theorem RetK_cell2 {R : Ending → World → Prop} {w : World} {a b : Addr} {t u : TypeId} {v v' : Value} (ht : scal t = true) (hu : scal u = true) (hc : w.cell? a = some v) (hd : w.cell? b = some v') (h : R (.returned (.tuple #[v, v'])) w) : RetK Tryz.prog [.cell (.pointer (some a)) t, .cell (.pointer (some b)) u] R w :=
  ⟨.tuple #[v, v'], by simp [resSem, asAddr, loadVar, scal_agg ht, scal_agg hu, hc, hd], h⟩
/-- A slice of bytes, as it reads. -/
structure Bs (W : World) (a : Option Addr) (n cp : Nat) (bs : List Nat) : Prop where
  sl : Sl W a 1 (bs.map vB)
  len : n = bs.length
  cap : n ≤ cp
theorem flat_vB (bs : List Nat) : (bs.map vB).flatMap (·.cells.toList) = bs.map vB := by
  induction bs with
  | nil => rfl
  | cons b l ih => rw [List.map_cons, List.flatMap_cons, ih]; rfl
theorem Bs.drop {W : World} {a : Option Addr} {n cp : Nat} {bs : List Nat} (h : Bs W a n cp bs) {l : Nat} (hl : l ≤ n) : Bs W (if cp = l then a else a.map (·.add (l * 1))) (n - l) (cp - l) (bs.drop l) := by
  refine ⟨⟨fun v hv => by obtain ⟨z, _, rfl⟩ := List.mem_map.1 hv; rfl, ?_⟩, by rw [List.length_drop, h.len], by have := h.cap; omega⟩
  rcases Nat.lt_or_ge l n with h1 | h1
  · right
    rcases h.sl.at_ with he | ⟨b, o, ha, hb, hr⟩
    · have := h.len; rw [List.map_eq_nil_iff] at he; subst he; simp at this; omega
    · refine ⟨b, o + l, ?_, hb, ?_⟩
      · rw [if_neg (by have := h.cap; omega), ha]; simp [Addr.add_mid]
      · rw [flat_vB] at hr ⊢
        intro j v hj
        have := hr (l + j) v (by rw [← hj, List.map_drop, List.getElem?_drop])
        rwa [← Nat.add_assoc] at this
  · left; rw [List.drop_eq_nil_of_le (by rw [← h.len]; exact h1)]; rfl
theorem Bs.take {W : World} {a : Option Addr} {n cp : Nat} {bs : List Nat} (h : Bs W a n cp bs) {l m : Nat} (hl : l ≤ n) (hm : l ≤ m) : Bs W (if m = 0 then a else a.map (·.add (0 * 1))) l m (bs.take l) := by
  have e : (if m = 0 then a else a.map (·.add (0 * 1))) = a := by
    split
    · rfl
    · cases a <;> simp [Addr.add]
  rw [e]
  refine ⟨⟨fun v hv => by obtain ⟨z, _, rfl⟩ := List.mem_map.1 hv; rfl, ?_⟩, by rw [List.length_take, ← h.len]; omega, hm⟩
  rcases h.sl.at_ with he | ⟨b, o, ha, hb, hr⟩
  · left; rw [List.map_eq_nil_iff] at he; subst he; simp
  · right
    refine ⟨b, o, ha, hb, ?_⟩
    rw [flat_vB] at hr ⊢
    intro j v hj
    refine hr j v ?_
    rw [List.map_take] at hj
    have hlt := (List.getElem?_eq_some_iff.1 hj).1
    rwa [List.getElem?_take_of_lt (by simp at hlt; omega)] at hj
theorem kDrawn_i {A : Prop} (h : A) : kDrawn true A := ⟨rfl, h⟩
theorem kDrew_st {w0 w : World} {L : List Own} {f : World → Prop} (hS : St w0 L w) (h : ∀ W, St w0 L W → f W) : kDrew w f := ⟨fun n => h _ (hS.drewN n)⟩
theorem kSame_i {v : Value} {A : Prop} (h : A) : kSame v v A := ⟨rfl, h⟩
theorem kBoth_i {A B : Prop} (h : A) (h' : B) : kBoth A B := ⟨h, h'⟩
theorem at_l {L M : List Own} {i : Nat} {o : Own} (h : L[i]? = some o) : (L ++ M)[i]? = some o := by
  rw [List.getElem?_append_left (List.getElem?_eq_some_iff.1 h).1]; exact h
theorem at_r {L : List Own} {o : Own} : (L ++ [o])[L.length]? = some o := by simp
theorem set_l {L M : List Own} {i : Nat} {o : Own} (x : Own) (h : L[i]? = some o) : (L ++ M).set i x = L.set i x ++ M := List.set_append_left _ _ (List.getElem?_eq_some_iff.1 h).1
theorem set_r {L : List Own} {o : Own} (x : Own) : (L ++ [o]).set L.length x = L ++ [x] := by simp
theorem St.init {w0 W : World} {L M : List Own} (h : St w0 (L ++ M) W) : St w0 L W := by
  have := h.take L.length
  simpa using this
theorem Bs.of_owns {W : World} {base : Nat} {y : Value} {bs : List Nat} (h : W.ownsRow base 5 1 y bs.length (bs.map vB)) : ∃ a cp, y = .slice a bs.length cp ∧ Bs W a bs.length cp bs := by
  obtain ⟨ya, yc, rfl, hysl⟩ := Sl.of_owns (vs := bs.map vB) (by intro v hv; obtain ⟨z, _, rfl⟩ := List.mem_map.1 hv; rfl) (by rw [flat_vB]; exact h) (by simp)
  refine ⟨ya, yc, rfl, hysl, rfl, ?_⟩
  rcases h.2 with ⟨h, hn⟩ | ⟨g, cap, cur, h, _, _, _, hcap, _⟩
  · rw [hn]; omega
  · cases h; omega
theorem St.sl {w0 w : World} {L : List Own} (hS : St w0 L w) (i : Nat) {a : Option Addr} {n cp sz : Nat} {e : TypeId} {vs : List Value} (hi : L[i]? = some (.row (.slice a n cp) e sz n (flat vs))) (hv : ∀ v ∈ vs, v.cells.size = sz) (hn : vs.length = n) : Sl w a sz vs := by
  obtain ⟨a', cp', he, h⟩ := Sl.of_owns hv (hS.get i hi) hn
  cases he; exact h
/-- A slice literal. -/
theorem kBS {P : Program} {X : Chain → World → Prop} {w w0 : World} {t e : TypeId} {sz by_ : Nat} (E : Elt P t e sz by_) {L : List Own} (hS : St w0 L w) (vs : List Value) {n : Nat} {parts : Array (Nat × Value)} {k : Value → World → Prop} (hp : parts.toList = (vs.zipIdx 0).map fun x => (x.2, x.1)) (hn : vs.length = n) (h0 : 0 < n) (h1 : n ≤ 1024)
    (hv : ∀ v ∈ vs, v.cells.size = sz) (h : ∀ a cp W, St w0 (L ++ [.row (.slice a n cp) e sz n (flat vs)]) W → Sl W a sz vs → k (.slice a n cp) W) : kBuildS ⟨P, X, false⟩ w t n parts k := by
  refine kBuildS_st E hS vs hp hn h0 h1 hv fun x W hS => ?_
  have ho : W.ownsRow w0.heap.size e sz x n (flat vs) := hS.get L.length at_r
  obtain ⟨a, cp, rfl, hsl⟩ := Sl.of_owns hv ho hn
  exact h a cp W hS hsl
theorem own : ownKnob Tryz.prog.godebug = none := by kernel_rfl
/-- The marks of loops that are behind. -/
theorem Lv_marks {rs : List RV} {R : Ending → World → Prop} {u : FrameMode} (hu : u ≠ .run) {w0 : World} {b4 : Nat} {t4 : TypeId} {c4 : Array Value} : ∀ (ds : List Nat) (W : World), ds.Nodup → (∀ D ∈ ds, w0.heap.size ≤ D ∧ W.heap[D]? = some (.deferred (some []))) → Below w0.heap.size w0 W → W.heap[b4]? = some (.cells c4 t4 (0, 0)) →
    (∀ V, Below w0.heap.size w0 V → V.heap[b4]? = some (.cells c4 t4 (0, 0)) → Lv Tryz.prog rs R [] u V) → Lv Tryz.prog rs R (ds.map markOf) u W
  | [], W, _, _, hB, h4, h => h W hB h4
  | D :: ds, W, hnd, hd, hB, h4, h => by
    have hD := hd D (List.mem_cons_self ..)
    have hlt := (Array.getElem?_eq_some_iff.1 hD.2).1
    obtain ⟨hn1, hn2⟩ := List.nodup_cons.1 hnd
    have hne4 : D ≠ b4 := fun e => by rw [e, h4] at hD; cases hD.2
    have key : Lv Tryz.prog rs R (ds.map markOf) u (W.putObj D (.deferred none)) := by
      refine Lv_marks hu ds _ hn2 (fun D' hD' => ⟨(hd D' (List.mem_cons_of_mem _ hD')).1, ?_⟩) (Below.turn hB (grownBy_putObj' W D _) (fun r hr => by cases hr; exact ⟨hD.1, _, hD.2, rfl⟩)) ?_ h
      · have : D ≠ D' := fun e => hn1 (e ▸ hD')
        rw [World.putObj_heap_other (by omega)]; exact (hd D' (List.mem_cons_of_mem _ hD')).2
      · rw [World.putObj_heap_other (by omega)]; exact h4
    cases u with
    | run => exact absurd rfl hu
    | returning => exact ⟨hD.2, key⟩
    | panicking ch => exact ⟨hD.2, key⟩
theorem St.pw {w0 W : World} {L : List Own} (h : St w0 L W) : L.Pairwise (fun a b => a.blk = none ∨ a.blk ≠ b.blk) := by
  rw [List.pairwise_iff_getElem]
  intro i j hi hj hij
  exact h.apart i j _ _ (List.getElem?_eq_getElem hi) (List.getElem?_eq_getElem hj) (by omega)
theorem St.ofPw {w0 W : World} {L : List Own} (hb : Below w0.heap.size w0 W) (ha : ∀ o ∈ L, o.holds w0.heap.size W) (hp : L.Pairwise (fun a b => a.blk = none ∨ a.blk ≠ b.blk)) : St w0 L W := by
  have hsym : ∀ a b : Own, (a.blk = none ∨ a.blk ≠ b.blk) → (b.blk = none ∨ b.blk ≠ a.blk) := fun a b h => by
    rcases h with h | h
    · cases hbb : b.blk with
      | none => exact .inl rfl
      | some k => exact .inr (by rw [h]; simp)
    · exact .inr (Ne.symm h)
  refine ⟨hb, ha, fun i j a b hia hjb hij => ?_⟩
  rw [List.pairwise_iff_getElem] at hp
  obtain ⟨hi, rfl⟩ := List.getElem?_eq_some_iff.1 hia
  obtain ⟨hj, rfl⟩ := List.getElem?_eq_some_iff.1 hjb
  rcases Nat.lt_or_ge i j with h | h
  · exact hp i j hi hj h
  · exact hsym _ _ (hp j i hj hi (by omega))
theorem St.perm {w0 W : World} {L L' : List Own} (h : St w0 L W) (hp : L.Perm L') : St w0 L' W :=
  St.ofPw h.below (fun o ho => h.all o (hp.mem_iff.2 ho)) (h.pw.perm hp (fun {a b} h => by
    rcases h with h | h
    · cases hbb : b.blk with
      | none => exact .inl rfl
      | some k => exact .inr (by rw [h]; simp)
    · exact .inr (Ne.symm h)))
theorem St.sub {w0 W : World} {L L' : List Own} (h : St w0 L W) (hs : L'.Sublist L) : St w0 L' W := St.ofPw h.below (fun o ho => h.all o (hs.subset ho)) (h.pw.sublist hs)
/-- The last thing goes to place k. -/
theorem St.ins {w0 W : World} {L : List Own} {o : Own} (h : St w0 (L ++ [o]) W) (k : Nat) : St w0 (L.take k ++ o :: L.drop k) W := by
  refine h.perm ?_
  have e : L ++ [o] = L.take k ++ (L.drop k ++ [o]) := by rw [← List.append_assoc, List.take_append_drop]
  rw [e]
  exact List.Perm.append_left _ (List.perm_append_comm (l₁ := L.drop k) (l₂ := [o]))
theorem St.del {w0 W : World} {L : List Own} (h : St w0 L W) (k : Nat) : St w0 (L.take k ++ L.drop (k + 1)) W := by
  refine h.sub ?_
  conv => rhs; rw [← List.take_append_drop k L]
  exact List.Sublist.append (List.Sublist.refl _) (by rw [← List.drop_drop]; exact List.drop_sublist _ _)
def marks (ds : List Nat) : List Own := ds.map fun D => .ob D (.deferred (some []))
/-- What a function that makes a value of its own returns. -/
def RetV (w : World) (r : AV) (R : Ending → World → Prop) : Prop := ∀ W, Below w.heap.size w W → R (.returned (vVal r)) W
/-- What a function that makes a value of its own answers, or the error that it raises. -/
structure RetE (w : World) (v : AV) (e : Int) (R : Ending → World → Prop) : Prop where
  ok : e = 0 → RetV w v R
  bad : e ≠ 0 → ∀ W, Below w.heap.size w W → R (.panicked [pe e false]) W
def big (z : Int) : Prop := -9223372036854775808 ≤ z ∧ z ≤ 9223372036854775807
theorem RetE.int {w V : World} {R : Ending → World → Prop} {L : List Own} {v : AV} {e : Int} (h : RetE w v e R) (hS : St w L V) : RetE V v e R :=
  ⟨fun he W hB => h.ok he W (hS.bel hB).below, fun he W hB => h.bad he W (hS.bel hB).below⟩
abbrev lpD (l : Nat) (lo : Loop) (D : Nat) : List Own := [.ob l (.loop lo), .ob D (.deferred (some []))]
theorem kStoreAR {P : Program} {X : Chain → World → Prop} {w0 w : World} {L : List Own} {t' : TypeId} {k : World → Prop} {b : Nat} {t : TypeId} {cs cs' : Array Value} (hS : St w0 (L ++ [.bx b t cs]) w) (hsz : cs.size = cs'.size) (h1 : cs'.all (·.oneCell') = true) (hs : ∀ w, (sizeOf t').run P w = .ok cs'.size w)
    (h : ∀ W, St w0 (L ++ [.bx b t cs']) W → k W) : kStore ⟨P, X, false⟩ w t' (.pointer (some ⟨b, 0, none⟩)) (.agg cs') k := kStoreA_st hS L.length at_r hsz h1 hs (fun W hS => h W (by rwa [set_r] at hS))
theorem kIx_i {c : Cx} {w : World} {t : TypeId} {x i v : Value} {k : Value → World → Prop} (hr : ∀ w, (Instr.index t x i).run c.P w = .ok v w) (h : k v w) : kIx c w t x i k := ⟨kVal_pure hr h⟩
theorem m_pos (x y N : Nat) (hy : 0 < y) : ((x : Int) > ((N / y : Nat) : Int)) ↔ N < x * y := by
  rw [← Nat.div_lt_iff_lt_mul hy]; omega
theorem m1 {x y : Nat} (hx : 0 < x) (hy : 0 < y) : (x : Int) > Int.tdiv 9223372036854775807 y ↔ ¬ big ((x : Int) * y) := by
  have e : Int.tdiv 9223372036854775807 (y : Int) = ((9223372036854775807 / y : Nat) : Int) := rfl
  rw [e, m_pos x y _ hy, ← Int.natCast_mul]; unfold big; omega
theorem m2 {x y : Nat} (hx : 0 < x) (hy : 0 < y) : -(x : Int) < Int.tdiv 9223372036854775807 (-(y : Int)) ↔ ¬ big (-(x : Int) * -(y : Int)) := by
  have e : Int.tdiv 9223372036854775807 (y : Int) = ((9223372036854775807 / y : Nat) : Int) := rfl
  have k := m_pos x y 9223372036854775807 hy
  rw [Int.tdiv_neg, e, Int.neg_mul_neg, ← Int.natCast_mul]; unfold big; omega
theorem m3 {x y : Nat} (hx : 0 < x) (hy : 0 < y) : -(y : Int) < Int.tdiv (-9223372036854775808) x ↔ ¬ big ((x : Int) * -(y : Int)) := by
  have e : Int.tdiv (-9223372036854775808) (x : Int) = -((9223372036854775808 / x : Nat) : Int) := by
    rw [show (-9223372036854775808 : Int) = -(9223372036854775808 : Int) from rfl, Int.neg_tdiv]; rfl
  have k := m_pos y x 9223372036854775808 hx
  rw [Nat.mul_comm] at k
  rw [e, Int.mul_neg, ← Int.natCast_mul]; unfold big; omega
abbrev z0 : AV := (0, 0, ⟨#[]⟩)
theorem kAdd_str {c : Cx} {w : World} {t : TypeId} {a b : ByteArray} {k : Value → World → Prop} (hn : a.size + b.size ≤ 1000000) (h : k (.string (a ++ b)) w) : kBin c w .add t (.string a) (.string b) k := ⟨kVal_pure (fun _ => by
  rw [binOp_string_add]; unfold Op.stringOp
  have : ¬ (((a.size + b.size : Nat) : Int) > IntKind.i64.max) := by
    rw [show IntKind.i64.max = 9223372036854775807 from rfl]; omega
  simp only [if_neg this]; rfl) h⟩
/-- All marks are taken back. -/
theorem Lv_mks {rs : List RV} {R : Ending → World → Prop} {u : FrameMode} (hu : u ≠ .run) {w0 W : World} {X : List Own} {ds : List Nat} {b4 : Nat} {t4 : TypeId} {c4 : Array Value} (hnd : ds.Nodup) (hS : St w0 (X ++ marks ds) W) (i : Nat) (hi : X[i]? = some (.bx b4 t4 c4))
    (h : ∀ V, Below w0.heap.size w0 V → V.heap[b4]? = some (.cells c4 t4 (0, 0)) → RetK Tryz.prog rs R V) (hu' : u = .returning) : Lv Tryz.prog rs R (ds.map markOf) u W := by
  subst hu'
  have h4 := hS.get i (at_l hi)
  refine Lv_marks (by simp) ds W hnd (fun D hD => ?_) hS.below h4.2 (fun V hB h4 => h V hB h4)
  have := hS.all (.ob D (.deferred (some []))) (List.mem_append_right _ (List.mem_map.2 ⟨D, hD, rfl⟩))
  exact ⟨this.1, this.2⟩
/-- What an iterator does with a yield, that may keep things of its own (E) from yield to yield; the caller's (M) are hidden to it but for what A tells. -/
def IterS (P : Program) (g : Value) (n : Nat) (xs : Nat → Array Value) (w0 : World) (A : Nat → List Own → Prop) : Prop :=
  ∃ gf lb, g = .func (.func gf) #[] lb ∧ (∀ args w, (callFunc gf args).run P w = .ok (.enter gf args) w) ∧
  ∀ (l : Nat) (A' : Nat → List Own → Prop) (Z' : Exit → List Own → Prop) (W : World), (∀ i M, A' i M → ∃ L N, A i L ∧ M = L ++ N) → (∃ M, A' 0 M ∧ St w0 M W) →
    (∀ i W M E, i < n → A' i M → St w0 (M ++ E) W → YieldC P l (xs i) W (fun en W' => match en with
      | .returned v => (v = .bool true ∧ ∃ M', A' (i + 1) M' ∧ St w0 (M' ++ E) W') ∨ (v = .bool false ∧ ∃ ex M', leftBy ex ∧ Z' ex M' ∧ St w0 (M' ++ E) W')
      | .panicked ch => ∃ M', Z' (.panic ch) M' ∧ St w0 (M' ++ E) W'
      | .outgrown => False)) →
    Calls P gf (#[.func (.yield l) #[] #[]] ++ lb) W (fun en W' => match en with
      | .returned _ => (∃ M E, A' n M ∧ St w0 (M ++ E) W') ∨ ∃ M E ex, leftBy ex ∧ Z' ex M ∧ St w0 (M ++ E) W'
      | .panicked ch => ∃ M E, Z' (.panic ch) M ∧ St w0 (M ++ E) W'
      | .outgrown => False)
theorem lpD_put {w0 W : World} {X E : List Own} {l D : Nat} {lo : Loop} (h : St w0 (X ++ lpD l lo D ++ E) W) (lo' : Loop) : St w0 (X ++ lpD l lo' D ++ E) (W.putObj l (.loop lo')) := by
  have i1 : (X ++ lpD l lo D ++ E)[X.length]? = some (.ob l (.loop lo)) := by rw [List.append_assoc, List.getElem?_append_right (Nat.le_refl _), Nat.sub_self]; rfl
  have hl := (h.get _ i1).2
  have hS3 := h.set (W' := W.putObj l (.loop lo')) X.length (o' := .ob l (.loop lo')) i1 (grownBy_putObj' W l _) ⟨(h.get _ i1).1, World.putObj_heap_same (Array.getElem?_eq_some_iff.1 hl).1⟩ (.inl rfl)
  have e : (X ++ lpD l lo D ++ E).set X.length (.ob l (.loop lo')) = X ++ lpD l lo' D ++ E := by
    rw [List.append_assoc, List.append_assoc, List.set_append_right _ _ (Nat.le_refl _), Nat.sub_self]; rfl
  rw [e] at hS3; exact hS3
theorem lpD_get {w0 W : World} {X E : List Own} {l D : Nat} {lo : Loop} (h : St w0 (X ++ lpD l lo D ++ E) W) : W.heap[l]? = some (.loop lo) ∧ W.heap[D]? = some (.deferred (some [])) := by
  have i1 : (X ++ lpD l lo D ++ E)[X.length]? = some (.ob l (.loop lo)) := by rw [List.append_assoc, List.getElem?_append_right (Nat.le_refl _), Nat.sub_self]; rfl
  have i2 : (X ++ lpD l lo D ++ E)[X.length + 1]? = some (.ob D (.deferred (some []))) := by rw [List.append_assoc, List.getElem?_append_right (by omega), show X.length + 1 - X.length = 1 by omega]; rfl
  exact ⟨(h.get _ i1).2, (h.get _ i2).2⟩
/-- A range over a function that keeps something, behind others whose marks are left. -/
theorem kRange_fr {P : Program} {w0 w : World} {g : Value} {np : Nat} {round : Nat → Nat → List Value → World → (Exit → World → Prop) → Prop} {Kn Kr : Nat → World → Prop} {Kx : Nat → Nat → World → Prop} {Kp : Nat → Chain → World → Prop} {ds : List Nat}
    (n : Nat) (xs : Nat → List Value) (A : Nat → List Own → Prop) (Z : Exit → List Own → Prop) (hlen : ∀ i, (xs i).length = np)
    (h0 : ∃ L, A 0 L ∧ St w0 (L ++ marks ds) w) (hnd : ds.Nodup) (hdlt : ∀ D ∈ ds, D < w.heap.size)
    (hround : ∀ i l D lo W L E, i < n → A i L → St w0 (L ++ marks ds ++ lpD l lo D ++ E) W → round l D (xs i) W (fun ex W' => match ex with | .normal => ∃ lo' L', A (i + 1) L' ∧ St w0 (L' ++ marks ds ++ lpD l lo' D ++ E) W' | ex => ∃ lo' L', Z ex L' ∧ St w0 (L' ++ marks ds ++ lpD l lo' D ++ E) W'))
    (hiter : IterS P g n (fun i => (xs i).toArray) w0 A)
    (hn : ∀ D W L, A n L → (D :: ds).Nodup → w0.heap.size ≤ D → St w0 (L ++ marks (D :: ds)) W → Kn D W)
    (hr : ∀ D W L, Z .ret L → (D :: ds).Nodup → w0.heap.size ≤ D → St w0 (L ++ marks (D :: ds)) W → Kr D W)
    (hx : ∀ id D W L, Z (.exit id) L → (D :: ds).Nodup → w0.heap.size ≤ D → St w0 (L ++ marks (D :: ds)) W → Kx D id W)
    (hp : ∀ ch D W L, Z (.panic ch) L → (D :: ds).Nodup → w0.heap.size ≤ D → St w0 (L ++ marks (D :: ds)) W → Kp D ch W) : kRange P none w g np round Kn Kr Kx Kp := by
  have hs : w0.heap.size ≤ w.heap.size := by obtain ⟨L, _, h⟩ := h0; exact h.size
  have done : ∀ {l : Nat} {lo : Loop} {L E : List Own} {W : World}, St w0 (L ++ marks ds ++ lpD l lo w.heap.size ++ E) W → (w.heap.size :: ds).Nodup ∧ w0.heap.size ≤ w.heap.size ∧ St w0 (L ++ marks (w.heap.size :: ds)) W := by
    intro l lo L E W h
    refine ⟨List.nodup_cons.2 ⟨fun hm => Nat.lt_irrefl _ (hdlt _ hm), hnd⟩, hs, ?_⟩
    have h1 : St w0 (L ++ marks ds ++ [.ob w.heap.size (.deferred (some []))]) W := h.sub (List.Sublist.trans (List.Sublist.append (List.Sublist.refl _) (List.Sublist.cons _ (List.Sublist.refl _))) (List.sublist_append_left _ _))
    have := h1.ins L.length
    have e1 : (L ++ marks ds).take L.length = L := by simp
    have e2 : (L ++ marks ds).drop L.length = marks ds := by simp
    rw [e1, e2] at this
    exact this
  refine ⟨.inr ⟨rfl, n, xs, List Own, fun l D lo E i W => ∃ L, A i L ∧ St w0 (L ++ marks ds ++ lpD l lo D ++ E) W, fun l D lo E ex W => ∃ L, Z ex L ∧ St w0 (L ++ marks ds ++ lpD l lo D ++ E) W, [], hlen, ?_, ?_, ?_, ?_, ?_, ?_, ?_, ?_, ?_, ?_, ?_⟩⟩
  · intro lo
    obtain ⟨L, hA, hS⟩ := h0
    have g1 := World.grownBy_alloc w (.deferred (some [])) none
    have hS1 := hS.push g1 (o := .ob w.heap.size (.deferred (some []))) ⟨hs, World.alloc_heap_new w _⟩ (fun k hk => by cases hk; exact Nat.le_refl _)
    have g2 := World.grownBy_alloc (w.alloc (.deferred (some []))) (.loop lo) none
    have hS2 := hS1.push g2 (o := .ob (w.heap.size + 1) (.loop lo)) ⟨by omega, by have := World.alloc_heap_new (w.alloc (.deferred (some []))) (.loop lo); rwa [World.size_alloc] at this⟩ (fun k hk => by cases hk; simp)
    refine ⟨L, hA, hS2.perm ?_⟩
    rw [List.append_assoc, List.append_nil]
    exact List.Perm.append_left _ (List.Perm.swap _ _ _)
  · rintro l D lo E i W ⟨L, hA, h⟩; exact lpD_get h
  · rintro l D lo E ex W ⟨L, hA, h⟩; exact lpD_get h
  · rintro l D lo lo' E i W ⟨L, hA, h⟩; exact ⟨L, hA, lpD_put h lo'⟩
  · rintro l D lo lo' E ex W ⟨L, hA, h⟩; exact ⟨L, hA, lpD_put h lo'⟩
  · rintro i E l D lo W hi ⟨L, hA, h⟩
    have := hround i l D lo W L E hi hA h
    exact this
  · obtain ⟨gf, lb, hg, hcf, hit⟩ := hiter
    refine ⟨gf, lb, hg, hcf, ?_⟩
    rintro l D loR loZ W ⟨L, hA, h⟩ hy
    refine (hit l (fun i M => ∃ L, A i L ∧ M = L ++ marks ds ++ lpD l loR D) (fun ex M => ∃ L lo, Z ex L ∧ M = L ++ marks ds ++ lpD l lo D ∧ (leftBy ex → lo = loZ ex)) W ?_ ⟨_, ⟨L, hA, rfl⟩, by rwa [List.append_nil] at h⟩ ?_).mono ?_
    · rintro i M ⟨L, hA, rfl⟩; exact ⟨L, marks ds ++ lpD l loR D, hA, by rw [List.append_assoc]⟩
    · rintro i W M E hi ⟨L, hA, rfl⟩ hS
      obtain ⟨fn, tmps, asn, body, h1, h2⟩ := hy i E W hi ⟨L, hA, hS⟩
      refine ⟨fn, tmps, asn, body, h1, h2.mono ?_⟩
      intro en W' hen
      cases en with
      | outgrown => exact hen
      | panicked ch => obtain ⟨lo, L', hz, hS'⟩ := hen; exact ⟨_, ⟨L', lo, hz, rfl, fun q => q.elim⟩, hS'⟩
      | returned v =>
        rcases hen with ⟨hv, L', ha, hS'⟩ | ⟨hv, ex, hle, L', hz, hS'⟩
        · exact .inl ⟨hv, _, ⟨L', ha, rfl⟩, hS'⟩
        · exact .inr ⟨hv, ex, _, hle, ⟨L', loZ ex, hz, rfl, fun _ => rfl⟩, hS'⟩
    · intro en W' hen
      cases en with
      | outgrown => exact hen
      | panicked ch => obtain ⟨M, E, ⟨L', lo, hz, rfl, _⟩, hS'⟩ := hen; exact ⟨E, lo, L', hz, hS'⟩
      | returned v =>
        rcases hen with ⟨M, E, ⟨L', ha, rfl⟩, hS'⟩ | ⟨M, E, ex, hle, ⟨L', lo, hz, rfl, hlo⟩, hS'⟩
        · exact .inl ⟨E, L', ha, hS'⟩
        · have := hlo hle
          subst this
          exact .inr ⟨E, ex, hle, L', hz, hS'⟩
  · rintro l lo E W ⟨L, hA, h⟩; obtain ⟨a, b, c⟩ := done h; exact hn _ _ L hA a b c
  · rintro l lo E W ⟨L, hA, h⟩; obtain ⟨a, b, c⟩ := done h; exact hr _ _ L hA a b c
  · rintro id l lo E W ⟨L, hA, h⟩; obtain ⟨a, b, c⟩ := done h; exact hx _ _ _ L hA a b c
  · rintro ch l lo E W ⟨L, hA, h⟩; obtain ⟨a, b, c⟩ := done h; exact hp _ _ _ L hA a b c
/-- Between the assignment and the body: N is what the assignment has made. -/
theorem rndMid_fr {w0 W W1 : World} {X E N : List Own} {l D : Nat} {lo : Loop} {f : Loop → World → Prop} (h0 : St w0 (X ++ lpD l lo D ++ E) W) (h : St w0 (X ++ lpD l lo D ++ E ++ N) W1) (hf : ∀ lo W, St w0 (X ++ lpD l lo D ++ E ++ N) W → f lo W) : rndMid l D W W1 f := by
  rw [List.append_assoc] at h
  exact ⟨(lpD_get h).1.trans (lpD_get h0).1.symm, (lpD_get h).2.trans (lpD_get h0).2.symm, fun lo2 => hf lo2 _ (by rw [List.append_assoc]; exact lpD_put h lo2)⟩
theorem rndEnd_fr {w0 W W1 : World} {X X' E N : List Own} {l D : Nat} {lo lo0 : Loop} {R : Exit → World → Prop} {ex : Exit} (h0 : St w0 (X ++ lpD l lo0 D ++ E) W) (h : St w0 (X' ++ lpD l lo D ++ E ++ N) W1) (hR : St w0 (X' ++ lpD l lo D ++ E) W1 → R ex W1) : rndEnd l D lo W R ex [] W1 := by
  have h' := h.init
  exact ⟨rfl, (lpD_get h').1, (lpD_get h').2.trans (lpD_get h0).2.symm, hR h'⟩
theorem Bs.none {W : World} {n cp : Nat} {bs : List Nat} (h : Bs W none n cp bs) : bs = [] := by
  rcases h.sl.at_ with q | ⟨b, o, q, _⟩
  · simpa using q
  · cases q
/-- The variable that strings' own functions look at. -/
structure Glob (w : World) : Prop where
  at_ : ∃ m, w.cell? ⟨1, 0, none⟩ = some (.int .i64 m)
  lt : 1 < w.heap.size
theorem Glob.below {w w' : World} (h : Glob w) (hB : Below w.heap.size w w') : Glob w' :=
  ⟨h.at_.imp fun m hm => by rw [World.cell?_of_block (w := w) (hB.block 1 h.lt)]; exact hm, Nat.lt_of_lt_of_le h.lt hB.size⟩
/-- What a call has made, by the list. -/
theorem Own.rebase {B B' : Nat} {W : World} {o : Own} (h : o.holds B W) (hB : B' ≤ B) : o.holds B' W := by
  cases o with
  | bx b t cs => exact ⟨Nat.le_trans hB h.1, h.2⟩
  | row x e sz n xs => exact ownsRow_rebase h hB
  | ob b o => exact ⟨Nat.le_trans hB h.1, h.2⟩
theorem St.join {w0 w W : World} {L M : List Own} (h : St w0 L w) (k : St w M W) : St w0 (L ++ M) W := by
  have h' := h.bel k.below
  refine St.ofPw h'.below (fun o ho => ?_) (List.pairwise_append.2 ⟨h.pw, k.pw, fun a ha b hb => ?_⟩)
  · rcases List.mem_append.1 ho with ho | ho
    · exact h'.all o ho
    · exact Own.rebase (k.all o ho) h.size
  · cases hab : a.blk with
    | none => exact .inl rfl
    | some i =>
      right
      intro e
      have h1 := (Own.lt (h.all a ha) i hab).2
      have h2 := (Own.lt (k.all b hb) i e.symm).1
      omega
theorem kIf_nd {p : Prop} [Decidable p] {A B : Prop} (h1 : ¬ p → A) (h2 : p → B) : kIf (.bool (!decide p)) A B := by
  by_cases h : p
  · rw [decide_eq_true h]; exact kIf_f (h2 h)
  · rw [decide_eq_false h]; exact kIf_t (h1 h)
section
variable {c : Cx} {w : World} {k : Value → World → Prop}
/-- A look into a map, and whether it is there. -/
theorem kLook2_map {t kt et : TypeId} {d : TypeDesc} {key v : Value} {b clock j : Nat} {es : Array MapEntry} (hb : w.heap[b]? = some (.map es clock)) (hm : c.P.underlying t = some (.map kt et)) (hk : c.P.underlying kt = some d)
    (hkey : MapKept.IsKey d key) (hf : Instr.findNow d key es.toList 0 = some (some (j, v))) (h : k (.tuple #[v, .bool true]) w) : kLook c w t (.map (some b)) key true k :=
  ⟨kVal_look (fun n => by
    have hg : (w.drewN n).heap[b]? = some (.map es clock) := hb
    have hc : ∀ e, (Instr.checkKey e 10000 kt key).run c.P (w.drewN n) = .ok () (w.drewN n) := fun e => MapKept.run_checkKey hk hkey e 9999
    simp [Instr.lookup, run_underlying hm, MapKept.run_getObj_map hg, hc, MapKept.run_findKey hk hf, Result.andThen]) h⟩
end
theorem app_blk {w : World} {base n : Nat} {x x' : Value} {xs : List Value} {s : ByteArray} {ty : TypeId} {w' : World} (hown : w.ownsRow base 5 1 x n xs) (hm : n + s.size ≤ 140737488355328)
    (hr : (Builtin.append_ #[44, 9] ty #[x, .string s]).run Tryz.prog w = .ok x' w') (hnil : x' = .slice none 0 0 ↔ x = .slice none 0 0 ∧ s.size = 0) : x'.ownBlock = x.ownBlock ∨ ∀ k, x'.ownBlock = some k → w.heap.size ≤ k := by
  have hi := info_of (Tryz.typeInfo5 w)
  have hxl : xs.length = n := by simpa using hown.1
  rcases hown.2 with ⟨rfl, rfl⟩ | ⟨g, cap, cur, rfl, hbg, hg, hnc, hcm, hcs, htake⟩
  · by_cases h0 : s.size = 0
    · rw [hnil.2 ⟨rfl, h0⟩]; exact .inl rfl
    · right
      rw [run_append_nil_string (P := Tryz.prog) w 44 9 ty 5 _ (.int .u8 0) Tryz.underlying44 Tryz.underlying9 hi rfl s (by omega) (by omega) (by show _ * 1 ≤ _; omega)] at hr
      cases hr
      intro k hk; cases hk; exact Nat.le_refl _
  · by_cases hroom : n + s.size ≤ cap
    · left
      have hcs' : cur.size = cap := by simpa using hcs
      rw [Lib.run_append_room_string (P := Tryz.prog) w 44 9 ty 5 _ Tryz.underlying44 Tryz.underlying9 hi rfl g n cap cur hg s hroom (by omega)] at hr
      cases hr
      rfl
    · right
      rw [Lib.run_append_grow_string (P := Tryz.prog) w 44 9 ty 5 _ (.int .u8 0) Tryz.underlying44 Tryz.underlying9 hi rfl ⟨g, 0, none⟩ n cap xs (by rw [hxl]; exact (Nat.mul_one n).symm) (hown.cells (g := g) rfl) s (by omega) (by omega) (by show _ * 1 ≤ _; exact growslice_fits (by omega) (by omega))] at hr
      cases hr
      intro k hk; cases hk; exact Nat.le_refl _
theorem kAppStr_stP {P : Program} {X : Chain → World → Prop} {w w0 : World} {t u e : TypeId} {i : TypeInfo} (ht : P.underlying t = some (.slice e)) (hu : P.underlying u = some .string) (hi : P.info? e = some i) (hz : i.zero = some (.int .u8 0)) (hs : i.size = 1) (hby : i.bytes = 1)
    {L : List Own} (hS : St w0 L w) (j : Nat) {n : Nat} {x : Value} {xs : List Value} {s : ByteArray} (hj : L[j]? = some (.row x e 1 n xs)) {cs : Array Bool} {ty : TypeId} {k : Value → World → Prop} (hm : n + s.size ≤ 140737488355328)
    (hblk : ∀ x' w', (Builtin.append_ #[t, u] ty #[x, .string s]).run P w = .ok x' w' → (x' = .slice none 0 0 ↔ x = .slice none 0 0 ∧ s.size = 0) → x'.ownBlock = x.ownBlock ∨ ∀ k, x'.ownBlock = some k → w.heap.size ≤ k)
    (h : ∀ x' W, St w0 (L.set j (.row x' e 1 (n + s.size) (xs ++ Lib.strCells s))) W → k x' W) : kBlt ⟨P, X, false⟩ w .append #[t, u] ty cs #[x, .string s] k := by
  have hown : w.ownsRow w0.heap.size e 1 x n xs := hS.get j hj
  obtain ⟨x', w', hr, ho, hg, hnil⟩ := Lib.run_append_own_string (P := P) w w0.heap.size t u ty e i ht hu hi hz hs hby x n xs hown s (by simp [maxLen]; omega) hm hS.size
  have hb := hblk x' w' hr hnil
  refine ⟨?_⟩
  show kNext _ _ _
  simp only [builtin, Sem.run_bind, hr, Result.andThen_ok, Sem.run_pure]
  exact h x' w' (hS.set j hj hg ho hb)
theorem kAppStr_st {X : Chain → World → Prop} {w w0 : World} {L : List Own} (hS : St w0 L w) (i : Nat) {n : Nat} {x : Value} {xs : List Value} {s : ByteArray} (hi : L[i]? = some (.row x 5 1 n xs)) {cs : Array Bool} {ty : TypeId} {k : Value → World → Prop} (hm : n + s.size ≤ 140737488355328)
    (h : ∀ x' W, St w0 (L.set i (.row x' 5 1 (n + s.size) (xs ++ Lib.strCells s))) W → k x' W) : kBlt ⟨Tryz.prog, X, false⟩ w .append #[44, 9] ty cs #[x, .string s] k :=
  kAppStr_stP Tryz.underlying44 Tryz.underlying9 (info_of (Tryz.typeInfo5 w)) rfl rfl rfl hS i hi hm (fun x' w' hr hnil => app_blk (hS.get i hi) hm hr hnil) h
theorem row_cells {base : Nat} {w : World} {e : TypeId} {sz n : Nat} {x : Value} {xs : List Value} (h : w.ownsRow base e sz x n xs) : x.cells = #[x] ∧ x.oneCell' = true := by
  rcases h.2 with ⟨rfl, _⟩ | ⟨g, cap, cur, rfl, _⟩ <;> exact ⟨rfl, rfl⟩
theorem kFa179_1 {X : Chain → World → Prop} {q : Bool} {w : World} {b o : Nat} {k : Value → World → Prop} (h : k (.pointer (some ⟨b, o + 1, none⟩)) w) : kFa ⟨Tryz.prog, X, q⟩ w 67 (.pointer (some ⟨b, o, none⟩)) 1 k :=
  kFa_i (c := ⟨Tryz.prog, X, q⟩) Tryz.underlying67 rfl (n := 0) Tryz.sizeOf44 h
theorem kFa179_0 {X : Chain → World → Prop} {q : Bool} {w : World} {b o : Nat} {k : Value → World → Prop} (h : k (.pointer (some ⟨b, o, none⟩)) w) : kFa ⟨Tryz.prog, X, q⟩ w 67 (.pointer (some ⟨b, o, none⟩)) 0 k :=
  kFa_i (c := ⟨Tryz.prog, X, q⟩) Tryz.underlying67 rfl (n := 0) Tryz.sizeOf65 h
theorem kEq_p {X : Chain → World → Prop} {q : Bool} {w : World} {k : Value → World → Prop} {ox oy : Operand} {a : Addr} (h : k (.bool false) w) : kEq ⟨Tryz.prog, X, q⟩ w .eql 65 ox oy (.pointer (some a)) (.pointer none) k :=
  ⟨kVal_pure (c := ⟨Tryz.prog, X, q⟩) (v := .bool false) (fun w' => by
    simp only [go_sem]
    show Sem.run Tryz.prog (do pure (.bool (← Op.equal 65 (.pointer (some a)) (.pointer none))) : Sem Value) w' = _
    have : (Op.equal 65 (.pointer (some a)) (.pointer none)).run Tryz.prog w' = .ok false w' := by
      unfold Op.equal Op.maxDepth Op.equalIn
      simp [run_underlying Tryz.underlying65]
    simp [this]) h⟩
theorem kNe_p {X : Chain → World → Prop} {q : Bool} {w : World} {k : Value → World → Prop} {ox oy : Operand} {a : Addr} (h : k (.bool false) w) : kEq ⟨Tryz.prog, X, q⟩ w .neq 65 ox oy (.pointer (some a)) (.pointer (some a)) k :=
  ⟨kVal_pure (c := ⟨Tryz.prog, X, q⟩) (v := .bool false) (fun w' => by
    simp only [go_sem]
    show Sem.run Tryz.prog (do pure (.bool !(← Op.equal 65 (.pointer (some a)) (.pointer (some a)))) : Sem Value) w' = _
    have : (Op.equal 65 (.pointer (some a)) (.pointer (some a))).run Tryz.prog w' = .ok true w' := by
      unfold Op.equal Op.maxDepth Op.equalIn
      simp [run_underlying Tryz.underlying65, sameAddr]
    simp [this]) h⟩
theorem check142 {w0 w : World} {L : List Own} (hS : St w0 L w) (i : Nat) {b : Nat} {v : Value} (hi : L[i]? = some (.bx b 67 #[.pointer (some ⟨b, 0, none⟩), v])) (R : Ending → World → Prop) (h : R (.returned (.tuple #[])) w) : Calls Tryz.prog 80 #[.pointer (some ⟨b, 0, none⟩)] w R := by
  refine c80 _ _ _ ?_
  unfold vc80
  exact kNil_p (kFa179_0 (kLoad_st hS i hi rfl (fun w => Tryz.isAgg65 w) (kEq_p (kIf_f (kNil_p (kFa179_0 (kLoad_st hS i hi rfl (fun w => Tryz.isAgg65 w) (kNe_p (kIf_f h)))))))))
abbrev IV := ByteArray × Int × Int × Int
def iVal (r : IV) : Value := .agg #[.string r.1, .int .i64 r.2.1, .int .i64 r.2.2.1, .int .i64 r.2.2.2]
def infoT : List IV := [(⟨#[]⟩, 0, 0, 0), (⟨#[43]⟩, 2, 2, 2), (⟨#[45]⟩, 2, 2, 2), (⟨#[42]⟩, 2, 2, 2), (⟨#[47]⟩, 2, 2, 2), (⟨#[37]⟩, 2, 2, 2), (⟨#[124, 124]⟩, 2, 0, 0), (⟨#[61]⟩, 2, 0, 1), (⟨#[60, 62]⟩, 2, 0, 1), (⟨#[60]⟩, 2, 0, 1), (⟨#[60, 61]⟩, 2, 0, 1), (⟨#[62]⟩, 2, 0, 1), (⟨#[62, 61]⟩, 2, 0, 1), (⟨#[97, 110, 100]⟩, 2, 1, 1), (⟨#[111, 114]⟩, 2, 1, 1), (⟨#[45]⟩, 1, 2, 2), (⟨#[110, 111, 116]⟩, 1, 1, 1), (⟨#[105, 115, 32, 110, 117, 108, 108]⟩, 1, 0, 1), (⟨#[105, 115, 32, 110, 111, 116, 32, 110, 117, 108, 108]⟩, 1, 0, 1), (⟨#[108, 101, 110, 103, 116, 104]⟩, 1, 0, 2), (⟨#[97, 98, 115]⟩, 1, 2, 2)]
def info0 : IV := (⟨#[]⟩, 0, 0, 0)
def infoO (o : Int) : IV := if 1 ≤ o ∧ o ≤ 20 then infoT.getD o.toNat info0 else info0
def tabC : Array Value := #[.string ⟨#[]⟩, .int .i64 0, .int .i64 0, .int .i64 0, .string ⟨#[43]⟩, .int .i64 2, .int .i64 2, .int .i64 2, .string ⟨#[45]⟩, .int .i64 2, .int .i64 2, .int .i64 2, .string ⟨#[42]⟩, .int .i64 2, .int .i64 2, .int .i64 2, .string ⟨#[47]⟩, .int .i64 2, .int .i64 2, .int .i64 2, .string ⟨#[37]⟩, .int .i64 2, .int .i64 2, .int .i64 2, .string ⟨#[124, 124]⟩, .int .i64 2, .int .i64 0, .int .i64 0, .string ⟨#[61]⟩, .int .i64 2, .int .i64 0, .int .i64 1, .string ⟨#[60, 62]⟩, .int .i64 2, .int .i64 0, .int .i64 1, .string ⟨#[60]⟩, .int .i64 2, .int .i64 0, .int .i64 1, .string ⟨#[60, 61]⟩, .int .i64 2, .int .i64 0, .int .i64 1, .string ⟨#[62]⟩, .int .i64 2, .int .i64 0, .int .i64 1, .string ⟨#[62, 61]⟩, .int .i64 2, .int .i64 0, .int .i64 1, .string ⟨#[97, 110, 100]⟩, .int .i64 2, .int .i64 1, .int .i64 1, .string ⟨#[111, 114]⟩, .int .i64 2, .int .i64 1, .int .i64 1, .string ⟨#[45]⟩, .int .i64 1, .int .i64 2, .int .i64 2, .string ⟨#[110, 111, 116]⟩, .int .i64 1, .int .i64 1, .int .i64 1, .string ⟨#[105, 115, 32, 110, 117, 108, 108]⟩, .int .i64 1, .int .i64 0, .int .i64 1, .string ⟨#[105, 115, 32, 110, 111, 116, 32, 110, 117, 108, 108]⟩, .int .i64 1, .int .i64 0, .int .i64 1, .string ⟨#[108, 101, 110, 103, 116, 104]⟩, .int .i64 1, .int .i64 0, .int .i64 2, .string ⟨#[97, 98, 115]⟩, .int .i64 1, .int .i64 2, .int .i64 2]
theorem ix116 (w : World) : ∀ k : Nat, k < 21 → (Instr.index 127 (.agg tabC) (.int .i64 k)).run Tryz.prog w = .ok (iVal (infoT.getD k info0)) w
  | 0, _ => by kernel_rfl
  | 1, _ => by kernel_rfl
  | 2, _ => by kernel_rfl
  | 3, _ => by kernel_rfl
  | 4, _ => by kernel_rfl
  | 5, _ => by kernel_rfl
  | 6, _ => by kernel_rfl
  | 7, _ => by kernel_rfl
  | 8, _ => by kernel_rfl
  | 9, _ => by kernel_rfl
  | 10, _ => by kernel_rfl
  | 11, _ => by kernel_rfl
  | 12, _ => by kernel_rfl
  | 13, _ => by kernel_rfl
  | 14, _ => by kernel_rfl
  | 15, _ => by kernel_rfl
  | 16, _ => by kernel_rfl
  | 17, _ => by kernel_rfl
  | 18, _ => by kernel_rfl
  | 19, _ => by kernel_rfl
  | 20, _ => by kernel_rfl
  | n + 21, h => absurd h (by omega)
theorem RetK_62v {R : Ending → World → Prop} {w w0 : World} {L : List Own} (hS : St w0 L w) (i : Nat) {b : Nat} {cs : Array Value} {v : Value} (hi : L[i]? = some (.bx b 82 cs)) (hn : cs.size = 4) (h : R (.returned (.tuple #[.agg cs, v])) w) : RetK Tryz.prog [.cell (.pointer (some ⟨b, 0, none⟩)) 82, .val v] R w := by
  refine ⟨.tuple #[.agg cs, v], ?_, h⟩
  have := run_loadVar_row (P := Tryz.prog) w b 82 82 cs (0, 0) _ (hS.get i hi).2 Tryz.underlying82 rfl (by rw [info_of (Tryz.typeInfo82 w), hn]; rfl)
  simp [resSem, asAddr, this]
theorem RetK_116 {R : Ending → World → Prop} {w w0 : World} {L : List Own} (hS : St w0 L w) (i : Nat) {b : Nat} {cs : Array Value} (hi : L[i]? = some (.bx b 127 cs)) (hn : cs.size = 84) (h : R (.returned (.agg cs)) w) : RetK Tryz.prog [.cell (.pointer (some ⟨b, 0, none⟩)) 127] R w := by
  refine ⟨.agg cs, ?_, h⟩
  have := run_loadVar_row (P := Tryz.prog) w b 127 127 cs (0, 0) _ (hS.get i hi).2 Tryz.underlying127 rfl (by rw [info_of (Tryz.typeInfo127 w), hn]; rfl)
  simp [resSem, asAddr, this]
set_option maxRecDepth 10000 in
theorem rows74 (w : World) (R : Ending → World → Prop) (h : ∀ W, Below w.heap.size w W → R (.returned (.agg tabC)) W) : Calls Tryz.prog 75 #[] w R := by
  refine c75 _ _ ?_
  unfold vc75
  refine kAlloc_st Tryz.zeroValue127 (St.start w) fun b W hS => ?_
  refine kBuild_i (cs := #[.string ⟨#[43]⟩, .int .i64 2, .int .i64 2, .int .i64 2]) (by kernel_rfl) ?_
  refine kBuild_i (cs := #[.string ⟨#[45]⟩, .int .i64 2, .int .i64 2, .int .i64 2]) (by kernel_rfl) ?_
  refine kBuild_i (cs := #[.string ⟨#[42]⟩, .int .i64 2, .int .i64 2, .int .i64 2]) (by kernel_rfl) ?_
  refine kBuild_i (cs := #[.string ⟨#[47]⟩, .int .i64 2, .int .i64 2, .int .i64 2]) (by kernel_rfl) ?_
  refine kBuild_i (cs := #[.string ⟨#[37]⟩, .int .i64 2, .int .i64 2, .int .i64 2]) (by kernel_rfl) ?_
  refine kBuild_i (cs := #[.string ⟨#[124, 124]⟩, .int .i64 2, .int .i64 0, .int .i64 0]) (by kernel_rfl) ?_
  refine kBuild_i (cs := #[.string ⟨#[61]⟩, .int .i64 2, .int .i64 0, .int .i64 1]) (by kernel_rfl) ?_
  refine kBuild_i (cs := #[.string ⟨#[60, 62]⟩, .int .i64 2, .int .i64 0, .int .i64 1]) (by kernel_rfl) ?_
  refine kBuild_i (cs := #[.string ⟨#[60]⟩, .int .i64 2, .int .i64 0, .int .i64 1]) (by kernel_rfl) ?_
  refine kBuild_i (cs := #[.string ⟨#[60, 61]⟩, .int .i64 2, .int .i64 0, .int .i64 1]) (by kernel_rfl) ?_
  refine kBuild_i (cs := #[.string ⟨#[62]⟩, .int .i64 2, .int .i64 0, .int .i64 1]) (by kernel_rfl) ?_
  refine kBuild_i (cs := #[.string ⟨#[62, 61]⟩, .int .i64 2, .int .i64 0, .int .i64 1]) (by kernel_rfl) ?_
  refine kBuild_i (cs := #[.string ⟨#[97, 110, 100]⟩, .int .i64 2, .int .i64 1, .int .i64 1]) (by kernel_rfl) ?_
  refine kBuild_i (cs := #[.string ⟨#[111, 114]⟩, .int .i64 2, .int .i64 1, .int .i64 1]) (by kernel_rfl) ?_
  refine kBuild_i (cs := #[.string ⟨#[45]⟩, .int .i64 1, .int .i64 2, .int .i64 2]) (by kernel_rfl) ?_
  refine kBuild_i (cs := #[.string ⟨#[110, 111, 116]⟩, .int .i64 1, .int .i64 1, .int .i64 1]) (by kernel_rfl) ?_
  refine kBuild_i (cs := #[.string ⟨#[105, 115, 32, 110, 117, 108, 108]⟩, .int .i64 1, .int .i64 0, .int .i64 1]) (by kernel_rfl) ?_
  refine kBuild_i (cs := #[.string ⟨#[105, 115, 32, 110, 111, 116, 32, 110, 117, 108, 108]⟩, .int .i64 1, .int .i64 0, .int .i64 1]) (by kernel_rfl) ?_
  refine kBuild_i (cs := #[.string ⟨#[108, 101, 110, 103, 116, 104]⟩, .int .i64 1, .int .i64 0, .int .i64 2]) (by kernel_rfl) ?_
  refine kBuild_i (cs := #[.string ⟨#[97, 98, 115]⟩, .int .i64 1, .int .i64 2, .int .i64 2]) (by kernel_rfl) ?_
  refine kBuild_i (cs := tabC) (by kernel_rfl) ?_
  exact kStoreA_st hS 0 rfl (by kernel_rfl) (by kernel_rfl) Tryz.sizeOf127 fun W hS => RetK_116 hS 0 rfl (by kernel_rfl) (h W hS.below)
theorem Info28 (o : Int) (w : World) (R : Ending → World → Prop) (h : ∀ W, Below w.heap.size w W → R (.returned (.tuple #[iVal (infoO o), .bool (decide (1 ≤ o ∧ o ≤ 20))])) W) : Calls Tryz.prog 29 #[.int .i64 o] w R := by
  refine c29 _ _ _ ?_
  unfold vc29
  refine kAlloc_st Tryz.zeroValue82 (St.start w) fun b W hS => ?_
  have hS : St w [.bx b 82 #[.string ⟨#[]⟩, .int .i64 0, .int .i64 0, .int .i64 0]] W := hS
  have bad : ¬ (1 ≤ o ∧ o ≤ 20) → kBuild (cR Tryz.prog R) W 82 #[] fun v10 w_7 => kStore (cR Tryz.prog R) w_7 82 (.pointer (some ⟨b, 0, none⟩)) v10 fun w_8 => RetK Tryz.prog [.cell (.pointer (some ⟨b, 0, none⟩)) 82, .val (.bool false)] R w_8 := by
    intro hn
    refine kBuild_i (cs := #[.string ⟨#[]⟩, .int .i64 0, .int .i64 0, .int .i64 0]) (by kernel_rfl) (kStoreA_st hS 0 rfl rfl (by simp [Value.oneCell']) Tryz.sizeOf82 fun W hS => RetK_62v hS 0 rfl rfl ?_)
    have := h W hS.below
    rw [show infoO o = info0 from if_neg hn, decide_eq_false hn] at this
    exact this
  refine kJn_inv (fun cs V => V = W ∧ 1 ≤ o ∧ o ≤ 20) ?_ ?_
  · rintro cs V ⟨rfl, h1, h2⟩ ds
    refine kCall_i (Tryz.call75 _ _) (rows74 _ _ fun W2 hB => ?_)
    have hS2 := hS.bel hB
    obtain ⟨k, rfl⟩ : ∃ k : Nat, o = (k : Int) := ⟨o.toNat, by omega⟩
    refine kIx_i (fun w => ix116 w k (by omega)) (kStoreA_st hS2 0 rfl rfl (by simp [Value.oneCell', iVal]) Tryz.sizeOf82 fun W hS => RetK_62v hS 0 rfl rfl ?_)
    have := h W hS.below
    rw [show infoO (k : Int) = infoT.getD k info0 from if_pos ⟨h1, h2⟩, decide_eq_true ⟨h1, h2⟩] at this
    exact this
  · intro J hJ
    refine kBin_leq (kIf_d (fun e => kIf_t (bad (by omega))) (fun e => kBin_gtr (kIf_d (fun e2 => bad (by omega)) (fun e2 => kD_i (hJ _ _ ⟨rfl, by omega, by omega⟩)))))
end Go.L
/-
  DERIVED: THE SHELF's CONTRACTS AT THIS DUMP, IN PLAIN WORDS (tools/lay-plain.mjs out of 'TryzShelf.lean', which tools/lay-shelf.mjs wrote): THE SAME DECLARATIONS UNDER THE SAME NAMES: 'import', 'namespace', 'open', 'def', 'theorem' AND NOTHING ELSE: no command of the shelf's: FOR A HAND-IN. Each laying: the table of numbers ('.._ren') and one theorem, a field a fact of the dump's own or the kernel's comparison; each contract: ONE APPLICATION.
-/
namespace Go.Proofs
open Go.Shelf
def Tryz.lays169_ren : Go.Shelf.Ren := ⟨fun | 169 => 34 | n => n, fun | 70 => 65 | 9 => 9 | 0 => 0 | 72 => 67 | 37 => 44 | 127 => 134 | 3 => 3 | 5 => 5 | n => n, fun | n => n⟩
theorem Tryz.lays169 : Go.Proofs.Lays.n169 Tryz.prog Tryz.lays169_ren := {
  mixed := by kernel_rfl
  f169 := Tryz.func34.trans (congrArg some (by kernel_rfl))
  t0 := Tryz.underlying0
  a0 := Tryz.isAgg0
  z0 := Tryz.sizeOf0
  v0 := Tryz.zeroValue0
  t3 := Tryz.underlying3
  a3 := Tryz.isAgg3
  z3 := Tryz.sizeOf3
  v3 := Tryz.zeroValue3
  t9 := Tryz.underlying9
  a9 := Tryz.isAgg9
  z9 := Tryz.sizeOf9
  v9 := Tryz.zeroValue9
  t37 := Tryz.underlying44
  a37 := Tryz.isAgg44
  z37 := Tryz.sizeOf44
  v37 := Tryz.zeroValue44
  t70 := Tryz.underlying65
  a70 := Tryz.isAgg65
  z70 := Tryz.sizeOf65
  v70 := Tryz.zeroValue65
  t72 := Tryz.underlying67
  a72 := Tryz.isAgg67
  z72 := Tryz.sizeOf67
  v72 := Tryz.zeroValue67
  t127 := Tryz.underlying134
  a127 := Tryz.isAgg134
  z127 := Tryz.sizeOf134
  v127 := Tryz.zeroValue134 }
theorem Tryz.Builder_Extra_169 : Builder.Extra Tryz.prog Tryz.lays169_ren := {
  sizeBuilder := by kernel_rfl
  liesBuilder := by kernel_rfl
  t5 := Tryz.underlying5
  a5 := Tryz.isAgg5
  z5 := Tryz.sizeOf5
  v5 := Tryz.zeroValue5
  infoByte := by kernel_rfl
  cellsByte := by kernel_rfl
  sizeByte := by kernel_rfl
  neB5 := by decide }
open Go.RowKit in
/-- (*strings.Builder).String: "String returns the accumulated string.": WHATEVER THE BUILDER HOLDS. (LAID: no walk: one application.) -/
theorem Tryz.Builder_String_any (B b : Nat) (l : List UInt8) (w : World) (h : Lib.IsBuilder 67 5 B b (Lib.byteCells l) w) (hBw : B ≤ w.heap.size) :
    Calls Tryz.prog 34 #[.pointer (some ⟨b, 0, none⟩)] w fun e w' => e = .returned (.string ⟨l.toArray⟩) ∧ Below B w w' := Any.Builder_String_any Tryz.lays169 Tryz.Builder_Extra_169 B b l w h hBw
def Tryz.lays165_ren : Go.Shelf.Ren := ⟨fun | 165 => 81 | 240 => 80 | 241 => 120 | 276 => 119 | 277 => 138 | n => n, fun | 70 => 65 | 3 => 3 | 0 => 0 | 4 => 4 | 9 => 9 | 20 => 20 | 72 => 67 | 37 => 44 | 164 => 169 | 5 => 5 | n => n, fun | n => n⟩
theorem Tryz.lays165 : Go.Proofs.Lays.n165 Tryz.prog Tryz.lays165_ren := {
  mixed := by kernel_rfl
  f165 := Tryz.func81.trans (congrArg some (by kernel_rfl))
  f240 := Tryz.func80.trans (congrArg some (by kernel_rfl))
  f241 := Tryz.func120.trans (congrArg some (by kernel_rfl))
  f276 := Tryz.func119.trans (congrArg some (by kernel_rfl))
  f277 := Tryz.func138.trans (congrArg some (by kernel_rfl))
  t0 := Tryz.underlying0
  a0 := Tryz.isAgg0
  z0 := Tryz.sizeOf0
  v0 := Tryz.zeroValue0
  t3 := Tryz.underlying3
  a3 := Tryz.isAgg3
  z3 := Tryz.sizeOf3
  v3 := Tryz.zeroValue3
  t4 := Tryz.underlying4
  a4 := Tryz.isAgg4
  z4 := Tryz.sizeOf4
  v4 := Tryz.zeroValue4
  t9 := Tryz.underlying9
  a9 := Tryz.isAgg9
  z9 := Tryz.sizeOf9
  v9 := Tryz.zeroValue9
  t20 := Tryz.underlying20
  a20 := Tryz.isAgg20
  z20 := Tryz.sizeOf20
  v20 := Tryz.zeroValue20
  t37 := Tryz.underlying44
  a37 := Tryz.isAgg44
  z37 := Tryz.sizeOf44
  v37 := Tryz.zeroValue44
  t70 := Tryz.underlying65
  a70 := Tryz.isAgg65
  z70 := Tryz.sizeOf65
  v70 := Tryz.zeroValue65
  t72 := Tryz.underlying67
  a72 := Tryz.isAgg67
  z72 := Tryz.sizeOf67
  v72 := Tryz.zeroValue67
  t164 := Tryz.underlying169
  a164 := Tryz.isAgg169
  z164 := Tryz.sizeOf169
  v164 := Tryz.zeroValue169 }
theorem Tryz.Builder_Extra_165 : Builder.Extra Tryz.prog Tryz.lays165_ren := {
  sizeBuilder := by kernel_rfl
  liesBuilder := by kernel_rfl
  t5 := Tryz.underlying5
  a5 := Tryz.isAgg5
  z5 := Tryz.sizeOf5
  v5 := Tryz.zeroValue5
  infoByte := by kernel_rfl
  cellsByte := by kernel_rfl
  sizeByte := by kernel_rfl
  neB5 := by decide }
open Go.RowKit in
/-- (*strings.Builder).Grow AT A BUILDER THAT HAS NOT BEEN WRITTEN ('var b strings.Builder; b.Grow(n)'): "Grow grows b's capacity, if necessary, to guarantee space for another n bytes.": it holds no byte behind it as before it. (LAID: no walk: one application.) -/
theorem Tryz.Builder_Grow_fresh (B b n : Nat) (w : World) (hB : B ≤ b) (hbk : w.heap[b]? = some (.cells #[.pointer none, .slice none 0 0] 67 (0, 0))) (hBw : B ≤ w.heap.size) (hn : n ≤ 281474976710656) :
    Calls Tryz.prog 81 #[.pointer (some ⟨b, 0, none⟩), .int .i64 n] w fun e w' => e = .returned (.tuple #[]) ∧ (Lib.BuilderAt 67 5 B b (.pointer (some ⟨b, 0, none⟩)) [] w' ∧ Below B w w') := Any.Builder_Grow_fresh Tryz.lays165 Tryz.Builder_Extra_165 B b n w hB hbk hBw hn
def Tryz.laysM246_ren : Go.Shelf.Ren := ⟨fun | 246 => 107 | 283 => 132 | 284 => 133 | 285 => 134 | 286 => 135 | 129 => 145 | 317 => 144 | 318 => 146 | 319 => 147 | 320 => 148 | 337 => 158 | 338 => 159 | n => n, fun | 2 => 2 | 3 => 3 | 9 => 9 | 4 => 4 | 171 => 183 | 0 => 0 | 53 => 145 | 37 => 44 | 5 => 5 | 173 => 186 | 212 => 204 | 51 => 205 | 20 => 20 | 213 => 206 | 46 => 103 | 232 => 216 | 233 => 217 | n => n, fun | 17 => 0 | 18 => 2 | 19 => 3 | n => n⟩
theorem Tryz.laysM246 : Go.Proofs.LaysM.n246 Tryz.prog Tryz.laysM246_ren := {
  mixed := by kernel_rfl
  f129 := Tryz.func145.trans (congrArg some (by kernel_rfl))
  f246 := Tryz.func107.trans (congrArg some (by kernel_rfl))
  f283 := Tryz.func132.trans (congrArg some (by kernel_rfl))
  f284 := Tryz.func133.trans (congrArg some (by kernel_rfl))
  f285 := Tryz.func134.trans (congrArg some (by kernel_rfl))
  f286 := Tryz.func135.trans (congrArg some (by kernel_rfl))
  f317 := Tryz.func144.trans (congrArg some (by kernel_rfl))
  f318 := Tryz.func146.trans (congrArg some (by kernel_rfl))
  f319 := Tryz.func147.trans (congrArg some (by kernel_rfl))
  f320 := Tryz.func148.trans (congrArg some (by kernel_rfl))
  f337 := Tryz.func158.trans (congrArg some (by kernel_rfl))
  f338 := Tryz.func159.trans (congrArg some (by kernel_rfl))
  t0 := Tryz.underlying0
  a0 := Tryz.isAgg0
  z0 := Tryz.sizeOf0
  v0 := Tryz.zeroValue0
  t2 := Tryz.underlying2
  a2 := Tryz.isAgg2
  z2 := Tryz.sizeOf2
  v2 := Tryz.zeroValue2
  t3 := Tryz.underlying3
  a3 := Tryz.isAgg3
  z3 := Tryz.sizeOf3
  v3 := Tryz.zeroValue3
  t4 := Tryz.underlying4
  a4 := Tryz.isAgg4
  z4 := Tryz.sizeOf4
  v4 := Tryz.zeroValue4
  t5 := Tryz.underlying5
  a5 := Tryz.isAgg5
  z5 := Tryz.sizeOf5
  v5 := Tryz.zeroValue5
  t9 := Tryz.underlying9
  a9 := Tryz.isAgg9
  z9 := Tryz.sizeOf9
  v9 := Tryz.zeroValue9
  t20 := Tryz.underlying20
  a20 := Tryz.isAgg20
  z20 := Tryz.sizeOf20
  v20 := Tryz.zeroValue20
  t37 := Tryz.underlying44
  a37 := Tryz.isAgg44
  z37 := Tryz.sizeOf44
  v37 := Tryz.zeroValue44
  t46 := Tryz.underlying103
  a46 := Tryz.isAgg103
  z46 := Tryz.sizeOf103
  v46 := Tryz.zeroValue103
  t51 := Tryz.underlying205
  a51 := Tryz.isAgg205
  z51 := Tryz.sizeOf205
  v51 := Tryz.zeroValue205
  t53 := Tryz.underlying145
  a53 := Tryz.isAgg145
  z53 := Tryz.sizeOf145
  v53 := Tryz.zeroValue145
  t171 := Tryz.underlying183
  a171 := Tryz.isAgg183
  z171 := Tryz.sizeOf183
  v171 := Tryz.zeroValue183
  t173 := Tryz.underlying186
  a173 := Tryz.isAgg186
  z173 := Tryz.sizeOf186
  v173 := Tryz.zeroValue186
  t212 := Tryz.underlying204
  a212 := Tryz.isAgg204
  z212 := Tryz.sizeOf204
  v212 := Tryz.zeroValue204
  t213 := Tryz.underlying206
  a213 := Tryz.isAgg206
  z213 := Tryz.sizeOf206
  t232 := Tryz.underlying216
  a232 := Tryz.isAgg216
  z232 := Tryz.sizeOf216
  v232 := Tryz.zeroValue216
  t233 := Tryz.underlying217
  a233 := Tryz.isAgg217
  z233 := Tryz.sizeOf217
  v233 := Tryz.zeroValue217
  g17 := by kernel_rfl
  g18 := by kernel_rfl
  g19 := by kernel_rfl
  i0 := by kernel_rfl
  i2 := by kernel_rfl
  i3 := by kernel_rfl
  i4 := by kernel_rfl
  i5 := by kernel_rfl
  i9 := by kernel_rfl
  i20 := by kernel_rfl
  i37 := by kernel_rfl
  i46 := by kernel_rfl
  i51 := by kernel_rfl
  i53 := by kernel_rfl
  i171 := by kernel_rfl
  i173 := by kernel_rfl
  i212 := by kernel_rfl
  i232 := by kernel_rfl
  i233 := by kernel_rfl
  m17 := by kernel_rfl
  m18 := by kernel_rfl
  m19 := by kernel_rfl }
open Go.RowKit Go.Sort Go.Lib in
/-- internal/strconv.FormatInt: "FormatInt returns the string representation of i in the given base": AT BASE 10: i's decimal numeral, for every int64. The world behind the call: the world before it, new blocks behind the heap, draws. (LAID: no walk: one application.) -/
theorem Tryz.internal_strconv_FormatInt_10 (n : Int) (h0 : -9223372036854775808 ≤ n) (h1 : n ≤ 9223372036854775807) (w : World) (htab : Lib.TabIs Tryz.prog w "internal/strconv.uint64pow10" .u64 Lib.pow10Tab) :
    Calls Tryz.prog 107 #[.int .i64 n, .int .i64 10] w fun e w' => e = .returned (.string ⟨(Lib.itoa n).toArray⟩) ∧ ∃ k os, w' = grow (w.drewN k) os := Any.internal_strconv_FormatInt_10 Tryz.laysM246 n h0 h1 w htab
def Tryz.laysM171_ren : Go.Shelf.Ren := ⟨fun | 171 => 28 | 243 => 74 | 246 => 107 | 283 => 132 | 284 => 133 | 285 => 134 | 286 => 135 | 129 => 145 | 317 => 144 | 318 => 146 | 319 => 147 | 320 => 148 | 337 => 158 | 338 => 159 | n => n, fun | 3 => 3 | 9 => 9 | 2 => 2 | 4 => 4 | 171 => 183 | 0 => 0 | 53 => 145 | 37 => 44 | 5 => 5 | 173 => 186 | 212 => 204 | 51 => 205 | 20 => 20 | 213 => 206 | 46 => 103 | 232 => 216 | 233 => 217 | n => n, fun | 17 => 0 | 18 => 2 | 19 => 3 | n => n⟩
theorem Tryz.laysM171 : Go.Proofs.LaysM.n171 Tryz.prog Tryz.laysM171_ren := {
  mixed := by kernel_rfl
  f129 := Tryz.func145.trans (congrArg some (by kernel_rfl))
  f171 := Tryz.func28.trans (congrArg some (by kernel_rfl))
  f243 := Tryz.func74.trans (congrArg some (by kernel_rfl))
  f246 := Tryz.func107.trans (congrArg some (by kernel_rfl))
  f283 := Tryz.func132.trans (congrArg some (by kernel_rfl))
  f284 := Tryz.func133.trans (congrArg some (by kernel_rfl))
  f285 := Tryz.func134.trans (congrArg some (by kernel_rfl))
  f286 := Tryz.func135.trans (congrArg some (by kernel_rfl))
  f317 := Tryz.func144.trans (congrArg some (by kernel_rfl))
  f318 := Tryz.func146.trans (congrArg some (by kernel_rfl))
  f319 := Tryz.func147.trans (congrArg some (by kernel_rfl))
  f320 := Tryz.func148.trans (congrArg some (by kernel_rfl))
  f337 := Tryz.func158.trans (congrArg some (by kernel_rfl))
  f338 := Tryz.func159.trans (congrArg some (by kernel_rfl))
  t0 := Tryz.underlying0
  a0 := Tryz.isAgg0
  z0 := Tryz.sizeOf0
  v0 := Tryz.zeroValue0
  t2 := Tryz.underlying2
  a2 := Tryz.isAgg2
  z2 := Tryz.sizeOf2
  v2 := Tryz.zeroValue2
  t3 := Tryz.underlying3
  a3 := Tryz.isAgg3
  z3 := Tryz.sizeOf3
  v3 := Tryz.zeroValue3
  t4 := Tryz.underlying4
  a4 := Tryz.isAgg4
  z4 := Tryz.sizeOf4
  v4 := Tryz.zeroValue4
  t5 := Tryz.underlying5
  a5 := Tryz.isAgg5
  z5 := Tryz.sizeOf5
  v5 := Tryz.zeroValue5
  t9 := Tryz.underlying9
  a9 := Tryz.isAgg9
  z9 := Tryz.sizeOf9
  v9 := Tryz.zeroValue9
  t20 := Tryz.underlying20
  a20 := Tryz.isAgg20
  z20 := Tryz.sizeOf20
  v20 := Tryz.zeroValue20
  t37 := Tryz.underlying44
  a37 := Tryz.isAgg44
  z37 := Tryz.sizeOf44
  v37 := Tryz.zeroValue44
  t46 := Tryz.underlying103
  a46 := Tryz.isAgg103
  z46 := Tryz.sizeOf103
  v46 := Tryz.zeroValue103
  t51 := Tryz.underlying205
  a51 := Tryz.isAgg205
  z51 := Tryz.sizeOf205
  v51 := Tryz.zeroValue205
  t53 := Tryz.underlying145
  a53 := Tryz.isAgg145
  z53 := Tryz.sizeOf145
  v53 := Tryz.zeroValue145
  t171 := Tryz.underlying183
  a171 := Tryz.isAgg183
  z171 := Tryz.sizeOf183
  v171 := Tryz.zeroValue183
  t173 := Tryz.underlying186
  a173 := Tryz.isAgg186
  z173 := Tryz.sizeOf186
  v173 := Tryz.zeroValue186
  t212 := Tryz.underlying204
  a212 := Tryz.isAgg204
  z212 := Tryz.sizeOf204
  v212 := Tryz.zeroValue204
  t213 := Tryz.underlying206
  a213 := Tryz.isAgg206
  z213 := Tryz.sizeOf206
  t232 := Tryz.underlying216
  a232 := Tryz.isAgg216
  z232 := Tryz.sizeOf216
  v232 := Tryz.zeroValue216
  t233 := Tryz.underlying217
  a233 := Tryz.isAgg217
  z233 := Tryz.sizeOf217
  v233 := Tryz.zeroValue217
  g17 := by kernel_rfl
  g18 := by kernel_rfl
  g19 := by kernel_rfl
  i0 := by kernel_rfl
  i2 := by kernel_rfl
  i3 := by kernel_rfl
  i4 := by kernel_rfl
  i5 := by kernel_rfl
  i9 := by kernel_rfl
  i20 := by kernel_rfl
  i37 := by kernel_rfl
  i46 := by kernel_rfl
  i51 := by kernel_rfl
  i53 := by kernel_rfl
  i171 := by kernel_rfl
  i173 := by kernel_rfl
  i212 := by kernel_rfl
  i232 := by kernel_rfl
  i233 := by kernel_rfl
  m17 := by kernel_rfl
  m18 := by kernel_rfl
  m19 := by kernel_rfl }
open Go.RowKit Go.Sort Go.Lib in
/-- strconv.Itoa: "Itoa is equivalent to FormatInt(int64(i), 10).": i's DECIMAL NUMERAL ('Lib.itoa': a '-' where i is negative, then the digits), FOR EVERY int. The world behind the call: the world before it, new blocks behind the heap (the library's 'var a [24]byte'), draws. (LAID: no walk: one application.) -/
theorem Tryz.strconv_Itoa (n : Int) (h0 : -9223372036854775808 ≤ n) (h1 : n ≤ 9223372036854775807) (w : World) (htab : Lib.TabIs Tryz.prog w "internal/strconv.uint64pow10" .u64 Lib.pow10Tab) :
    Calls Tryz.prog 28 #[.int .i64 n] w fun e w' => e = .returned (.string ⟨(Lib.itoa n).toArray⟩) ∧ ∃ k os, w' = grow (w.drewN k) os := Any.strconv_Itoa Tryz.laysM171 n h0 h1 w htab
end Go.Proofs
