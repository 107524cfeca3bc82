/- Contracts of library functions at this translation's numbers, in plain words: each states its own conditions. -/
import Derived.Shelf.Strings.Builder1
import Derived.Shelf.Strings.Builder2
import Derived.Shelf.Strings.Search1
import Derived.Ground.SlgmProg
import Derived.Shelf.SortM.Plain
import Derived.Test.YtjfkcglgdpjkmaaGreatDoorProg
set_option linter.unusedVariables false
set_option linter.unusedSimpArgs false
/-
  DERIVED: THE SHELF's CONTRACTS AT THIS DUMP, IN PLAIN WORDS (tools/lay-plain.mjs out of 'YtjfkcglgdpjkmaaGreatDoorShelfE0.lean', which tools/lay-shelf.mjs wrote): THE SAME DECLARATIONS UNDER THE SAME NAMES: 'import', 'namespace', 'open', 'def', 'theorem' AND NOTHING ELSE: no command of the shelf's: FOR A HAND-IN. Each laying: the table of numbers ('.._ren') and one theorem, a field a fact of the dump's own or the kernel's comparison; each contract: ONE APPLICATION.
-/
namespace Go.Proofs
open Go.Shelf
def Tryz.lays169_ren : Go.Shelf.Ren := ⟨fun | 169 => 340 | n => n, fun | 70 => 369 | 9 => 9 | 0 => 0 | 72 => 372 | 37 => 370 | 127 => 442 | 3 => 3 | 5 => 5 | n => n, fun | n => n⟩
theorem Tryz.lays169 : Go.Proofs.Lays.n169 Tryz.prog Tryz.lays169_ren := {
  mixed := by kernel_rfl
  f169 := Tryz.func340.trans (congrArg some (by kernel_rfl))
  t0 := Tryz.underlying0
  a0 := Tryz.isAgg0
  z0 := Tryz.sizeOf0
  v0 := Tryz.zeroValue0
  t3 := Tryz.underlying3
  a3 := Tryz.isAgg3
  z3 := Tryz.sizeOf3
  v3 := Tryz.zeroValue3
  t9 := Tryz.underlying9
  a9 := Tryz.isAgg9
  z9 := Tryz.sizeOf9
  v9 := Tryz.zeroValue9
  t37 := Tryz.underlying370
  a37 := Tryz.isAgg370
  z37 := Tryz.sizeOf370
  v37 := Tryz.zeroValue370
  t70 := Tryz.underlying369
  a70 := Tryz.isAgg369
  z70 := Tryz.sizeOf369
  v70 := Tryz.zeroValue369
  t72 := Tryz.underlying372
  a72 := Tryz.isAgg372
  z72 := Tryz.sizeOf372
  v72 := Tryz.zeroValue372
  t127 := Tryz.underlying442
  a127 := Tryz.isAgg442
  z127 := Tryz.sizeOf442
  v127 := Tryz.zeroValue442 }
theorem Tryz.Builder_Extra_169 : Builder.Extra Tryz.prog Tryz.lays169_ren := {
  sizeBuilder := by kernel_rfl
  liesBuilder := by kernel_rfl
  t5 := Tryz.underlying5
  a5 := Tryz.isAgg5
  z5 := Tryz.sizeOf5
  v5 := Tryz.zeroValue5
  infoByte := by kernel_rfl
  cellsByte := by kernel_rfl
  sizeByte := by kernel_rfl
  neB5 := by decide }
open Go.RowKit in
/-- (*strings.Builder).String: "String returns the accumulated string.": OF A BUILDER THAT HOLDS AT LEAST ONE BYTE. ✋ THE MODEL FREEZES THOSE BYTES IN THE BUFFER (unsafe.String): a later write INTO them ends the model's run without an answer; a later append BEHIND them goes on. The statement's order of evaluation is drawn: one draw. (LAID: no walk: one application.) -/
theorem Tryz.Builder_String (B b : Nat) (l : List UInt8) (w : World) (h : Lib.IsBuilder 372 5 B b (Lib.byteCells l) w) (h0 : l ≠ []) :
    Calls Tryz.prog 340 #[.pointer (some ⟨b, 0, none⟩)] w fun e w' => e = .returned (.string ⟨l.toArray⟩) ∧ Below B w w' := Any.Builder_String Tryz.lays169 Tryz.Builder_Extra_169 B b l w h h0
open Go.RowKit in
/-- (*strings.Builder).String OF A BUILDER THAT HOLDS NO BYTE: the empty string. (Its buffer is nil, or a row of which it has taken nothing yet; where that row has NO capacity the model lays one new block for unsafe.SliceData's 'some address'.) One draw. (LAID: no walk: one application.) -/
theorem Tryz.Builder_String_empty (B b : Nat) (w : World) (h : Lib.IsBuilder 372 5 B b [] w) (hBw : B ≤ w.heap.size) :
    Calls Tryz.prog 340 #[.pointer (some ⟨b, 0, none⟩)] w fun e w' => e = .returned (.string ⟨#[]⟩) ∧ Below B w w' := Any.Builder_String_empty Tryz.lays169 Tryz.Builder_Extra_169 B b w h hBw
open Go.RowKit in
/-- (*strings.Builder).String: "String returns the accumulated string.": WHATEVER THE BUILDER HOLDS. (LAID: no walk: one application.) -/
theorem Tryz.Builder_String_any (B b : Nat) (l : List UInt8) (w : World) (h : Lib.IsBuilder 372 5 B b (Lib.byteCells l) w) (hBw : B ≤ w.heap.size) :
    Calls Tryz.prog 340 #[.pointer (some ⟨b, 0, none⟩)] w fun e w' => e = .returned (.string ⟨l.toArray⟩) ∧ Below B w w' := Any.Builder_String_any Tryz.lays169 Tryz.Builder_Extra_169 B b l w h hBw
def Tryz.lays241_ren : Go.Shelf.Ren := ⟨fun | 241 => 410 | 277 => 478 | n => n, fun | 70 => 369 | 3 => 3 | 0 => 0 | 72 => 372 | 37 => 370 | 5 => 5 | n => n, fun | n => n⟩
theorem Tryz.lays241 : Go.Proofs.Lays.n241 Tryz.prog Tryz.lays241_ren := {
  mixed := by kernel_rfl
  f241 := Tryz.func410.trans (congrArg some (by kernel_rfl))
  f277 := Tryz.func478.trans (congrArg some (by kernel_rfl))
  t0 := Tryz.underlying0
  a0 := Tryz.isAgg0
  z0 := Tryz.sizeOf0
  v0 := Tryz.zeroValue0
  t3 := Tryz.underlying3
  a3 := Tryz.isAgg3
  z3 := Tryz.sizeOf3
  v3 := Tryz.zeroValue3
  t37 := Tryz.underlying370
  a37 := Tryz.isAgg370
  z37 := Tryz.sizeOf370
  v37 := Tryz.zeroValue370
  t70 := Tryz.underlying369
  a70 := Tryz.isAgg369
  z70 := Tryz.sizeOf369
  v70 := Tryz.zeroValue369
  t72 := Tryz.underlying372
  a72 := Tryz.isAgg372
  z72 := Tryz.sizeOf372
  v72 := Tryz.zeroValue372 }
theorem Tryz.Builder_Extra_241 : Builder.Extra Tryz.prog Tryz.lays241_ren := {
  sizeBuilder := by kernel_rfl
  liesBuilder := by kernel_rfl
  t5 := Tryz.underlying5
  a5 := Tryz.isAgg5
  z5 := Tryz.sizeOf5
  v5 := Tryz.zeroValue5
  infoByte := by kernel_rfl
  cellsByte := by kernel_rfl
  sizeByte := by kernel_rfl
  neB5 := by decide }
open Go.RowKit in
/-- (*strings.Builder).grow (no doc but "grow copies the buffer to a new, larger buffer so that there are at least n bytes of capacity beyond len(b.buf)."): AT A BUILDER WITHOUT A BUFFER: a new row of whatever bytes for its buffer, none of them its own yet. Three draws. (LAID: no walk: one application.) -/
theorem Tryz.Builder_grow_fresh (B b n : Nat) (w : World) (hB : B ≤ b) (hbk : w.heap[b]? = some (.cells #[.pointer (some ⟨b, 0, none⟩), .slice none 0 0] 372 (0, 0))) (hBw : B ≤ w.heap.size) (hn : n ≤ 281474976710656) :
    Calls Tryz.prog 410 #[.pointer (some ⟨b, 0, none⟩), .int .i64 n] w fun e w' => e = .returned (.tuple #[]) ∧ (Lib.BuilderAt 372 5 B b (.pointer (some ⟨b, 0, none⟩)) [] w' ∧ Below B w w') := Any.Builder_grow_fresh Tryz.lays241 Tryz.Builder_Extra_241 B b n w hB hbk hBw hn
def Tryz.lays165_ren : Go.Shelf.Ren := ⟨fun | 165 => 338 | 240 => 409 | 241 => 410 | 276 => 477 | 277 => 478 | n => n, fun | 70 => 369 | 3 => 3 | 0 => 0 | 4 => 4 | 9 => 9 | 20 => 20 | 72 => 372 | 37 => 370 | 164 => 488 | 5 => 5 | n => n, fun | n => n⟩
theorem Tryz.lays165 : Go.Proofs.Lays.n165 Tryz.prog Tryz.lays165_ren := {
  mixed := by kernel_rfl
  f165 := Tryz.func338.trans (congrArg some (by kernel_rfl))
  f240 := Tryz.func409.trans (congrArg some (by kernel_rfl))
  f241 := Tryz.func410.trans (congrArg some (by kernel_rfl))
  f276 := Tryz.func477.trans (congrArg some (by kernel_rfl))
  f277 := Tryz.func478.trans (congrArg some (by kernel_rfl))
  t0 := Tryz.underlying0
  a0 := Tryz.isAgg0
  z0 := Tryz.sizeOf0
  v0 := Tryz.zeroValue0
  t3 := Tryz.underlying3
  a3 := Tryz.isAgg3
  z3 := Tryz.sizeOf3
  v3 := Tryz.zeroValue3
  t4 := Tryz.underlying4
  a4 := Tryz.isAgg4
  z4 := Tryz.sizeOf4
  v4 := Tryz.zeroValue4
  t9 := Tryz.underlying9
  a9 := Tryz.isAgg9
  z9 := Tryz.sizeOf9
  v9 := Tryz.zeroValue9
  t20 := Tryz.underlying20
  a20 := Tryz.isAgg20
  z20 := Tryz.sizeOf20
  v20 := Tryz.zeroValue20
  t37 := Tryz.underlying370
  a37 := Tryz.isAgg370
  z37 := Tryz.sizeOf370
  v37 := Tryz.zeroValue370
  t70 := Tryz.underlying369
  a70 := Tryz.isAgg369
  z70 := Tryz.sizeOf369
  v70 := Tryz.zeroValue369
  t72 := Tryz.underlying372
  a72 := Tryz.isAgg372
  z72 := Tryz.sizeOf372
  v72 := Tryz.zeroValue372
  t164 := Tryz.underlying488
  a164 := Tryz.isAgg488
  z164 := Tryz.sizeOf488
  v164 := Tryz.zeroValue488 }
theorem Tryz.Builder_Extra_165 : Builder.Extra Tryz.prog Tryz.lays165_ren := {
  sizeBuilder := by kernel_rfl
  liesBuilder := by kernel_rfl
  t5 := Tryz.underlying5
  a5 := Tryz.isAgg5
  z5 := Tryz.sizeOf5
  v5 := Tryz.zeroValue5
  infoByte := by kernel_rfl
  cellsByte := by kernel_rfl
  sizeByte := by kernel_rfl
  neB5 := by decide }
open Go.RowKit in
/-- (*strings.Builder).Grow AT A BUILDER THAT HAS NOT BEEN WRITTEN ('var b strings.Builder; b.Grow(n)'): "Grow grows b's capacity, if necessary, to guarantee space for another n bytes.": it holds no byte behind it as before it. (LAID: no walk: one application.) -/
theorem Tryz.Builder_Grow_fresh (B b n : Nat) (w : World) (hB : B ≤ b) (hbk : w.heap[b]? = some (.cells #[.pointer none, .slice none 0 0] 372 (0, 0))) (hBw : B ≤ w.heap.size) (hn : n ≤ 281474976710656) :
    Calls Tryz.prog 338 #[.pointer (some ⟨b, 0, none⟩), .int .i64 n] w fun e w' => e = .returned (.tuple #[]) ∧ (Lib.BuilderAt 372 5 B b (.pointer (some ⟨b, 0, none⟩)) [] w' ∧ Below B w w') := Any.Builder_Grow_fresh Tryz.lays165 Tryz.Builder_Extra_165 B b n w hB hbk hBw hn
def Tryz.lays217_ren : Go.Shelf.Ren := ⟨fun | 217 => 607 | 266 => 662 | n => n, fun | 9 => 9 | 5 => 5 | 3 => 3 | n => n, fun | n => n⟩
theorem Tryz.lays217 : Go.Proofs.Lays.n217 Tryz.prog Tryz.lays217_ren := {
  mixed := by kernel_rfl
  f217 := Tryz.func607.trans (congrArg some (by kernel_rfl))
  f266 := Tryz.func662.trans (congrArg some (by kernel_rfl))
  t3 := Tryz.underlying3
  a3 := Tryz.isAgg3
  z3 := Tryz.sizeOf3
  v3 := Tryz.zeroValue3
  t5 := Tryz.underlying5
  a5 := Tryz.isAgg5
  z5 := Tryz.sizeOf5
  v5 := Tryz.zeroValue5
  t9 := Tryz.underlying9
  a9 := Tryz.isAgg9
  z9 := Tryz.sizeOf9
  v9 := Tryz.zeroValue9 }
open Go.RowKit Go.Lib in
/-- internal/stringslite.IndexByte (what strings.IndexByte calls): IT RETURNS 'Lib.indexByte s c'; the world is as it was. (LAID: no walk: one application.) -/
theorem Tryz.stringslite_IndexByte (s : ByteArray) (c : Int) (w : World) :
    Calls Tryz.prog 607 #[.string s, .int .u8 c] w fun e w' => e = .returned (.int .i64 (Lib.indexByte s.data.toList c.toNat.toUInt8)) ∧ w' = w := Any.stringslite_IndexByte Tryz.lays217 s c w
def Tryz.lays224_ren : Go.Shelf.Ren := ⟨fun | 224 => 609 | n => n, fun | 3 => 3 | n => n, fun | n => n⟩
theorem Tryz.lays224 : Go.Proofs.Lays.n224 Tryz.prog Tryz.lays224_ren := {
  mixed := by kernel_rfl
  f224 := Tryz.func609.trans (congrArg some (by kernel_rfl))
  t3 := Tryz.underlying3
  a3 := Tryz.isAgg3
  z3 := Tryz.sizeOf3
  v3 := Tryz.zeroValue3 }
open Go.RowKit Go.Lib in
/-- internal/bytealg.Cutover: "Cutover reports the number of failures of IndexByte we should tolerate before switching over to Index. n is the number of bytes processed so far.": on amd64: (n + 16) / 8. (LAID: no walk: one application.) -/
theorem Tryz.bytealg_Cutover (n : Int) (h0 : 0 ≤ n) (h1 : n < 4611686018427387904) (w : World) :
    Calls Tryz.prog 609 #[.int .i64 n] w fun e w' => e = .returned (.int .i64 ((n + 16) / 8)) ∧ w' = w := Any.bytealg_Cutover Tryz.lays224 n h0 h1 w
def Tryz.lays314_ren : Go.Shelf.Ren := ⟨fun | 314 => 663 | n => n, fun | 9 => 9 | 51 => 480 | 3 => 3 | 4 => 4 | 5 => 5 | 46 => 446 | n => n, fun | n => n⟩
theorem Tryz.lays314 : Go.Proofs.Lays.n314 Tryz.prog Tryz.lays314_ren := {
  mixed := by kernel_rfl
  f314 := Tryz.func663.trans (congrArg some (by kernel_rfl))
  t3 := Tryz.underlying3
  a3 := Tryz.isAgg3
  z3 := Tryz.sizeOf3
  v3 := Tryz.zeroValue3
  t4 := Tryz.underlying4
  a4 := Tryz.isAgg4
  z4 := Tryz.sizeOf4
  v4 := Tryz.zeroValue4
  t5 := Tryz.underlying5
  a5 := Tryz.isAgg5
  z5 := Tryz.sizeOf5
  v5 := Tryz.zeroValue5
  t9 := Tryz.underlying9
  a9 := Tryz.isAgg9
  z9 := Tryz.sizeOf9
  v9 := Tryz.zeroValue9
  t46 := Tryz.underlying446
  a46 := Tryz.isAgg446
  z46 := Tryz.sizeOf446
  v46 := Tryz.zeroValue446
  t51 := Tryz.underlying480
  a51 := Tryz.isAgg480
  z51 := Tryz.sizeOf480
  v51 := Tryz.zeroValue480 }
open Go.RowKit Go.Lib in
/-- hashStr: "returns the hash and the appropriate multiplicative factor for use in Rabin-Karp algorithm": THE HASH OF ALL OF sep, AND 16777619 ^ len(sep), both in uint32. (LAID: no walk: one application.) -/
theorem Tryz.bytealg_hashStr (sep : ByteArray) (hs : sep.size < 4294967281) (w : World) :
    Calls Tryz.prog 663 #[.string sep] w fun e w' => e = .returned (.tuple #[.int .u32 (RK.H sep.data.toList % 4294967296), .int .u32 (16777619 ^ sep.size % 4294967296)]) ∧ w' = w := Any.bytealg_hashStr Tryz.lays314 sep hs w
def Tryz.lays267_ren : Go.Shelf.Ren := ⟨fun | 267 => 610 | 314 => 663 | n => n, fun | 9 => 9 | 3 => 3 | 146 => 631 | 51 => 480 | 4 => 4 | 5 => 5 | 46 => 446 | n => n, fun | n => n⟩
theorem Tryz.lays267 : Go.Proofs.Lays.n267 Tryz.prog Tryz.lays267_ren := {
  mixed := by kernel_rfl
  f267 := Tryz.func610.trans (congrArg some (by kernel_rfl))
  f314 := Tryz.func663.trans (congrArg some (by kernel_rfl))
  t3 := Tryz.underlying3
  a3 := Tryz.isAgg3
  z3 := Tryz.sizeOf3
  v3 := Tryz.zeroValue3
  t4 := Tryz.underlying4
  a4 := Tryz.isAgg4
  z4 := Tryz.sizeOf4
  v4 := Tryz.zeroValue4
  t5 := Tryz.underlying5
  a5 := Tryz.isAgg5
  z5 := Tryz.sizeOf5
  v5 := Tryz.zeroValue5
  t9 := Tryz.underlying9
  a9 := Tryz.isAgg9
  z9 := Tryz.sizeOf9
  v9 := Tryz.zeroValue9
  t46 := Tryz.underlying446
  a46 := Tryz.isAgg446
  z46 := Tryz.sizeOf446
  v46 := Tryz.zeroValue446
  t51 := Tryz.underlying480
  a51 := Tryz.isAgg480
  z51 := Tryz.sizeOf480
  v51 := Tryz.zeroValue480
  t146 := Tryz.underlying631
  a146 := Tryz.isAgg631
  z146 := Tryz.sizeOf631
  v146 := Tryz.zeroValue631 }
open Go.RowKit Go.Lib in
theorem Tryz.bytealg_IndexRabinKarp (s sep : ByteArray) (h1 : 1 ≤ sep.size) (h2 : sep.size ≤ s.size) (hs : s.size < 4294967281) (w : World) :
    Calls Tryz.prog 610 #[.string s, .string sep] w fun e w' => e = .returned (.int .i64 (Lib.index s.data.toList sep.data.toList)) ∧ w' = w := Any.bytealg_IndexRabinKarp Tryz.lays267 s sep h1 h2 hs w
def Tryz.laysSlM6_f343_ren : Go.Shelf.Ren := ⟨fun | 6 => 343 | 8 => 413 | 9 => 412 | 19 => 488 | 20 => 457 | 21 => 479 | 22 => 480 | 23 => 481 | 24 => 482 | 25 => 483 | 26 => 484 | 27 => 485 | 28 => 486 | 29 => 487 | 36 => 541 | 31 => 542 | 32 => 543 | 37 => 544 | 38 => 545 | 39 => 546 | 41 => 605 | n => n, fun | 27 => 39 | 29 => 9 | 3 => 3 | 32 => 446 | 26 => 39 | 0 => 0 | 44 => 480 | 46 => 409 | 4 => 4 | 36 => 493 | 35 => 492 | 41 => 498 | 5 => 5 | 9 => 9 | 53 => 535 | 57 => 539 | 63 => 588 | 64 => 589 | n => n, fun | n => n⟩
theorem Tryz.laysSlM6_f343 : Go.Proofs.SlLaysM.n6 Tryz.prog Tryz.laysSlM6_f343_ren := {
  mixed := by kernel_rfl
  f6 := ⟨Tryz.f343.name, by decide, Tryz.func343.trans (congrArg some (by kernel_rfl))⟩
  f8 := Tryz.func413.trans (congrArg some (by kernel_rfl))
  f9 := ⟨Tryz.f412.name, by decide, Tryz.func412.trans (congrArg some (by kernel_rfl))⟩
  f19 := Tryz.func488.trans (congrArg some (by kernel_rfl))
  f20 := Tryz.func457.trans (congrArg some (by kernel_rfl))
  f21 := ⟨Tryz.f479.name, by decide, Tryz.func479.trans (congrArg some (by kernel_rfl))⟩
  f22 := ⟨Tryz.f480.name, by decide, Tryz.func480.trans (congrArg some (by kernel_rfl))⟩
  f23 := ⟨Tryz.f481.name, by decide, Tryz.func481.trans (congrArg some (by kernel_rfl))⟩
  f24 := ⟨Tryz.f482.name, by decide, Tryz.func482.trans (congrArg some (by kernel_rfl))⟩
  f25 := ⟨Tryz.f483.name, by decide, Tryz.func483.trans (congrArg some (by kernel_rfl))⟩
  f26 := ⟨Tryz.f484.name, by decide, Tryz.func484.trans (congrArg some (by kernel_rfl))⟩
  f27 := ⟨Tryz.f485.name, by decide, Tryz.func485.trans (congrArg some (by kernel_rfl))⟩
  f28 := ⟨Tryz.f486.name, by decide, Tryz.func486.trans (congrArg some (by kernel_rfl))⟩
  f29 := ⟨Tryz.f487.name, by decide, Tryz.func487.trans (congrArg some (by kernel_rfl))⟩
  f31 := Tryz.func542.trans (congrArg some (by kernel_rfl))
  f32 := Tryz.func543.trans (congrArg some (by kernel_rfl))
  f36 := ⟨Tryz.f541.name, by decide, Tryz.func541.trans (congrArg some (by kernel_rfl))⟩
  f37 := ⟨Tryz.f544.name, by decide, Tryz.func544.trans (congrArg some (by kernel_rfl))⟩
  f38 := ⟨Tryz.f545.name, by decide, Tryz.func545.trans (congrArg some (by kernel_rfl))⟩
  f39 := ⟨Tryz.f546.name, by decide, Tryz.func546.trans (congrArg some (by kernel_rfl))⟩
  f41 := ⟨Tryz.f605.name, by decide, Tryz.func605.trans (congrArg some (by kernel_rfl))⟩
  t0 := Tryz.underlying0
  a0 := Tryz.isAgg0
  z0 := Tryz.sizeOf0
  v0 := Tryz.zeroValue0
  t3 := Tryz.underlying3
  a3 := Tryz.isAgg3
  z3 := Tryz.sizeOf3
  v3 := Tryz.zeroValue3
  t4 := Tryz.underlying4
  a4 := Tryz.isAgg4
  z4 := Tryz.sizeOf4
  v4 := Tryz.zeroValue4
  t5 := Tryz.underlying5
  a5 := Tryz.isAgg5
  z5 := Tryz.sizeOf5
  v5 := Tryz.zeroValue5
  t9 := Tryz.underlying9
  a9 := Tryz.isAgg9
  z9 := Tryz.sizeOf9
  v9 := Tryz.zeroValue9
  t26 := Tryz.underlying39
  a26 := Tryz.isAgg39
  z26 := Tryz.sizeOf39
  v26 := Tryz.zeroValue39
  t27 := Tryz.underlying39
  a27 := Tryz.isAgg39
  z27 := Tryz.sizeOf39
  v27 := Tryz.zeroValue39
  t29 := Tryz.underlying9
  a29 := Tryz.isAgg9
  z29 := Tryz.sizeOf9
  v29 := Tryz.zeroValue9
  t32 := Tryz.underlying446
  a32 := Tryz.isAgg446
  z32 := Tryz.sizeOf446
  v32 := Tryz.zeroValue446
  t35 := Tryz.underlying492
  a35 := Tryz.isAgg492
  z35 := Tryz.sizeOf492
  v35 := Tryz.zeroValue492
  t36 := Tryz.underlying493
  a36 := Tryz.isAgg493
  z36 := Tryz.sizeOf493
  v36 := Tryz.zeroValue493
  t41 := Tryz.underlying498
  a41 := Tryz.isAgg498
  z41 := Tryz.sizeOf498
  v41 := Tryz.zeroValue498
  t44 := Tryz.underlying480
  a44 := Tryz.isAgg480
  z44 := Tryz.sizeOf480
  v44 := Tryz.zeroValue480
  t46 := Tryz.underlying409
  a46 := Tryz.isAgg409
  z46 := Tryz.sizeOf409
  v46 := Tryz.zeroValue409
  t53 := Tryz.underlying535
  a53 := Tryz.isAgg535
  z53 := Tryz.sizeOf535
  v53 := Tryz.zeroValue535
  t57 := Tryz.underlying539
  a57 := Tryz.isAgg539
  z57 := Tryz.sizeOf539
  v57 := Tryz.zeroValue539
  t63 := Tryz.underlying588
  a63 := Tryz.isAgg588
  z63 := Tryz.sizeOf588
  v63 := Tryz.zeroValue588
  t64 := Tryz.underlying589
  a64 := Tryz.isAgg589
  z64 := Tryz.sizeOf589
  v64 := Tryz.zeroValue589 }
open Go.Sort Go.RowKit in
theorem Tryz.slices_Sort_string (blk off cap : Nat) (ss : List (List UInt8)) (w : World) (hH : Holds encStr w blk off ss.toArray) (hblk : blk < w.heap.size) (hsz : ss.length < 4611686018427387904) :
    Calls Tryz.prog 343 #[.slice (some ⟨blk, off, none⟩) ss.length cap] w fun e w' =>
      e = .returned (.tuple #[]) ∧ ∃ n os, w' = grow (putRow encStr (Sort.ahead w n) blk off (ss.mergeSort fun x y => decide (x ≤ y)).toArray) os := AnyM.slices_Sort_string Tryz.laysSlM6_f343 blk off cap ss w hH hblk hsz
def Tryz.laysSlM5_f439_ren : Go.Shelf.Ren := ⟨fun | 5 => 439 | 8 => 413 | 7 => 509 | 19 => 488 | 20 => 457 | 10 => 572 | 11 => 573 | 12 => 574 | 13 => 575 | 14 => 576 | 15 => 577 | 16 => 578 | 17 => 579 | 18 => 580 | 30 => 626 | 31 => 542 | 32 => 543 | 33 => 627 | 34 => 628 | 35 => 629 | 40 => 676 | n => n, fun | 23 => 393 | 25 => 22 | 3 => 3 | 32 => 446 | 22 => 393 | 0 => 0 | 44 => 480 | 46 => 409 | 4 => 4 | 36 => 493 | 35 => 492 | 41 => 498 | 5 => 5 | 9 => 9 | 53 => 535 | 57 => 539 | 63 => 588 | 64 => 589 | n => n, fun | n => n⟩
theorem Tryz.laysSlM5_f439 : Go.Proofs.SlLaysM.n5 Tryz.prog Tryz.laysSlM5_f439_ren := {
  mixed := by kernel_rfl
  f5 := ⟨Tryz.f439.name, by decide, Tryz.func439.trans (congrArg some (by kernel_rfl))⟩
  f7 := ⟨Tryz.f509.name, by decide, Tryz.func509.trans (congrArg some (by kernel_rfl))⟩
  f8 := Tryz.func413.trans (congrArg some (by kernel_rfl))
  f10 := ⟨Tryz.f572.name, by decide, Tryz.func572.trans (congrArg some (by kernel_rfl))⟩
  f11 := ⟨Tryz.f573.name, by decide, Tryz.func573.trans (congrArg some (by kernel_rfl))⟩
  f12 := ⟨Tryz.f574.name, by decide, Tryz.func574.trans (congrArg some (by kernel_rfl))⟩
  f13 := ⟨Tryz.f575.name, by decide, Tryz.func575.trans (congrArg some (by kernel_rfl))⟩
  f14 := ⟨Tryz.f576.name, by decide, Tryz.func576.trans (congrArg some (by kernel_rfl))⟩
  f15 := ⟨Tryz.f577.name, by decide, Tryz.func577.trans (congrArg some (by kernel_rfl))⟩
  f16 := ⟨Tryz.f578.name, by decide, Tryz.func578.trans (congrArg some (by kernel_rfl))⟩
  f17 := ⟨Tryz.f579.name, by decide, Tryz.func579.trans (congrArg some (by kernel_rfl))⟩
  f18 := ⟨Tryz.f580.name, by decide, Tryz.func580.trans (congrArg some (by kernel_rfl))⟩
  f19 := Tryz.func488.trans (congrArg some (by kernel_rfl))
  f20 := Tryz.func457.trans (congrArg some (by kernel_rfl))
  f30 := ⟨Tryz.f626.name, by decide, Tryz.func626.trans (congrArg some (by kernel_rfl))⟩
  f31 := Tryz.func542.trans (congrArg some (by kernel_rfl))
  f32 := Tryz.func543.trans (congrArg some (by kernel_rfl))
  f33 := ⟨Tryz.f627.name, by decide, Tryz.func627.trans (congrArg some (by kernel_rfl))⟩
  f34 := ⟨Tryz.f628.name, by decide, Tryz.func628.trans (congrArg some (by kernel_rfl))⟩
  f35 := ⟨Tryz.f629.name, by decide, Tryz.func629.trans (congrArg some (by kernel_rfl))⟩
  f40 := ⟨Tryz.f676.name, by decide, Tryz.func676.trans (congrArg some (by kernel_rfl))⟩
  t0 := Tryz.underlying0
  a0 := Tryz.isAgg0
  z0 := Tryz.sizeOf0
  v0 := Tryz.zeroValue0
  t3 := Tryz.underlying3
  a3 := Tryz.isAgg3
  z3 := Tryz.sizeOf3
  v3 := Tryz.zeroValue3
  t4 := Tryz.underlying4
  a4 := Tryz.isAgg4
  z4 := Tryz.sizeOf4
  v4 := Tryz.zeroValue4
  t5 := Tryz.underlying5
  a5 := Tryz.isAgg5
  z5 := Tryz.sizeOf5
  v5 := Tryz.zeroValue5
  t9 := Tryz.underlying9
  a9 := Tryz.isAgg9
  z9 := Tryz.sizeOf9
  v9 := Tryz.zeroValue9
  t22 := Tryz.underlying393
  a22 := Tryz.isAgg393
  z22 := Tryz.sizeOf393
  v22 := Tryz.zeroValue393
  t23 := Tryz.underlying393
  a23 := Tryz.isAgg393
  z23 := Tryz.sizeOf393
  v23 := Tryz.zeroValue393
  t25 := Tryz.underlying22
  a25 := Tryz.isAgg22
  z25 := Tryz.sizeOf22
  v25 := Tryz.zeroValue22
  t32 := Tryz.underlying446
  a32 := Tryz.isAgg446
  z32 := Tryz.sizeOf446
  v32 := Tryz.zeroValue446
  t35 := Tryz.underlying492
  a35 := Tryz.isAgg492
  z35 := Tryz.sizeOf492
  v35 := Tryz.zeroValue492
  t36 := Tryz.underlying493
  a36 := Tryz.isAgg493
  z36 := Tryz.sizeOf493
  v36 := Tryz.zeroValue493
  t41 := Tryz.underlying498
  a41 := Tryz.isAgg498
  z41 := Tryz.sizeOf498
  v41 := Tryz.zeroValue498
  t44 := Tryz.underlying480
  a44 := Tryz.isAgg480
  z44 := Tryz.sizeOf480
  v44 := Tryz.zeroValue480
  t46 := Tryz.underlying409
  a46 := Tryz.isAgg409
  z46 := Tryz.sizeOf409
  v46 := Tryz.zeroValue409
  t53 := Tryz.underlying535
  a53 := Tryz.isAgg535
  z53 := Tryz.sizeOf535
  v53 := Tryz.zeroValue535
  t57 := Tryz.underlying539
  a57 := Tryz.isAgg539
  z57 := Tryz.sizeOf539
  v57 := Tryz.zeroValue539
  t63 := Tryz.underlying588
  a63 := Tryz.isAgg588
  z63 := Tryz.sizeOf588
  v63 := Tryz.zeroValue588
  t64 := Tryz.underlying589
  a64 := Tryz.isAgg589
  z64 := Tryz.sizeOf589
  v64 := Tryz.zeroValue589 }
open Go.Sort Go.RowKit in
theorem Tryz.slices_Sort_int (blk off cap : Nat) (zs : List Int) (w : World) (hH : Holds (Value.int .i64) w blk off zs.toArray) (hblk : blk < w.heap.size) (hsz : zs.length < 4611686018427387904) :
    Calls Tryz.prog 439 #[.slice (some ⟨blk, off, none⟩) zs.length cap] w fun e w' =>
      e = .returned (.tuple #[]) ∧ ∃ n os, w' = grow (putRow (Value.int .i64) (Sort.ahead w n) blk off (zs.mergeSort fun x y => decide (x ≤ y)).toArray) os := AnyM.slices_Sort_int Tryz.laysSlM5_f439 blk off cap zs w hH hblk hsz
end Go.Proofs
