/- Contracts of library functions at this translation's numbers, in plain words: each states its own conditions. -/
import Derived.Shelf.Strings.Builder1
import Derived.Shelf.Strings.Builder2
import Derived.Shelf.Strings.Search1
import Derived.Ground.SlgmProg
import Derived.Shelf.SortM.Plain
import Derived.Test.YtnmefofmegfliaaGreatDoorProg
set_option linter.unusedVariables false
set_option linter.unusedSimpArgs false
set_option linter.unusedSectionVars false
/-
  DERIVED: THE SHELF's CONTRACTS AT THIS DUMP, IN PLAIN WORDS (tools/lay-plain.mjs out of 'YtnmefofmegfliaaGreatDoorShelfE0.lean', which tools/lay-shelf.mjs wrote): THE SAME DECLARATIONS UNDER THE SAME NAMES: 'import', 'namespace', 'open', 'def', 'theorem' AND NOTHING ELSE: no command of the shelf's: FOR A HAND-IN. Each laying: the table of numbers ('.._ren') and one theorem, a field a fact of the dump's own or the kernel's comparison; each contract: ONE APPLICATION.
-/
namespace Go.Proofs
open Go.Shelf
def Tryz.lays169_ren : Go.Shelf.Ren := ⟨fun | 169 => 328 | n => n, fun | 70 => 359 | 9 => 9 | 0 => 0 | 72 => 362 | 37 => 360 | 127 => 436 | 3 => 3 | 5 => 5 | n => n, fun | n => n⟩
theorem Tryz.lays169 : Go.Proofs.Lays.n169 Tryz.prog Tryz.lays169_ren := {
  mixed := by kernel_rfl
  f169 := Tryz.func328.trans (congrArg some (by kernel_rfl))
  t0 := Tryz.underlying0
  a0 := Tryz.isAgg0
  z0 := Tryz.sizeOf0
  v0 := Tryz.zeroValue0
  t3 := Tryz.underlying3
  a3 := Tryz.isAgg3
  z3 := Tryz.sizeOf3
  v3 := Tryz.zeroValue3
  t9 := Tryz.underlying9
  a9 := Tryz.isAgg9
  z9 := Tryz.sizeOf9
  v9 := Tryz.zeroValue9
  t37 := Tryz.underlying360
  a37 := Tryz.isAgg360
  z37 := Tryz.sizeOf360
  v37 := Tryz.zeroValue360
  t70 := Tryz.underlying359
  a70 := Tryz.isAgg359
  z70 := Tryz.sizeOf359
  v70 := Tryz.zeroValue359
  t72 := Tryz.underlying362
  a72 := Tryz.isAgg362
  z72 := Tryz.sizeOf362
  v72 := Tryz.zeroValue362
  t127 := Tryz.underlying436
  a127 := Tryz.isAgg436
  z127 := Tryz.sizeOf436
  v127 := Tryz.zeroValue436 }
theorem Tryz.Builder_Extra_169 : Builder.Extra Tryz.prog Tryz.lays169_ren := {
  sizeBuilder := by kernel_rfl
  liesBuilder := by kernel_rfl
  t5 := Tryz.underlying5
  a5 := Tryz.isAgg5
  z5 := Tryz.sizeOf5
  v5 := Tryz.zeroValue5
  infoByte := by kernel_rfl
  cellsByte := by kernel_rfl
  sizeByte := by kernel_rfl
  neB5 := by decide }
open Go.RowKit in
/-- (*strings.Builder).String: "String returns the accumulated string.": OF A BUILDER THAT HOLDS AT LEAST ONE BYTE. ✋ THE MODEL FREEZES THOSE BYTES IN THE BUFFER (unsafe.String): a later write INTO them ends the model's run without an answer; a later append BEHIND them goes on. The statement's order of evaluation is drawn: one draw. (LAID: no walk: one application.) -/
theorem Tryz.Builder_String (B b : Nat) (l : List UInt8) (w : World) (h : Lib.IsBuilder 362 5 B b (Lib.byteCells l) w) (h0 : l ≠ []) :
    Calls Tryz.prog 328 #[.pointer (some ⟨b, 0, none⟩)] w fun e w' => e = .returned (.string ⟨l.toArray⟩) ∧ Below B w w' := Any.Builder_String Tryz.lays169 Tryz.Builder_Extra_169 B b l w h h0
open Go.RowKit in
/-- (*strings.Builder).String OF A BUILDER THAT HOLDS NO BYTE: the empty string. (Its buffer is nil, or a row of which it has taken nothing yet; where that row has NO capacity the model lays one new block for unsafe.SliceData's 'some address'.) One draw. (LAID: no walk: one application.) -/
theorem Tryz.Builder_String_empty (B b : Nat) (w : World) (h : Lib.IsBuilder 362 5 B b [] w) (hBw : B ≤ w.heap.size) :
    Calls Tryz.prog 328 #[.pointer (some ⟨b, 0, none⟩)] w fun e w' => e = .returned (.string ⟨#[]⟩) ∧ Below B w w' := Any.Builder_String_empty Tryz.lays169 Tryz.Builder_Extra_169 B b w h hBw
open Go.RowKit in
/-- (*strings.Builder).String: "String returns the accumulated string.": WHATEVER THE BUILDER HOLDS. (LAID: no walk: one application.) -/
theorem Tryz.Builder_String_any (B b : Nat) (l : List UInt8) (w : World) (h : Lib.IsBuilder 362 5 B b (Lib.byteCells l) w) (hBw : B ≤ w.heap.size) :
    Calls Tryz.prog 328 #[.pointer (some ⟨b, 0, none⟩)] w fun e w' => e = .returned (.string ⟨l.toArray⟩) ∧ Below B w w' := Any.Builder_String_any Tryz.lays169 Tryz.Builder_Extra_169 B b l w h hBw
def Tryz.lays241_ren : Go.Shelf.Ren := ⟨fun | 241 => 413 | 277 => 467 | n => n, fun | 70 => 359 | 3 => 3 | 0 => 0 | 72 => 362 | 37 => 360 | 5 => 5 | n => n, fun | n => n⟩
theorem Tryz.lays241 : Go.Proofs.Lays.n241 Tryz.prog Tryz.lays241_ren := {
  mixed := by kernel_rfl
  f241 := Tryz.func413.trans (congrArg some (by kernel_rfl))
  f277 := Tryz.func467.trans (congrArg some (by kernel_rfl))
  t0 := Tryz.underlying0
  a0 := Tryz.isAgg0
  z0 := Tryz.sizeOf0
  v0 := Tryz.zeroValue0
  t3 := Tryz.underlying3
  a3 := Tryz.isAgg3
  z3 := Tryz.sizeOf3
  v3 := Tryz.zeroValue3
  t37 := Tryz.underlying360
  a37 := Tryz.isAgg360
  z37 := Tryz.sizeOf360
  v37 := Tryz.zeroValue360
  t70 := Tryz.underlying359
  a70 := Tryz.isAgg359
  z70 := Tryz.sizeOf359
  v70 := Tryz.zeroValue359
  t72 := Tryz.underlying362
  a72 := Tryz.isAgg362
  z72 := Tryz.sizeOf362
  v72 := Tryz.zeroValue362 }
theorem Tryz.Builder_Extra_241 : Builder.Extra Tryz.prog Tryz.lays241_ren := {
  sizeBuilder := by kernel_rfl
  liesBuilder := by kernel_rfl
  t5 := Tryz.underlying5
  a5 := Tryz.isAgg5
  z5 := Tryz.sizeOf5
  v5 := Tryz.zeroValue5
  infoByte := by kernel_rfl
  cellsByte := by kernel_rfl
  sizeByte := by kernel_rfl
  neB5 := by decide }
open Go.RowKit in
/-- (*strings.Builder).grow (no doc but "grow copies the buffer to a new, larger buffer so that there are at least n bytes of capacity beyond len(b.buf)."): AT A BUILDER WITHOUT A BUFFER: a new row of whatever bytes for its buffer, none of them its own yet. Three draws. (LAID: no walk: one application.) -/
theorem Tryz.Builder_grow_fresh (B b n : Nat) (w : World) (hB : B ≤ b) (hbk : w.heap[b]? = some (.cells #[.pointer (some ⟨b, 0, none⟩), .slice none 0 0] 362 (0, 0))) (hBw : B ≤ w.heap.size) (hn : n ≤ 281474976710656) :
    Calls Tryz.prog 413 #[.pointer (some ⟨b, 0, none⟩), .int .i64 n] w fun e w' => e = .returned (.tuple #[]) ∧ (Lib.BuilderAt 362 5 B b (.pointer (some ⟨b, 0, none⟩)) [] w' ∧ Below B w w') := Any.Builder_grow_fresh Tryz.lays241 Tryz.Builder_Extra_241 B b n w hB hbk hBw hn
def Tryz.lays165_ren : Go.Shelf.Ren := ⟨fun | 165 => 326 | 240 => 412 | 241 => 413 | 276 => 466 | 277 => 467 | n => n, fun | 70 => 359 | 3 => 3 | 0 => 0 | 4 => 4 | 9 => 9 | 20 => 20 | 72 => 362 | 37 => 360 | 164 => 481 | 5 => 5 | n => n, fun | n => n⟩
theorem Tryz.lays165 : Go.Proofs.Lays.n165 Tryz.prog Tryz.lays165_ren := {
  mixed := by kernel_rfl
  f165 := Tryz.func326.trans (congrArg some (by kernel_rfl))
  f240 := Tryz.func412.trans (congrArg some (by kernel_rfl))
  f241 := Tryz.func413.trans (congrArg some (by kernel_rfl))
  f276 := Tryz.func466.trans (congrArg some (by kernel_rfl))
  f277 := Tryz.func467.trans (congrArg some (by kernel_rfl))
  t0 := Tryz.underlying0
  a0 := Tryz.isAgg0
  z0 := Tryz.sizeOf0
  v0 := Tryz.zeroValue0
  t3 := Tryz.underlying3
  a3 := Tryz.isAgg3
  z3 := Tryz.sizeOf3
  v3 := Tryz.zeroValue3
  t4 := Tryz.underlying4
  a4 := Tryz.isAgg4
  z4 := Tryz.sizeOf4
  v4 := Tryz.zeroValue4
  t9 := Tryz.underlying9
  a9 := Tryz.isAgg9
  z9 := Tryz.sizeOf9
  v9 := Tryz.zeroValue9
  t20 := Tryz.underlying20
  a20 := Tryz.isAgg20
  z20 := Tryz.sizeOf20
  v20 := Tryz.zeroValue20
  t37 := Tryz.underlying360
  a37 := Tryz.isAgg360
  z37 := Tryz.sizeOf360
  v37 := Tryz.zeroValue360
  t70 := Tryz.underlying359
  a70 := Tryz.isAgg359
  z70 := Tryz.sizeOf359
  v70 := Tryz.zeroValue359
  t72 := Tryz.underlying362
  a72 := Tryz.isAgg362
  z72 := Tryz.sizeOf362
  v72 := Tryz.zeroValue362
  t164 := Tryz.underlying481
  a164 := Tryz.isAgg481
  z164 := Tryz.sizeOf481
  v164 := Tryz.zeroValue481 }
theorem Tryz.Builder_Extra_165 : Builder.Extra Tryz.prog Tryz.lays165_ren := {
  sizeBuilder := by kernel_rfl
  liesBuilder := by kernel_rfl
  t5 := Tryz.underlying5
  a5 := Tryz.isAgg5
  z5 := Tryz.sizeOf5
  v5 := Tryz.zeroValue5
  infoByte := by kernel_rfl
  cellsByte := by kernel_rfl
  sizeByte := by kernel_rfl
  neB5 := by decide }
open Go.RowKit in
/-- (*strings.Builder).Grow AT A BUILDER THAT HAS NOT BEEN WRITTEN ('var b strings.Builder; b.Grow(n)'): "Grow grows b's capacity, if necessary, to guarantee space for another n bytes.": it holds no byte behind it as before it. (LAID: no walk: one application.) -/
theorem Tryz.Builder_Grow_fresh (B b n : Nat) (w : World) (hB : B ≤ b) (hbk : w.heap[b]? = some (.cells #[.pointer none, .slice none 0 0] 362 (0, 0))) (hBw : B ≤ w.heap.size) (hn : n ≤ 281474976710656) :
    Calls Tryz.prog 326 #[.pointer (some ⟨b, 0, none⟩), .int .i64 n] w fun e w' => e = .returned (.tuple #[]) ∧ (Lib.BuilderAt 362 5 B b (.pointer (some ⟨b, 0, none⟩)) [] w' ∧ Below B w w') := Any.Builder_Grow_fresh Tryz.lays165 Tryz.Builder_Extra_165 B b n w hB hbk hBw hn
def Tryz.lays217_ren : Go.Shelf.Ren := ⟨fun | 217 => 565 | 266 => 616 | n => n, fun | 9 => 9 | 5 => 5 | 3 => 3 | n => n, fun | n => n⟩
theorem Tryz.lays217 : Go.Proofs.Lays.n217 Tryz.prog Tryz.lays217_ren := {
  mixed := by kernel_rfl
  f217 := Tryz.func565.trans (congrArg some (by kernel_rfl))
  f266 := Tryz.func616.trans (congrArg some (by kernel_rfl))
  t3 := Tryz.underlying3
  a3 := Tryz.isAgg3
  z3 := Tryz.sizeOf3
  v3 := Tryz.zeroValue3
  t5 := Tryz.underlying5
  a5 := Tryz.isAgg5
  z5 := Tryz.sizeOf5
  v5 := Tryz.zeroValue5
  t9 := Tryz.underlying9
  a9 := Tryz.isAgg9
  z9 := Tryz.sizeOf9
  v9 := Tryz.zeroValue9 }
open Go.RowKit Go.Lib in
/-- internal/stringslite.IndexByte (what strings.IndexByte calls): IT RETURNS 'Lib.indexByte s c'; the world is as it was. (LAID: no walk: one application.) -/
theorem Tryz.stringslite_IndexByte (s : ByteArray) (c : Int) (w : World) :
    Calls Tryz.prog 565 #[.string s, .int .u8 c] w fun e w' => e = .returned (.int .i64 (Lib.indexByte s.data.toList c.toNat.toUInt8)) ∧ w' = w := Any.stringslite_IndexByte Tryz.lays217 s c w
def Tryz.lays224_ren : Go.Shelf.Ren := ⟨fun | 224 => 567 | n => n, fun | 3 => 3 | n => n, fun | n => n⟩
theorem Tryz.lays224 : Go.Proofs.Lays.n224 Tryz.prog Tryz.lays224_ren := {
  mixed := by kernel_rfl
  f224 := Tryz.func567.trans (congrArg some (by kernel_rfl))
  t3 := Tryz.underlying3
  a3 := Tryz.isAgg3
  z3 := Tryz.sizeOf3
  v3 := Tryz.zeroValue3 }
open Go.RowKit Go.Lib in
/-- internal/bytealg.Cutover: "Cutover reports the number of failures of IndexByte we should tolerate before switching over to Index. n is the number of bytes processed so far.": on amd64: (n + 16) / 8. (LAID: no walk: one application.) -/
theorem Tryz.bytealg_Cutover (n : Int) (h0 : 0 ≤ n) (h1 : n < 4611686018427387904) (w : World) :
    Calls Tryz.prog 567 #[.int .i64 n] w fun e w' => e = .returned (.int .i64 ((n + 16) / 8)) ∧ w' = w := Any.bytealg_Cutover Tryz.lays224 n h0 h1 w
def Tryz.lays314_ren : Go.Shelf.Ren := ⟨fun | 314 => 617 | n => n, fun | 9 => 9 | 51 => 493 | 3 => 3 | 4 => 4 | 5 => 5 | 46 => 440 | n => n, fun | n => n⟩
theorem Tryz.lays314 : Go.Proofs.Lays.n314 Tryz.prog Tryz.lays314_ren := {
  mixed := by kernel_rfl
  f314 := Tryz.func617.trans (congrArg some (by kernel_rfl))
  t3 := Tryz.underlying3
  a3 := Tryz.isAgg3
  z3 := Tryz.sizeOf3
  v3 := Tryz.zeroValue3
  t4 := Tryz.underlying4
  a4 := Tryz.isAgg4
  z4 := Tryz.sizeOf4
  v4 := Tryz.zeroValue4
  t5 := Tryz.underlying5
  a5 := Tryz.isAgg5
  z5 := Tryz.sizeOf5
  v5 := Tryz.zeroValue5
  t9 := Tryz.underlying9
  a9 := Tryz.isAgg9
  z9 := Tryz.sizeOf9
  v9 := Tryz.zeroValue9
  t46 := Tryz.underlying440
  a46 := Tryz.isAgg440
  z46 := Tryz.sizeOf440
  v46 := Tryz.zeroValue440
  t51 := Tryz.underlying493
  a51 := Tryz.isAgg493
  z51 := Tryz.sizeOf493
  v51 := Tryz.zeroValue493 }
open Go.RowKit Go.Lib in
/-- hashStr: "returns the hash and the appropriate multiplicative factor for use in Rabin-Karp algorithm": THE HASH OF ALL OF sep, AND 16777619 ^ len(sep), both in uint32. (LAID: no walk: one application.) -/
theorem Tryz.bytealg_hashStr (sep : ByteArray) (hs : sep.size < 4294967281) (w : World) :
    Calls Tryz.prog 617 #[.string sep] w fun e w' => e = .returned (.tuple #[.int .u32 (RK.H sep.data.toList % 4294967296), .int .u32 (16777619 ^ sep.size % 4294967296)]) ∧ w' = w := Any.bytealg_hashStr Tryz.lays314 sep hs w
def Tryz.lays267_ren : Go.Shelf.Ren := ⟨fun | 267 => 568 | 314 => 617 | n => n, fun | 9 => 9 | 3 => 3 | 146 => 601 | 51 => 493 | 4 => 4 | 5 => 5 | 46 => 440 | n => n, fun | n => n⟩
theorem Tryz.lays267 : Go.Proofs.Lays.n267 Tryz.prog Tryz.lays267_ren := {
  mixed := by kernel_rfl
  f267 := Tryz.func568.trans (congrArg some (by kernel_rfl))
  f314 := Tryz.func617.trans (congrArg some (by kernel_rfl))
  t3 := Tryz.underlying3
  a3 := Tryz.isAgg3
  z3 := Tryz.sizeOf3
  v3 := Tryz.zeroValue3
  t4 := Tryz.underlying4
  a4 := Tryz.isAgg4
  z4 := Tryz.sizeOf4
  v4 := Tryz.zeroValue4
  t5 := Tryz.underlying5
  a5 := Tryz.isAgg5
  z5 := Tryz.sizeOf5
  v5 := Tryz.zeroValue5
  t9 := Tryz.underlying9
  a9 := Tryz.isAgg9
  z9 := Tryz.sizeOf9
  v9 := Tryz.zeroValue9
  t46 := Tryz.underlying440
  a46 := Tryz.isAgg440
  z46 := Tryz.sizeOf440
  v46 := Tryz.zeroValue440
  t51 := Tryz.underlying493
  a51 := Tryz.isAgg493
  z51 := Tryz.sizeOf493
  v51 := Tryz.zeroValue493
  t146 := Tryz.underlying601
  a146 := Tryz.isAgg601
  z146 := Tryz.sizeOf601
  v146 := Tryz.zeroValue601 }
open Go.RowKit Go.Lib in
theorem Tryz.bytealg_IndexRabinKarp (s sep : ByteArray) (h1 : 1 ≤ sep.size) (h2 : sep.size ≤ s.size) (hs : s.size < 4294967281) (w : World) :
    Calls Tryz.prog 568 #[.string s, .string sep] w fun e w' => e = .returned (.int .i64 (Lib.index s.data.toList sep.data.toList)) ∧ w' = w := Any.bytealg_IndexRabinKarp Tryz.lays267 s sep h1 h2 hs w
def Tryz.laysSlM6_f332_ren : Go.Shelf.Ren := ⟨fun | 6 => 332 | 8 => 416 | 9 => 415 | 19 => 477 | 20 => 478 | 21 => 468 | 22 => 469 | 23 => 470 | 24 => 471 | 25 => 472 | 26 => 473 | 27 => 474 | 28 => 475 | 29 => 476 | 36 => 539 | 31 => 540 | 32 => 541 | 37 => 542 | 38 => 543 | 39 => 544 | 41 => 590 | n => n, fun | 27 => 42 | 29 => 9 | 3 => 3 | 32 => 440 | 26 => 42 | 0 => 0 | 44 => 493 | 46 => 448 | 4 => 4 | 36 => 486 | 35 => 485 | 41 => 490 | 5 => 5 | 9 => 9 | 53 => 526 | 57 => 530 | 63 => 570 | 64 => 571 | n => n, fun | n => n⟩
theorem Tryz.laysSlM6_f332 : Go.Proofs.SlLaysM.n6 Tryz.prog Tryz.laysSlM6_f332_ren := {
  mixed := by kernel_rfl
  f6 := ⟨Tryz.f332.name, by decide, Tryz.func332.trans (congrArg some (by kernel_rfl))⟩
  f8 := Tryz.func416.trans (congrArg some (by kernel_rfl))
  f9 := ⟨Tryz.f415.name, by decide, Tryz.func415.trans (congrArg some (by kernel_rfl))⟩
  f19 := Tryz.func477.trans (congrArg some (by kernel_rfl))
  f20 := Tryz.func478.trans (congrArg some (by kernel_rfl))
  f21 := ⟨Tryz.f468.name, by decide, Tryz.func468.trans (congrArg some (by kernel_rfl))⟩
  f22 := ⟨Tryz.f469.name, by decide, Tryz.func469.trans (congrArg some (by kernel_rfl))⟩
  f23 := ⟨Tryz.f470.name, by decide, Tryz.func470.trans (congrArg some (by kernel_rfl))⟩
  f24 := ⟨Tryz.f471.name, by decide, Tryz.func471.trans (congrArg some (by kernel_rfl))⟩
  f25 := ⟨Tryz.f472.name, by decide, Tryz.func472.trans (congrArg some (by kernel_rfl))⟩
  f26 := ⟨Tryz.f473.name, by decide, Tryz.func473.trans (congrArg some (by kernel_rfl))⟩
  f27 := ⟨Tryz.f474.name, by decide, Tryz.func474.trans (congrArg some (by kernel_rfl))⟩
  f28 := ⟨Tryz.f475.name, by decide, Tryz.func475.trans (congrArg some (by kernel_rfl))⟩
  f29 := ⟨Tryz.f476.name, by decide, Tryz.func476.trans (congrArg some (by kernel_rfl))⟩
  f31 := Tryz.func540.trans (congrArg some (by kernel_rfl))
  f32 := Tryz.func541.trans (congrArg some (by kernel_rfl))
  f36 := ⟨Tryz.f539.name, by decide, Tryz.func539.trans (congrArg some (by kernel_rfl))⟩
  f37 := ⟨Tryz.f542.name, by decide, Tryz.func542.trans (congrArg some (by kernel_rfl))⟩
  f38 := ⟨Tryz.f543.name, by decide, Tryz.func543.trans (congrArg some (by kernel_rfl))⟩
  f39 := ⟨Tryz.f544.name, by decide, Tryz.func544.trans (congrArg some (by kernel_rfl))⟩
  f41 := ⟨Tryz.f590.name, by decide, Tryz.func590.trans (congrArg some (by kernel_rfl))⟩
  t0 := Tryz.underlying0
  a0 := Tryz.isAgg0
  z0 := Tryz.sizeOf0
  v0 := Tryz.zeroValue0
  t3 := Tryz.underlying3
  a3 := Tryz.isAgg3
  z3 := Tryz.sizeOf3
  v3 := Tryz.zeroValue3
  t4 := Tryz.underlying4
  a4 := Tryz.isAgg4
  z4 := Tryz.sizeOf4
  v4 := Tryz.zeroValue4
  t5 := Tryz.underlying5
  a5 := Tryz.isAgg5
  z5 := Tryz.sizeOf5
  v5 := Tryz.zeroValue5
  t9 := Tryz.underlying9
  a9 := Tryz.isAgg9
  z9 := Tryz.sizeOf9
  v9 := Tryz.zeroValue9
  t26 := Tryz.underlying42
  a26 := Tryz.isAgg42
  z26 := Tryz.sizeOf42
  v26 := Tryz.zeroValue42
  t27 := Tryz.underlying42
  a27 := Tryz.isAgg42
  z27 := Tryz.sizeOf42
  v27 := Tryz.zeroValue42
  t29 := Tryz.underlying9
  a29 := Tryz.isAgg9
  z29 := Tryz.sizeOf9
  v29 := Tryz.zeroValue9
  t32 := Tryz.underlying440
  a32 := Tryz.isAgg440
  z32 := Tryz.sizeOf440
  v32 := Tryz.zeroValue440
  t35 := Tryz.underlying485
  a35 := Tryz.isAgg485
  z35 := Tryz.sizeOf485
  v35 := Tryz.zeroValue485
  t36 := Tryz.underlying486
  a36 := Tryz.isAgg486
  z36 := Tryz.sizeOf486
  v36 := Tryz.zeroValue486
  t41 := Tryz.underlying490
  a41 := Tryz.isAgg490
  z41 := Tryz.sizeOf490
  v41 := Tryz.zeroValue490
  t44 := Tryz.underlying493
  a44 := Tryz.isAgg493
  z44 := Tryz.sizeOf493
  v44 := Tryz.zeroValue493
  t46 := Tryz.underlying448
  a46 := Tryz.isAgg448
  z46 := Tryz.sizeOf448
  v46 := Tryz.zeroValue448
  t53 := Tryz.underlying526
  a53 := Tryz.isAgg526
  z53 := Tryz.sizeOf526
  v53 := Tryz.zeroValue526
  t57 := Tryz.underlying530
  a57 := Tryz.isAgg530
  z57 := Tryz.sizeOf530
  v57 := Tryz.zeroValue530
  t63 := Tryz.underlying570
  a63 := Tryz.isAgg570
  z63 := Tryz.sizeOf570
  v63 := Tryz.zeroValue570
  t64 := Tryz.underlying571
  a64 := Tryz.isAgg571
  z64 := Tryz.sizeOf571
  v64 := Tryz.zeroValue571 }
open Go.Sort Go.RowKit in
theorem Tryz.slices_Sort_string (blk off cap : Nat) (ss : List (List UInt8)) (w : World) (hH : Holds encStr w blk off ss.toArray) (hblk : blk < w.heap.size) (hsz : ss.length < 4611686018427387904) :
    Calls Tryz.prog 332 #[.slice (some ⟨blk, off, none⟩) ss.length cap] w fun e w' =>
      e = .returned (.tuple #[]) ∧ ∃ n os, w' = grow (putRow encStr (Sort.ahead w n) blk off (ss.mergeSort fun x y => decide (x ≤ y)).toArray) os := AnyM.slices_Sort_string Tryz.laysSlM6_f332 blk off cap ss w hH hblk hsz
def Tryz.laysSlM5_f369_ren : Go.Shelf.Ren := ⟨fun | 5 => 369 | 8 => 416 | 7 => 443 | 19 => 477 | 20 => 478 | 10 => 519 | 11 => 520 | 12 => 521 | 13 => 522 | 14 => 523 | 15 => 524 | 16 => 525 | 17 => 526 | 18 => 527 | 30 => 585 | 31 => 540 | 32 => 541 | 33 => 586 | 34 => 587 | 35 => 588 | 40 => 639 | n => n, fun | 23 => 333 | 25 => 25 | 3 => 3 | 32 => 440 | 22 => 333 | 0 => 0 | 44 => 493 | 46 => 448 | 4 => 4 | 36 => 486 | 35 => 485 | 41 => 490 | 5 => 5 | 9 => 9 | 53 => 526 | 57 => 530 | 63 => 570 | 64 => 571 | n => n, fun | n => n⟩
theorem Tryz.laysSlM5_f369 : Go.Proofs.SlLaysM.n5 Tryz.prog Tryz.laysSlM5_f369_ren := {
  mixed := by kernel_rfl
  f5 := ⟨Tryz.f369.name, by decide, Tryz.func369.trans (congrArg some (by kernel_rfl))⟩
  f7 := ⟨Tryz.f443.name, by decide, Tryz.func443.trans (congrArg some (by kernel_rfl))⟩
  f8 := Tryz.func416.trans (congrArg some (by kernel_rfl))
  f10 := ⟨Tryz.f519.name, by decide, Tryz.func519.trans (congrArg some (by kernel_rfl))⟩
  f11 := ⟨Tryz.f520.name, by decide, Tryz.func520.trans (congrArg some (by kernel_rfl))⟩
  f12 := ⟨Tryz.f521.name, by decide, Tryz.func521.trans (congrArg some (by kernel_rfl))⟩
  f13 := ⟨Tryz.f522.name, by decide, Tryz.func522.trans (congrArg some (by kernel_rfl))⟩
  f14 := ⟨Tryz.f523.name, by decide, Tryz.func523.trans (congrArg some (by kernel_rfl))⟩
  f15 := ⟨Tryz.f524.name, by decide, Tryz.func524.trans (congrArg some (by kernel_rfl))⟩
  f16 := ⟨Tryz.f525.name, by decide, Tryz.func525.trans (congrArg some (by kernel_rfl))⟩
  f17 := ⟨Tryz.f526.name, by decide, Tryz.func526.trans (congrArg some (by kernel_rfl))⟩
  f18 := ⟨Tryz.f527.name, by decide, Tryz.func527.trans (congrArg some (by kernel_rfl))⟩
  f19 := Tryz.func477.trans (congrArg some (by kernel_rfl))
  f20 := Tryz.func478.trans (congrArg some (by kernel_rfl))
  f30 := ⟨Tryz.f585.name, by decide, Tryz.func585.trans (congrArg some (by kernel_rfl))⟩
  f31 := Tryz.func540.trans (congrArg some (by kernel_rfl))
  f32 := Tryz.func541.trans (congrArg some (by kernel_rfl))
  f33 := ⟨Tryz.f586.name, by decide, Tryz.func586.trans (congrArg some (by kernel_rfl))⟩
  f34 := ⟨Tryz.f587.name, by decide, Tryz.func587.trans (congrArg some (by kernel_rfl))⟩
  f35 := ⟨Tryz.f588.name, by decide, Tryz.func588.trans (congrArg some (by kernel_rfl))⟩
  f40 := ⟨Tryz.f639.name, by decide, Tryz.func639.trans (congrArg some (by kernel_rfl))⟩
  t0 := Tryz.underlying0
  a0 := Tryz.isAgg0
  z0 := Tryz.sizeOf0
  v0 := Tryz.zeroValue0
  t3 := Tryz.underlying3
  a3 := Tryz.isAgg3
  z3 := Tryz.sizeOf3
  v3 := Tryz.zeroValue3
  t4 := Tryz.underlying4
  a4 := Tryz.isAgg4
  z4 := Tryz.sizeOf4
  v4 := Tryz.zeroValue4
  t5 := Tryz.underlying5
  a5 := Tryz.isAgg5
  z5 := Tryz.sizeOf5
  v5 := Tryz.zeroValue5
  t9 := Tryz.underlying9
  a9 := Tryz.isAgg9
  z9 := Tryz.sizeOf9
  v9 := Tryz.zeroValue9
  t22 := Tryz.underlying333
  a22 := Tryz.isAgg333
  z22 := Tryz.sizeOf333
  v22 := Tryz.zeroValue333
  t23 := Tryz.underlying333
  a23 := Tryz.isAgg333
  z23 := Tryz.sizeOf333
  v23 := Tryz.zeroValue333
  t25 := Tryz.underlying25
  a25 := Tryz.isAgg25
  z25 := Tryz.sizeOf25
  v25 := Tryz.zeroValue25
  t32 := Tryz.underlying440
  a32 := Tryz.isAgg440
  z32 := Tryz.sizeOf440
  v32 := Tryz.zeroValue440
  t35 := Tryz.underlying485
  a35 := Tryz.isAgg485
  z35 := Tryz.sizeOf485
  v35 := Tryz.zeroValue485
  t36 := Tryz.underlying486
  a36 := Tryz.isAgg486
  z36 := Tryz.sizeOf486
  v36 := Tryz.zeroValue486
  t41 := Tryz.underlying490
  a41 := Tryz.isAgg490
  z41 := Tryz.sizeOf490
  v41 := Tryz.zeroValue490
  t44 := Tryz.underlying493
  a44 := Tryz.isAgg493
  z44 := Tryz.sizeOf493
  v44 := Tryz.zeroValue493
  t46 := Tryz.underlying448
  a46 := Tryz.isAgg448
  z46 := Tryz.sizeOf448
  v46 := Tryz.zeroValue448
  t53 := Tryz.underlying526
  a53 := Tryz.isAgg526
  z53 := Tryz.sizeOf526
  v53 := Tryz.zeroValue526
  t57 := Tryz.underlying530
  a57 := Tryz.isAgg530
  z57 := Tryz.sizeOf530
  v57 := Tryz.zeroValue530
  t63 := Tryz.underlying570
  a63 := Tryz.isAgg570
  z63 := Tryz.sizeOf570
  v63 := Tryz.zeroValue570
  t64 := Tryz.underlying571
  a64 := Tryz.isAgg571
  z64 := Tryz.sizeOf571
  v64 := Tryz.zeroValue571 }
open Go.Sort Go.RowKit in
theorem Tryz.slices_Sort_int (blk off cap : Nat) (zs : List Int) (w : World) (hH : Holds (Value.int .i64) w blk off zs.toArray) (hblk : blk < w.heap.size) (hsz : zs.length < 4611686018427387904) :
    Calls Tryz.prog 369 #[.slice (some ⟨blk, off, none⟩) zs.length cap] w fun e w' =>
      e = .returned (.tuple #[]) ∧ ∃ n os, w' = grow (putRow (Value.int .i64) (Sort.ahead w n) blk off (zs.mergeSort fun x y => decide (x ≤ y)).toArray) os := AnyM.slices_Sort_int Tryz.laysSlM5_f369 blk off cap zs w hH hblk hsz
end Go.Proofs
