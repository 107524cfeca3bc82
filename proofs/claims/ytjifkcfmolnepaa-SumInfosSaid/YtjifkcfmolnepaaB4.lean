/- Contracts of single functions: no condition but those that each states. -/
import Derived.Test.YtjifkcfmolnepaaB3
import Derived.Shelf.Strings.Builder1
import Derived.Shelf.Strings.Builder2
import Derived.Shelf.Bits.Mul64
import Derived.Test.YtjifkcfmolnepaaProg
set_option linter.unusedVariables false
set_option linter.unusedSimpArgs false
namespace Go.L
open Go Go.RowKit Go.Proofs
set_option linter.unusedSimpArgs false
set_option linter.unusedVariables false

theorem kBin_leqU {c : Cx} {w : World} {k : Value → World → Prop} {t : TypeId} {q : IntKind} {a b : Nat} (h : k (.bool (decide (a ≤ b))) w) : kBin c w .leq t (.int q a) (.int q b) k := kBin_leq (by
  have : decide ((a : Int) ≤ (b : Int)) = decide (a ≤ b) := by simp
  rwa [this])
theorem mul_fits (x y : Int) : (x * y).natAbs = x.natAbs * y.natAbs := Int.natAbs_mul x y
theorem mul_sign (x y : Int) : (x * y < 0) ↔ ((x < 0 ∧ 0 < y) ∨ (0 < x ∧ y < 0)) := by
  constructor
  · intro h
    rcases Int.lt_trichotomy x 0 with hx | rfl | hx
    · rcases Int.lt_trichotomy y 0 with hy | rfl | hy
      · have := Int.mul_pos_of_neg_of_neg hx hy; omega
      · simp at h
      · exact .inl ⟨hx, hy⟩
    · simp at h
    · rcases Int.lt_trichotomy y 0 with hy | rfl | hy
      · exact .inr ⟨hx, hy⟩
      · simp at h
      · have := Int.mul_pos hx hy; omega
  · rintro (⟨hx, hy⟩ | ⟨hx, hy⟩)
    · exact Int.mul_neg_of_neg_of_pos hx hy
    · exact Int.mul_neg_of_pos_of_neg hx hy
/-- The check of the product. -/
theorem mul_key (x y : Int) (hx : big x) (hy : big y) : (((x.natAbs * y.natAbs / 18446744073709551616 : Nat) : Int) = 0 ∧ x.natAbs * y.natAbs % 18446744073709551616 ≤ (if (decide (x < 0) != decide (y < 0)) then 9223372036854775808 else 9223372036854775807)) ↔ big (x * y) := by
  have h1 := mul_fits x y
  have h2 := mul_sign x y
  have h3 : x * y = 0 ↔ x = 0 ∨ y = 0 := Int.mul_eq_zero
  rw [← h1]
  generalize x * y = z at *
  unfold big at *
  by_cases hxn : x < 0 <;> by_cases hyn : y < 0 <;> simp [hxn, hyn] <;> omega
theorem kNe_b4 {X : Chain → World → Prop} {q : Bool} {w : World} {k : Value → World → Prop} {ox oy : Operand} {x y : Bool} (h : k (.bool (x != y)) w) : kEq ⟨Try.prog, X, q⟩ w .neq 4 ox oy (.bool x) (.bool y) k := kNe_bool (c := ⟨Try.prog, X, q⟩) Try.underlying4 h
theorem kEq_u84 {c : Cx} {w : World} {k : Value → World → Prop} {t : TypeId} {ox oy : Operand} {a b : Int} {q : IntKind} (h : k (.bool (a == b)) w) : kEq c w .eql t ox oy (.int q a) (.int q b) k := kEq_int h
theorem mul101 (a b : AV) (ha : Rng a) (hb : Rng b) (w : World) (R : Ending → World → Prop) (h : RetE w (iv (a.2.1 * b.2.1)) (fitE (a.2.1 * b.2.1)) R) : Calls Try.prog 101 #[pVal a b] w R := by
  obtain ⟨a0, x, a2⟩ := a
  obtain ⟨b0, y, b2⟩ := b
  have hx : big x := ha
  have hy : big y := hb
  simp only at h
  have hxa : x.natAbs < 18446744073709551616 := by unfold big at hx; omega
  have hya : y.natAbs < 18446744073709551616 := by unfold big at hy; omega
  refine c101 _ _ _ _ _ _ _ _ ?_
  unfold vc101
  refine kBox_st (St.start w) fun p W hS => kAlloc_st Try.zeroValue49 hS fun o W hS => ?_
  have hS : St w [.bx p 101 (pCells (a0, x, a2) (b0, y, b2)), .bx o 49 #[.int .i64 0, .int .i64 0, .string ⟨#[]⟩]] W := hS
  refine kDrawn_i (kDrawn_i (kFa101 0 (by omega) (kFa49 1 (by omega) (kLd hS 0 rfl rfl rfl (kFa101 1 (by omega) (kFa49 1 (by omega) (kLd hS 0 rfl rfl rfl (kDrew_st hS fun W hS => ?_))))))))
  refine kCallV_i (Try.call130 _ _) (size130 x hx _ _ (kFa101 1 (by omega) (kSame_i (kFa49 1 (by omega) (kSame_i (kLd hS 0 rfl rfl rfl (kSame_i (kDrew_st hS fun W hS => ?_))))))))
  refine kCallV_i (Try.call130 _ _) (size130 y hy _ _ (kDrew_st hS fun W hS => kCall_i (Try.call131 _ _) (Mul131 _ _ hxa hya _ _ (kExt_0 (kExt_1 (kDrew_st hS fun W hS => ?_))))))
  refine kJn_inv (fun cs V => St w [.bx p 101 (pCells (a0, x, a2) (b0, y, b2)), .bx o 49 #[.int .i64 0, .int .i64 0, .string ⟨#[]⟩]] V ∧ cs = [.int .u64 ((if (decide (x < 0) != decide (y < 0)) then 9223372036854775808 else 9223372036854775807 : Nat) : Int)]) ?_ ?_
  · rintro cs V ⟨hS, rfl⟩ ds
    refine kFa101 0 (by omega) (kFa49 1 (by omega) (kLd hS 0 rfl rfl rfl (kFa101 1 (by omega) (kFa49 1 (by omega) (kLd hS 0 rfl rfl rfl (kBin_mul (kEq_int (kIf_eq (fun e => kBin_leqU ?_) (fun e => ?_)))))))))
    · obtain ⟨h1, h2⟩ := fit_ok (z := x * y) (fits := decide (x.natAbs * y.natAbs % 18446744073709551616 ≤ (if (decide (x < 0) != decide (y < 0)) then 9223372036854775808 else 9223372036854775807))) (by rw [decide_eq_true_iff, ← mul_key x y hx hy]; simp [e]) wrap_big
      exact numR hS 1 rfl h1 h2 h
    · obtain ⟨h1, h2⟩ := fit_ok (z := x * y) (fits := false) (by rw [← mul_key x y hx hy]; simp; intro q; exact absurd (by omega) e) wrap_big
      exact numR hS 1 rfl h1 h2 h
  · intro J hJ
    refine kFa101 0 (by omega) (kFa49 1 (by omega) (kLd hS 0 rfl rfl rfl (kBin_lss (kFa101 1 (by omega) (kFa49 1 (by omega) (kLd hS 0 rfl rfl rfl (kBin_lss (kNe_b4 (kIf_b (fun e => kBin_add (kD_i (hJ _ _ ⟨hS, ?_⟩))) (fun e => kD_i (hJ _ _ ⟨hS, ?_⟩)))))))))))
    · rw [if_pos e]; rfl
    · rw [if_neg (by rw [e]; simp)]; rfl
end Go.L
namespace Go.L
open Go Go.RowKit Go.Proofs
set_option linter.unusedSimpArgs false
set_option linter.unusedVariables false

theorem kBin_quoI {c : Cx} {w : World} {k : Value → World → Prop} {t : TypeId} {q : IntKind} {a b : Int} (hb : b ≠ 0) (h : k (.int q (q.wrap (Int.tdiv a b))) w) : kBin c w .quo t (.int q a) (.int q b) k := ⟨kVal_pure (fun _ => by
  rw [binOp_quo]; unfold Op.intDiv
  rw [if_neg (by simpa using hb)]; rfl) h⟩
theorem kBin_remI {c : Cx} {w : World} {k : Value → World → Prop} {t : TypeId} {q : IntKind} {a b : Int} (hb : b ≠ 0) (h : k (.int q (Int.tmod a b)) w) : kBin c w .rem t (.int q a) (.int q b) k := ⟨kVal_pure (fun _ => by
  rw [binOp_rem]; unfold Op.intDiv
  rw [if_neg (by simpa using hb)]; rfl) h⟩
/-- A quotient fits, but for one. -/
theorem tdiv_big {x y : Int} (hx : big x) (hy : big y) (h0 : y ≠ 0) : big (Int.tdiv x y) ↔ (x ≠ -9223372036854775808 ∨ y ≠ -1) := by
  have h1 : (Int.tdiv x y).natAbs = x.natAbs / y.natAbs := Int.natAbs_tdiv x y
  have h2 : x.natAbs / y.natAbs ≤ x.natAbs := Nat.div_le_self _ _
  unfold big at *
  constructor
  · rintro h
    by_cases e : x = -9223372036854775808 ∧ y = -1
    · obtain ⟨rfl, rfl⟩ := e
      exact absurd h (by decide)
    · omega
  · intro h
    rcases h with h | h
    · omega
    · by_cases e1 : y = 1
      · subst e1; rw [Int.tdiv_one]; exact hx
      · have hy2 : 2 ≤ y.natAbs := by omega
        have h3 : x.natAbs / y.natAbs ≤ x.natAbs / 2 := Nat.div_le_div_left hy2 (by omega)
        omega
theorem tmod_big {x y : Int} (hy : big y) (h0 : y ≠ 0) : big (Int.tmod x y) := by
  have h1 : (Int.tmod x y).natAbs = x.natAbs % y.natAbs := Int.natAbs_tmod x y
  have h2 : x.natAbs % y.natAbs < y.natAbs := Nat.mod_lt _ (by omega)
  unfold big at *
  omega
def divE (x y : Int) : Int := if y = 0 then 121 else fitE (Int.tdiv x y)
def modE (y : Int) : Int := if y = 0 then 121 else 0
theorem div102 (a b : AV) (ha : Rng a) (hb : Rng b) (w : World) (R : Ending → World → Prop) (h : RetE w (iv (Int.tdiv a.2.1 b.2.1)) (divE a.2.1 b.2.1) R) : Calls Try.prog 102 #[pVal a b] w R := by
  obtain ⟨a0, x, a2⟩ := a
  obtain ⟨b0, y, b2⟩ := b
  have hx : big x := ha
  have hy : big y := hb
  simp only at h
  refine c102 _ _ _ _ _ _ _ _ ?_
  unfold vc102
  refine kBox_st (St.start w) fun p W hS => kAlloc_st Try.zeroValue49 hS fun o W hS => ?_
  have hS : St w [.bx p 101 (pCells (a0, x, a2) (b0, y, b2)), .bx o 49 #[.int .i64 0, .int .i64 0, .string ⟨#[]⟩]] W := hS
  refine kFa101 1 (by omega) (kFa49 1 (by omega) (kLd hS 0 rfl rfl rfl (kNe_int (kCall_i (Try.call54 _ _) (must54 _ _ _ _ (fun e => ?_) (fun e => ?_))))))
  · have h0 : y ≠ 0 := by simpa using e
    rw [show divE x y = fitE (Int.tdiv x y) from if_neg h0] at h
    have hk := tdiv_big hx hy h0
    refine kDrawn_i (kDrawn_i (kFa101 0 (by omega) (kFa49 1 (by omega) (kLd hS 0 rfl rfl rfl (kFa101 1 (by omega) (kFa49 1 (by omega) (kLd hS 0 rfl rfl rfl (kBin_quoI h0 (kFa101 0 (by omega) (kFa49 1 (by omega) (kLd hS 0 rfl rfl rfl (kNe_int (kIf_ne (fun e1 => kDrew_st hS fun W hS => ?_) (fun e1 => ?_))))))))))))))
    · obtain ⟨h1, h2⟩ := fit_ok (z := Int.tdiv x y) (fits := true) (by rw [hk]; exact ⟨fun _ => .inl e1, fun _ => rfl⟩) wrap_big
      refine numK hS (fun hok W hS => kDrew_st hS fun W hS => ?_) (fun hbad W hS => ?_)
      · obtain ⟨e2, e3⟩ := h1 hok
        exact kStoreA_st hS 1 rfl rfl (by simp [Value.oneCell']) Try.sizeOf49 fun W hS => (h.ok e3).fin hS 1 rfl (by rw [e2]; rfl)
      · cases hbad
    · refine kFa101 1 (by omega) (kFa49 1 (by omega) (kLd hS 0 rfl rfl rfl (kNe_int (kDrew_st hS fun W hS => ?_))))
      obtain ⟨h1, h2⟩ := fit_ok (z := Int.tdiv x y) (fits := y != -1) (by rw [hk, bne_iff_ne]; exact ⟨.inr, fun q => q.elim (fun q => absurd e1 q) id⟩) wrap_big
      refine numK hS (fun hok W hS => kDrew_st hS fun W hS => ?_) (fun hbad W hS => fun _ => ?_)
      · obtain ⟨e2, e3⟩ := h1 hok
        exact kStoreA_st hS 1 rfl rfl (by simp [Value.oneCell']) Try.sizeOf49 fun W hS => (h.ok e3).fin hS 1 rfl (by rw [e2]; rfl)
      · have := h.bad (by rw [h2 hbad]; omega) W hS.below
        rw [h2 hbad] at this; exact this
  · have h0 : y = 0 := by simpa using e
    subst h0
    exact h.bad (by simp [divE]) W hS.below
theorem mod103 (a b : AV) (ha : Rng a) (hb : Rng b) (w : World) (R : Ending → World → Prop) (h : RetE w (iv (Int.tmod a.2.1 b.2.1)) (modE b.2.1) R) : Calls Try.prog 103 #[pVal a b] w R := by
  obtain ⟨a0, x, a2⟩ := a
  obtain ⟨b0, y, b2⟩ := b
  have hx : big x := ha
  have hy : big y := hb
  simp only at h
  refine c103 _ _ _ _ _ _ _ _ ?_
  unfold vc103
  refine kBox_st (St.start w) fun p W hS => kAlloc_st Try.zeroValue49 hS fun o W hS => ?_
  have hS : St w [.bx p 101 (pCells (a0, x, a2) (b0, y, b2)), .bx o 49 #[.int .i64 0, .int .i64 0, .string ⟨#[]⟩]] W := hS
  refine kFa101 1 (by omega) (kFa49 1 (by omega) (kLd hS 0 rfl rfl rfl (kNe_int (kCall_i (Try.call54 _ _) (must54 _ _ _ _ (fun e => ?_) (fun e => ?_))))))
  · have h0 : y ≠ 0 := by simpa using e
    rw [show modE y = 0 from if_neg h0] at h
    refine kFa101 0 (by omega) (kFa49 1 (by omega) (kLd hS 0 rfl rfl rfl (kFa101 1 (by omega) (kFa49 1 (by omega) (kLd hS 0 rfl rfl rfl (kBin_remI h0 ?_))))))
    exact numR hS 1 rfl (fun _ => ⟨rfl, rfl⟩) (fun e => by cases e) h
  · have h0 : y = 0 := by simpa using e
    subst h0
    exact h.bad (by simp [modE]) W hS.below
end Go.L
namespace Go.Proofs
open Go.Shelf
def Try.lays169_ren : Go.Shelf.Ren := ⟨fun | 169 => 140 | n => n, fun | 70 => 177 | 9 => 9 | 0 => 0 | 72 => 179 | 37 => 38 | 127 => 187 | 3 => 3 | 5 => 5 | n => n, fun | n => n⟩
theorem Try.lays169 : Go.Proofs.Lays.n169 Try.prog Try.lays169_ren := {
  mixed := by kernel_rfl
  f169 := Try.func140.trans (congrArg some (by kernel_rfl))
  t0 := Try.underlying0
  a0 := Try.isAgg0
  z0 := Try.sizeOf0
  v0 := Try.zeroValue0
  t3 := Try.underlying3
  a3 := Try.isAgg3
  z3 := Try.sizeOf3
  v3 := Try.zeroValue3
  t9 := Try.underlying9
  a9 := Try.isAgg9
  z9 := Try.sizeOf9
  v9 := Try.zeroValue9
  t37 := Try.underlying38
  a37 := Try.isAgg38
  z37 := Try.sizeOf38
  v37 := Try.zeroValue38
  t70 := Try.underlying177
  a70 := Try.isAgg177
  z70 := Try.sizeOf177
  v70 := Try.zeroValue177
  t72 := Try.underlying179
  a72 := Try.isAgg179
  z72 := Try.sizeOf179
  v72 := Try.zeroValue179
  t127 := Try.underlying187
  a127 := Try.isAgg187
  z127 := Try.sizeOf187
  v127 := Try.zeroValue187 }
theorem Try.Builder_Extra_169 : Builder.Extra Try.prog Try.lays169_ren := {
  sizeBuilder := by kernel_rfl
  liesBuilder := by kernel_rfl
  t5 := Try.underlying5
  a5 := Try.isAgg5
  z5 := Try.sizeOf5
  v5 := Try.zeroValue5
  infoByte := by kernel_rfl
  cellsByte := by kernel_rfl
  sizeByte := by kernel_rfl
  neB5 := by decide }
open Go.RowKit in
/-- (*strings.Builder).String: "String returns the accumulated string.": OF A BUILDER THAT HOLDS AT LEAST ONE BYTE. ✋ THE MODEL FREEZES THOSE BYTES IN THE BUFFER (unsafe.String): a later write INTO them ends the model's run without an answer; a later append BEHIND them goes on. The statement's order of evaluation is drawn: one draw. (LAID: no walk: one application.) -/
theorem Try.Builder_String (B b : Nat) (l : List UInt8) (w : World) (h : Lib.IsBuilder 179 5 B b (Lib.byteCells l) w) (h0 : l ≠ []) :
    Calls Try.prog 140 #[.pointer (some ⟨b, 0, none⟩)] w fun e w' => e = .returned (.string ⟨l.toArray⟩) ∧ Below B w w' := Any.Builder_String Try.lays169 Try.Builder_Extra_169 B b l w h h0
open Go.RowKit in
/-- (*strings.Builder).String OF A BUILDER THAT HOLDS NO BYTE: the empty string. (Its buffer is nil, or a row of which it has taken nothing yet; where that row has NO capacity the model lays one new block for unsafe.SliceData's 'some address'.) One draw. (LAID: no walk: one application.) -/
theorem Try.Builder_String_empty (B b : Nat) (w : World) (h : Lib.IsBuilder 179 5 B b [] w) (hBw : B ≤ w.heap.size) :
    Calls Try.prog 140 #[.pointer (some ⟨b, 0, none⟩)] w fun e w' => e = .returned (.string ⟨#[]⟩) ∧ Below B w w' := Any.Builder_String_empty Try.lays169 Try.Builder_Extra_169 B b w h hBw
open Go.RowKit in
/-- (*strings.Builder).String: "String returns the accumulated string.": WHATEVER THE BUILDER HOLDS. (LAID: no walk: one application.) -/
theorem Try.Builder_String_any (B b : Nat) (l : List UInt8) (w : World) (h : Lib.IsBuilder 179 5 B b (Lib.byteCells l) w) (hBw : B ≤ w.heap.size) :
    Calls Try.prog 140 #[.pointer (some ⟨b, 0, none⟩)] w fun e w' => e = .returned (.string ⟨l.toArray⟩) ∧ Below B w w' := Any.Builder_String_any Try.lays169 Try.Builder_Extra_169 B b l w h hBw
def Try.lays241_ren : Go.Shelf.Ren := ⟨fun | 241 => 143 | 277 => 145 | n => n, fun | 70 => 177 | 3 => 3 | 0 => 0 | 72 => 179 | 37 => 38 | 5 => 5 | n => n, fun | n => n⟩
theorem Try.lays241 : Go.Proofs.Lays.n241 Try.prog Try.lays241_ren := {
  mixed := by kernel_rfl
  f241 := Try.func143.trans (congrArg some (by kernel_rfl))
  f277 := Try.func145.trans (congrArg some (by kernel_rfl))
  t0 := Try.underlying0
  a0 := Try.isAgg0
  z0 := Try.sizeOf0
  v0 := Try.zeroValue0
  t3 := Try.underlying3
  a3 := Try.isAgg3
  z3 := Try.sizeOf3
  v3 := Try.zeroValue3
  t37 := Try.underlying38
  a37 := Try.isAgg38
  z37 := Try.sizeOf38
  v37 := Try.zeroValue38
  t70 := Try.underlying177
  a70 := Try.isAgg177
  z70 := Try.sizeOf177
  v70 := Try.zeroValue177
  t72 := Try.underlying179
  a72 := Try.isAgg179
  z72 := Try.sizeOf179
  v72 := Try.zeroValue179 }
theorem Try.Builder_Extra_241 : Builder.Extra Try.prog Try.lays241_ren := {
  sizeBuilder := by kernel_rfl
  liesBuilder := by kernel_rfl
  t5 := Try.underlying5
  a5 := Try.isAgg5
  z5 := Try.sizeOf5
  v5 := Try.zeroValue5
  infoByte := by kernel_rfl
  cellsByte := by kernel_rfl
  sizeByte := by kernel_rfl
  neB5 := by decide }
open Go.RowKit in
/-- (*strings.Builder).grow (no doc but "grow copies the buffer to a new, larger buffer so that there are at least n bytes of capacity beyond len(b.buf)."): AT A BUILDER WITHOUT A BUFFER: a new row of whatever bytes for its buffer, none of them its own yet. Three draws. (LAID: no walk: one application.) -/
theorem Try.Builder_grow_fresh (B b n : Nat) (w : World) (hB : B ≤ b) (hbk : w.heap[b]? = some (.cells #[.pointer (some ⟨b, 0, none⟩), .slice none 0 0] 179 (0, 0))) (hBw : B ≤ w.heap.size) (hn : n ≤ 281474976710656) :
    Calls Try.prog 143 #[.pointer (some ⟨b, 0, none⟩), .int .i64 n] w fun e w' => e = .returned (.tuple #[]) ∧ (Lib.BuilderAt 179 5 B b (.pointer (some ⟨b, 0, none⟩)) [] w' ∧ Below B w w') := Any.Builder_grow_fresh Try.lays241 Try.Builder_Extra_241 B b n w hB hbk hBw hn
def Try.lays165_ren : Go.Shelf.Ren := ⟨fun | 165 => 138 | 240 => 142 | 241 => 143 | 276 => 144 | 277 => 145 | n => n, fun | 70 => 177 | 3 => 3 | 0 => 0 | 4 => 4 | 9 => 9 | 20 => 20 | 72 => 179 | 37 => 38 | 164 => 188 | 5 => 5 | n => n, fun | n => n⟩
theorem Try.lays165 : Go.Proofs.Lays.n165 Try.prog Try.lays165_ren := {
  mixed := by kernel_rfl
  f165 := Try.func138.trans (congrArg some (by kernel_rfl))
  f240 := Try.func142.trans (congrArg some (by kernel_rfl))
  f241 := Try.func143.trans (congrArg some (by kernel_rfl))
  f276 := Try.func144.trans (congrArg some (by kernel_rfl))
  f277 := Try.func145.trans (congrArg some (by kernel_rfl))
  t0 := Try.underlying0
  a0 := Try.isAgg0
  z0 := Try.sizeOf0
  v0 := Try.zeroValue0
  t3 := Try.underlying3
  a3 := Try.isAgg3
  z3 := Try.sizeOf3
  v3 := Try.zeroValue3
  t4 := Try.underlying4
  a4 := Try.isAgg4
  z4 := Try.sizeOf4
  v4 := Try.zeroValue4
  t9 := Try.underlying9
  a9 := Try.isAgg9
  z9 := Try.sizeOf9
  v9 := Try.zeroValue9
  t20 := Try.underlying20
  a20 := Try.isAgg20
  z20 := Try.sizeOf20
  v20 := Try.zeroValue20
  t37 := Try.underlying38
  a37 := Try.isAgg38
  z37 := Try.sizeOf38
  v37 := Try.zeroValue38
  t70 := Try.underlying177
  a70 := Try.isAgg177
  z70 := Try.sizeOf177
  v70 := Try.zeroValue177
  t72 := Try.underlying179
  a72 := Try.isAgg179
  z72 := Try.sizeOf179
  v72 := Try.zeroValue179
  t164 := Try.underlying188
  a164 := Try.isAgg188
  z164 := Try.sizeOf188
  v164 := Try.zeroValue188 }
theorem Try.Builder_Extra_165 : Builder.Extra Try.prog Try.lays165_ren := {
  sizeBuilder := by kernel_rfl
  liesBuilder := by kernel_rfl
  t5 := Try.underlying5
  a5 := Try.isAgg5
  z5 := Try.sizeOf5
  v5 := Try.zeroValue5
  infoByte := by kernel_rfl
  cellsByte := by kernel_rfl
  sizeByte := by kernel_rfl
  neB5 := by decide }
open Go.RowKit in
/-- (*strings.Builder).Grow AT A BUILDER THAT HAS NOT BEEN WRITTEN ('var b strings.Builder; b.Grow(n)'): "Grow grows b's capacity, if necessary, to guarantee space for another n bytes.": it holds no byte behind it as before it. (LAID: no walk: one application.) -/
theorem Try.Builder_Grow_fresh (B b n : Nat) (w : World) (hB : B ≤ b) (hbk : w.heap[b]? = some (.cells #[.pointer none, .slice none 0 0] 179 (0, 0))) (hBw : B ≤ w.heap.size) (hn : n ≤ 281474976710656) :
    Calls Try.prog 138 #[.pointer (some ⟨b, 0, none⟩), .int .i64 n] w fun e w' => e = .returned (.tuple #[]) ∧ (Lib.BuilderAt 179 5 B b (.pointer (some ⟨b, 0, none⟩)) [] w' ∧ Below B w w') := Any.Builder_Grow_fresh Try.lays165 Try.Builder_Extra_165 B b n w hB hbk hBw hn
def Try.lays264_ren : Go.Shelf.Ren := ⟨fun | 264 => 131 | n => n, fun | 53 => 84 | 46 => 131 | n => n, fun | n => n⟩
theorem Try.lays264 : Go.Proofs.Lays.n264 Try.prog Try.lays264_ren := {
  mixed := by kernel_rfl
  f264 := Try.func131.trans (congrArg some (by kernel_rfl))
  t46 := Try.underlying131
  a46 := Try.isAgg131
  z46 := Try.sizeOf131
  v46 := Try.zeroValue131
  t53 := Try.underlying84
  a53 := Try.isAgg84
  z53 := Try.sizeOf84
  v53 := Try.zeroValue84 }
open Go.RowKit Go.Lib in
theorem Try.bits_Mul64 (x y : Nat) (hx : x < 18446744073709551616) (hy : y < 18446744073709551616) (w : World) :
    Calls Try.prog 131 #[.int .u64 x, .int .u64 y] w fun e w' => e = .returned (.tuple #[.int .u64 ((x * y / 18446744073709551616 : Nat) : Int), .int .u64 ((x * y % 18446744073709551616 : Nat) : Int)]) ∧ w' = w := Any.bits_Mul64 Try.lays264 x y hx hy w
end Go.Proofs
namespace Go.L
open Go Go.RowKit Go.Proofs
set_option linter.unusedSimpArgs false
set_option linter.unusedVariables false

theorem app_blk {w : World} {base n : Nat} {x x' : Value} {xs : List Value} {s : ByteArray} {ty : TypeId} {w' : World} (hown : w.ownsRow base 5 1 x n xs) (hm : n + s.size ≤ 140737488355328)
    (hr : (Builtin.append_ #[38, 9] ty #[x, .string s]).run Try.prog w = .ok x' w') (hnil : x' = .slice none 0 0 ↔ x = .slice none 0 0 ∧ s.size = 0) : x'.ownBlock = x.ownBlock ∨ ∀ k, x'.ownBlock = some k → w.heap.size ≤ k := by
  have hi := info_of (Try.typeInfo5 w)
  have hxl : xs.length = n := by simpa using hown.1
  rcases hown.2 with ⟨rfl, rfl⟩ | ⟨g, cap, cur, rfl, hbg, hg, hnc, hcm, hcs, htake⟩
  · by_cases h0 : s.size = 0
    · rw [hnil.2 ⟨rfl, h0⟩]; exact .inl rfl
    · right
      rw [run_append_nil_string (P := Try.prog) w 38 9 ty 5 _ (.int .u8 0) Try.underlying38 Try.underlying9 hi rfl s (by omega) (by omega) (by show _ * 1 ≤ _; omega)] at hr
      cases hr
      intro k hk; cases hk; exact Nat.le_refl _
  · by_cases hroom : n + s.size ≤ cap
    · left
      have hcs' : cur.size = cap := by simpa using hcs
      rw [Lib.run_append_room_string (P := Try.prog) w 38 9 ty 5 _ Try.underlying38 Try.underlying9 hi rfl g n cap cur hg s hroom (by omega)] at hr
      cases hr
      rfl
    · right
      rw [Lib.run_append_grow_string (P := Try.prog) w 38 9 ty 5 _ (.int .u8 0) Try.underlying38 Try.underlying9 hi rfl ⟨g, 0, none⟩ n cap xs (by rw [hxl]; exact (Nat.mul_one n).symm) (hown.cells (g := g) rfl) s (by omega) (by omega) (by show _ * 1 ≤ _; exact growslice_fits (by omega) (by omega))] at hr
      cases hr
      intro k hk; cases hk; exact Nat.le_refl _
theorem kAppStr_stP {P : Program} {X : Chain → World → Prop} {w w0 : World} {t u e : TypeId} {i : TypeInfo} (ht : P.underlying t = some (.slice e)) (hu : P.underlying u = some .string) (hi : P.info? e = some i) (hz : i.zero = some (.int .u8 0)) (hs : i.size = 1) (hby : i.bytes = 1)
    {L : List Own} (hS : St w0 L w) (j : Nat) {n : Nat} {x : Value} {xs : List Value} {s : ByteArray} (hj : L[j]? = some (.row x e 1 n xs)) {cs : Array Bool} {ty : TypeId} {k : Value → World → Prop} (hm : n + s.size ≤ 140737488355328)
    (hblk : ∀ x' w', (Builtin.append_ #[t, u] ty #[x, .string s]).run P w = .ok x' w' → (x' = .slice none 0 0 ↔ x = .slice none 0 0 ∧ s.size = 0) → x'.ownBlock = x.ownBlock ∨ ∀ k, x'.ownBlock = some k → w.heap.size ≤ k)
    (h : ∀ x' W, St w0 (L.set j (.row x' e 1 (n + s.size) (xs ++ Lib.strCells s))) W → k x' W) : kBlt ⟨P, X, false⟩ w .append #[t, u] ty cs #[x, .string s] k := by
  have hown : w.ownsRow w0.heap.size e 1 x n xs := hS.get j hj
  obtain ⟨x', w', hr, ho, hg, hnil⟩ := Lib.run_append_own_string (P := P) w w0.heap.size t u ty e i ht hu hi hz hs hby x n xs hown s (by simp [maxLen]; omega) hm hS.size
  have hb := hblk x' w' hr hnil
  refine ⟨?_⟩
  show kNext _ _ _
  simp only [builtin, Sem.run_bind, hr, Result.andThen_ok, Sem.run_pure]
  exact h x' w' (hS.set j hj hg ho hb)
theorem kAppStr_st {X : Chain → World → Prop} {w w0 : World} {L : List Own} (hS : St w0 L w) (i : Nat) {n : Nat} {x : Value} {xs : List Value} {s : ByteArray} (hi : L[i]? = some (.row x 5 1 n xs)) {cs : Array Bool} {ty : TypeId} {k : Value → World → Prop} (hm : n + s.size ≤ 140737488355328)
    (h : ∀ x' W, St w0 (L.set i (.row x' 5 1 (n + s.size) (xs ++ Lib.strCells s))) W → k x' W) : kBlt ⟨Try.prog, X, false⟩ w .append #[38, 9] ty cs #[x, .string s] k :=
  kAppStr_stP Try.underlying38 Try.underlying9 (info_of (Try.typeInfo5 w)) rfl rfl rfl hS i hi hm (fun x' w' hr hnil => app_blk (hS.get i hi) hm hr hnil) h
theorem row_cells {base : Nat} {w : World} {e : TypeId} {sz n : Nat} {x : Value} {xs : List Value} (h : w.ownsRow base e sz x n xs) : x.cells = #[x] ∧ x.oneCell' = true := by
  rcases h.2 with ⟨rfl, _⟩ | ⟨g, cap, cur, rfl, _⟩ <;> exact ⟨rfl, rfl⟩

theorem kFa179_1 {X : Chain → World → Prop} {q : Bool} {w : World} {b o : Nat} {k : Value → World → Prop} (h : k (.pointer (some ⟨b, o + 1, none⟩)) w) : kFa ⟨Try.prog, X, q⟩ w 179 (.pointer (some ⟨b, o, none⟩)) 1 k :=
  kFa_i (c := ⟨Try.prog, X, q⟩) Try.underlying179 rfl (n := 0) Try.sizeOf38 h
theorem kFa179_0 {X : Chain → World → Prop} {q : Bool} {w : World} {b o : Nat} {k : Value → World → Prop} (h : k (.pointer (some ⟨b, o, none⟩)) w) : kFa ⟨Try.prog, X, q⟩ w 179 (.pointer (some ⟨b, o, none⟩)) 0 k :=
  kFa_i (c := ⟨Try.prog, X, q⟩) Try.underlying179 rfl (n := 0) Try.sizeOf177 h
theorem kEq_p {X : Chain → World → Prop} {q : Bool} {w : World} {k : Value → World → Prop} {ox oy : Operand} {a : Addr} (h : k (.bool false) w) : kEq ⟨Try.prog, X, q⟩ w .eql 177 ox oy (.pointer (some a)) (.pointer none) k :=
  ⟨kVal_pure (c := ⟨Try.prog, X, q⟩) (v := .bool false) (fun w' => by
    simp only [go_sem]
    show Sem.run Try.prog (do pure (.bool (← Op.equal 177 (.pointer (some a)) (.pointer none))) : Sem Value) w' = _
    have : (Op.equal 177 (.pointer (some a)) (.pointer none)).run Try.prog w' = .ok false w' := by
      unfold Op.equal Op.maxDepth Op.equalIn
      simp [run_underlying Try.underlying177]
    simp [this]) h⟩
theorem kNe_p {X : Chain → World → Prop} {q : Bool} {w : World} {k : Value → World → Prop} {ox oy : Operand} {a : Addr} (h : k (.bool false) w) : kEq ⟨Try.prog, X, q⟩ w .neq 177 ox oy (.pointer (some a)) (.pointer (some a)) k :=
  ⟨kVal_pure (c := ⟨Try.prog, X, q⟩) (v := .bool false) (fun w' => by
    simp only [go_sem]
    show Sem.run Try.prog (do pure (.bool !(← Op.equal 177 (.pointer (some a)) (.pointer (some a)))) : Sem Value) w' = _
    have : (Op.equal 177 (.pointer (some a)) (.pointer (some a))).run Try.prog w' = .ok true w' := by
      unfold Op.equal Op.maxDepth Op.equalIn
      simp [run_underlying Try.underlying177, sameAddr]
    simp [this]) h⟩
theorem check142 {w0 w : World} {L : List Own} (hS : St w0 L w) (i : Nat) {b : Nat} {v : Value} (hi : L[i]? = some (.bx b 179 #[.pointer (some ⟨b, 0, none⟩), v])) (R : Ending → World → Prop) (h : R (.returned (.tuple #[])) w) : Calls Try.prog 142 #[.pointer (some ⟨b, 0, none⟩)] w R := by
  refine c142 _ _ _ ?_
  unfold vc142
  exact kNil_p (kFa179_0 (kLoad_st hS i hi rfl (fun w => Try.isAgg177 w) (kEq_p (kIf_f (kNil_p (kFa179_0 (kLoad_st hS i hi rfl (fun w => Try.isAgg177 w) (kNe_p (kIf_f h)))))))))
theorem Write139 {w0 w : World} {b n : Nat} {v : Value} {bs : List Value} {s : ByteArray} {M : List Own} (hS : St w0 (.bx b 179 #[.pointer (some ⟨b, 0, none⟩), v] :: .row v 5 1 n bs :: M) w) (hm : n + s.size ≤ 140737488355328) (R : Ending → World → Prop)
    (h : ∀ v' W, St w0 (.bx b 179 #[.pointer (some ⟨b, 0, none⟩), v'] :: .row v' 5 1 (n + s.size) (bs ++ Lib.strCells s) :: M) W → R (.returned (.tuple #[.int .i64 s.size, .nilIface])) W) : Calls Try.prog 139 #[.pointer (some ⟨b, 0, none⟩), .string s] w R := by
  refine c139 _ _ _ _ ?_
  unfold vc139
  refine kCall_i (Try.call142 _ _) (check142 hS 0 rfl _ (kNil_p (kFa179_1 (kLd hS 0 rfl rfl rfl (kAppStr_st hS 1 rfl hm fun x' W hS => ?_)))))
  refine kNil_p (kFa179_1 (kSt hS 0 rfl (by simp) (row_cells (hS.get 1 rfl)).1 (row_cells (hS.get 1 rfl)).2 rfl fun W hS => kLen9 (h x' W hS)))
end Go.L
namespace Go.L
open Go Go.RowKit Go.Proofs
set_option linter.unusedSimpArgs false
set_option linter.unusedVariables false

section
variable {X : Chain → World → Prop} {q : Bool} {w : World} {k : Value → World → Prop}
theorem kLen119 {ty : TypeId} {o : Option Addr} {n cp : Nat} {cs : Array Bool} (h : k (.int .i64 n) w) : kBlt ⟨Try.prog, X, q⟩ w .len #[119] ty cs #[.slice o n cp] k := kLen_sl (c := ⟨Try.prog, X, q⟩) Try.underlying119 h
theorem kIa119 {b o n cp : Nat} {i : Nat} (hi : i < n) (h : k (.pointer (some ⟨b, o + i * 1, none⟩)) w) : kIa ⟨Try.prog, X, q⟩ w 119 (.slice (some ⟨b, o, none⟩) n cp) (.int .i64 i) k :=
  kIa_sl (c := ⟨Try.prog, X, q⟩) Try.underlying119 Try.sizeOf9 hi h
theorem kSl119_l {a : Option Addr} {n cp l : Nat} (h0 : n ≤ cp) (h1 : l ≤ n) (h : k (.slice (if cp = l then a else a.map (·.add (l * 1))) (n - l) (cp - l)) w) : kSl ⟨Try.prog, X, q⟩ w 119 (.slice a n cp) (some (.int .i64 l)) none none k :=
  ⟨kVal_pure (c := ⟨Try.prog, X, q⟩) (fun w' => by
    rw [run_sliceAt_slice w' 119 _ _ _ _ (elem_of Try.underlying119), run_slice_l w' 119 a n cp (elem_of Try.underlying119) .i64 l (by omega) (by omega)]
    rw [show Try.prog.elem 119 = 9 by simp [Program.elem, Try.underlying119], Try.sizeOf9]
    rfl) h⟩
end
theorem E119 (w : World) : Elt Try.prog 119 9 1 16 := ⟨Try.underlying119, ⟨Try.t9, _, info_of (Try.typeInfo9 w), rfl, rfl, rfl, rfl⟩, by omega, by omega⟩

theorem Join132 (x y : ByteArray) (w : World) (b o lc : Nat) (hb : b < w.heap.size) (h0 : w.cell? ⟨b, o, none⟩ = some (.string x)) (h1 : w.cell? ⟨b, o + 1, none⟩ = some (.string y)) (hlc : 2 ≤ lc) (hn : x.size + y.size ≤ 140737488355328) (R : Ending → World → Prop)
    (h : ∀ W, Below w.heap.size w W → R (.returned (.string (x ++ y))) W) : Calls Try.prog 132 #[.slice (some ⟨b, o, none⟩) 2 lc, .string ⟨#[]⟩] w R := by
  have keep : ∀ {W : World}, Below w.heap.size w W → W.cell? ⟨b, o, none⟩ = some (.string x) ∧ W.cell? ⟨b, o + 1, none⟩ = some (.string y) := by
    intro W hB
    have e := hB.block b hb
    constructor
    · rw [← h0]; simp [World.cell?, e]
    · rw [← h1]; simp [World.cell?, e]
  refine c132 _ _ _ _ _ _ ?_
  unfold vc132
  refine kLen119 (kEq_int (kIf_eq (fun e => absurd e (by decide)) (fun _ => kEq_int (kIf_eq (fun e => absurd e (by decide)) (fun _ => ?_)))))
  refine kJn_inv (fun cs V => V = w ∧ cs = [.int .i64 0]) ?_ ?_
  · rintro cs V ⟨rfl, rfl⟩ ds
    refine kLen119 ?_
    refine ⟨⟨fun cs W => W = V ∧ ((cs = [.int .i64 0, .int .i64 0]) ∨ (cs = [.int .i64 x.size, .int .i64 1]) ∨ (cs = [.int .i64 ((x.size + y.size : Nat) : Int), .int .i64 2])),
      fun cs _ => 2 - (match cs with | [_, .int _ i] => i.toNat | _ => 0), ⟨rfl, .inl rfl⟩, ?_⟩⟩
    rintro cs ds W ⟨rfl, hcs⟩
    rcases hcs with rfl | rfl | rfl
    · dsimp only [List.getD_cons_zero, List.getD_cons_succ]
      refine kBin_lss (kIf_d (fun _ => ?_) (fun e => absurd (by decide) e))
      refine kIa119 (i := 0) (by omega) (kLdS rfl (by simpa using h0) ?_)
      refine kJn_inv (fun cs V => V = W) ?_ (fun J hJ => kLen9 (kBin_sub (kBin_gtr (kIf_d (fun e => ?_) (fun e => kD_i (hJ _ _ rfl))))))
      · rintro cs V rfl ds
        refine kLen9 (kBin_add (kBin_add (kD_i ⟨⟨rfl, .inr (.inl ?_)⟩, ?_⟩)))
        · rw [wrap_id (by omega) (by omega), wrap_id (by omega) (by omega)]; simp
        · rw [wrap_id (by omega) (by omega)]; exact Nat.le_of_ble_eq_true rfl
      · rw [wrap_id (by omega) (by omega)] at e; omega
    · dsimp only [List.getD_cons_zero, List.getD_cons_succ]
      refine kBin_lss (kIf_d (fun _ => ?_) (fun e => absurd (by decide) e))
      refine kIa119 (i := 1) (by omega) (kLdS rfl (by simpa using h1) ?_)
      refine kJn_inv (fun cs V => V = W) ?_ (fun J hJ => kLen9 (kBin_sub (kBin_gtr (kIf_d (fun e => ?_) (fun e => kD_i (hJ _ _ rfl))))))
      · rintro cs V rfl ds
        refine kLen9 (kBin_add (kBin_add (kD_i ⟨⟨rfl, .inr (.inr ?_)⟩, ?_⟩)))
        · rw [wrap_id (by omega) (by omega), wrap_id (by omega) (by omega)]; simp
        · rw [wrap_id (by omega) (by omega)]; exact Nat.le_of_ble_eq_true rfl
      · rw [wrap_id (by omega) (by omega)] at e; omega
    · dsimp only [List.getD_cons_zero, List.getD_cons_succ]
      refine kBin_lss (kIf_d (fun e => absurd e (by decide)) (fun _ => ?_))
      refine kAlloc_st Try.zeroValue179 (St.start W) fun p V hS => ?_
      have hS : St W [.bx p 179 #[.pointer none, .slice none 0 0]] V := hS
      refine kCall_i (Try.call138 _ _) ((Try.Builder_Grow_fresh W.heap.size p (x.size + y.size) V (hS.get 0 rfl).1 (hS.get 0 rfl).2 hS.size (by omega)).mono ?_)
      rintro e V2 ⟨rfl, ⟨hB, v, hbk, hown, hne⟩, hbel⟩
      have hA : St W [] V2 := ⟨hS.below.trans hbel, by simp, by simp⟩
      have hA := hA.adopt (o := .bx p 179 #[.pointer (some ⟨p, 0, none⟩), v]) ⟨hB, hbk⟩ (by simp)
      have hA := hA.adopt (o := .row v 5 1 0 []) hown (fun q hq => by simp at hq; subst hq; exact .inr (fun e => hne e.symm))
      have hS2 : St W [.bx p 179 #[.pointer (some ⟨p, 0, none⟩), v], .row v 5 1 0 []] V2 := hA
      refine kIa119 (i := 0) (by omega) (kLdS rfl (by simpa using (keep hS2.below).1) (kCall_i (Try.call139 _ _) (Write139 hS2 (by omega) _ fun v3 W3 hS3 => ?_)))
      refine kSl119_l (l := 1) hlc (by omega) (kLen119 ?_)
      refine ⟨⟨fun cs W4 => (cs = [.int .i64 0] ∧ ∃ v, St W [.bx p 179 #[.pointer (some ⟨p, 0, none⟩), v], .row v 5 1 (0 + x.size) ([] ++ Lib.strCells x)] W4) ∨ (cs = [.int .i64 1] ∧ ∃ v, St W [.bx p 179 #[.pointer (some ⟨p, 0, none⟩), v], .row v 5 1 (0 + x.size + 0 + y.size) ([] ++ Lib.strCells x ++ [] ++ Lib.strCells y)] W4),
        fun cs _ => 1 - (match cs with | [.int _ i] => i.toNat | _ => 0), .inl ⟨rfl, _, hS3⟩, ?_⟩⟩
      rintro cs ds W4 hcs
      rcases hcs with ⟨rfl, v4, hS4⟩ | ⟨rfl, v4, hS4⟩
      · dsimp only [List.getD_cons_zero, List.getD_cons_succ]
        refine kBin_lss (kIf_d (fun _ => ?_) (fun e => absurd (by decide) e))
        have hc : (if lc = 1 then (some ⟨b, o, none⟩ : Option Addr) else (some ⟨b, o, none⟩ : Option Addr).map (·.add (1 * 1))) = some ⟨b, o + 1, none⟩ := by
          rw [if_neg (by omega)]; rfl
        rw [hc]
        refine kIa119 (i := 0) (by omega) (kLdS rfl (by simpa using (keep hS4.below).2) (kCall_i (Try.call139 _ _) (Write139 hS4 (by show 0 + x.size + 0 ≤ _; omega) _ fun v5 W5 hS5 => ?_)))
        refine kCall_i (Try.call139 _ _) (Write139 hS5 (by show 0 + x.size + 0 + y.size ≤ _; omega) _ fun v6 W6 hS6 => kBin_add (kD_i ⟨.inr ⟨rfl, v6, hS6⟩, ?_⟩))
        exact Nat.le_of_ble_eq_true rfl
      · dsimp only [List.getD_cons_zero, List.getD_cons_succ]
        refine kBin_lss (kIf_d (fun e => absurd e (by decide)) (fun _ => ?_))
        have hown4 := hS4.get 1 rfl
        have hl : ([] ++ Lib.strCells x ++ [] ++ Lib.strCells y : List Value) = Lib.byteCells (x ++ y).data.toList := by
          simp [Lib.strCells, Lib.byteCells]
        rw [hl] at hS4
        have hn4 : (Lib.byteCells (x ++ y).data.toList).length = 0 + x.size + 0 + y.size := by
          rw [Lib.byteCells_length, Array.length_toList]; show (x ++ y).size = _; rw [ByteArray.size_append]; omega
        have hrow : W4.ownsRow W.heap.size 5 1 v4 (Lib.byteCells (x ++ y).data.toList).length (Lib.byteCells (x ++ y).data.toList) := by
          rw [hn4]; exact hS4.get 1 rfl
        have hap := hS4.apart 1 0 _ _ rfl rfl (by omega)
        have hne4 : v4.ownBlock ≠ some p := by
          rcases hap with e | e
          · intro q; rw [show v4.ownBlock = none from e] at q; cases q
          · exact e
        refine kCall_i (Try.call140 _ _) ((Try.Builder_String_any W.heap.size p (x ++ y).data.toList W4 (.inr ⟨(hS4.get 0 rfl).1, v4, (hS4.get 0 rfl).2, hrow, hne4⟩) hS4.size).mono ?_)
        rintro e W5 ⟨rfl, hB5⟩
        exact h W5 (hS4.below.trans hB5)
  · intro J hJ
    exact kLen9 (kBin_gtr (kIf_d (fun e => absurd e (by decide)) (fun _ => kD_i (hJ _ _ ⟨rfl, rfl⟩))))
end Go.L
namespace Go.L
open Go Go.RowKit Go.Proofs
set_option linter.unusedSimpArgs false
set_option linter.unusedVariables false

theorem built49_02 (t : Int) (s : ByteArray) : Try.prog.built 49 [(0, .int .i64 t), (2, .string s)] = some #[.int .i64 t, .int .i64 0, .string s] := by
  have h1 := info_of (Try.typeInfo49 default)
  have h2 := info_of (Try.typeInfo47 default)
  have h3 := info_of (Try.typeInfo2 default)
  have h4 := info_of (Try.typeInfo9 default)
  simp [Program.built, h1, Try.underlying49, Try.t49, h2, h3, h4, Try.t47, Try.t2, Try.t9, Instr.fill]
  exact ⟨⟨rfl, Nat.le_of_ble_eq_true rfl⟩, ⟨rfl, Nat.le_of_ble_eq_true rfl⟩, rfl⟩
def catE (a b : AV) : Int := if a.2.2.size + b.2.2.size ≤ 1000 then 0 else 3
theorem cat106 (a b : AV) (ha : a.2.2.size ≤ 1000000) (hb : b.2.2.size ≤ 1000000) (w : World) (R : Ending → World → Prop) (h : RetE w (a.1, 0, a.2.2 ++ b.2.2) (catE a b) R) : Calls Try.prog 106 #[pVal a b] w R := by
  refine c106 _ _ _ _ _ _ _ _ ?_
  unfold vc106
  refine kBox_st (St.start w) fun p W hS => kAlloc_st Try.zeroValue49 hS fun o W hS => ?_
  have hS : St w [.bx p 101 (pCells a b), .bx o 49 #[.int .i64 0, .int .i64 0, .string ⟨#[]⟩]] W := hS
  refine kFa101 0 (by omega) (kFa49 2 (by omega) (kLd hS 0 rfl rfl rfl (kLen9 (kFa101 1 (by omega) (kFa49 2 (by omega) (kLd hS 0 rfl rfl rfl (kLen9 (kBin_add (kBin_leq ?_)))))))))
  rw [wrap_id (by omega) (by omega)]
  refine kCall_i (Try.call54 _ _) (must54 _ _ _ _ (fun e => ?_) (fun e => ?_))
  · have hle : a.2.2.size + b.2.2.size ≤ 1000 := by simp at e; omega
    rw [show catE a b = 0 from if_pos hle] at h
    refine kDrawn_i (kDrawn_i (kFa101 0 (by omega) (kFa49 0 (by omega) (kLd hS 0 rfl rfl rfl (kFa101 0 (by omega) (kFa49 2 (by omega) (kLd hS 0 rfl rfl rfl (kFa101 1 (by omega) (kFa49 2 (by omega) (kLd hS 0 rfl rfl rfl (kDrew_st hS fun W hS => ?_)))))))))))
    refine kBS (E119 W) hS [.string a.2.2, .string b.2.2] rfl rfl (by omega) (by omega) (by simp [Value.cells]) fun x cp W hS hl => ?_
    have hS : St w [.bx p 101 (pCells a b), .bx o 49 #[.int .i64 0, .int .i64 0, .string ⟨#[]⟩], .row (.slice x 2 cp) 9 1 2 (flat [.string a.2.2, .string b.2.2])] W := hS
    have hown : W.ownsRow w.heap.size 9 1 (.slice x 2 cp) 2 _ := hS.get 2 rfl
    refine kFa101 0 (by omega) (kSame_i (kFa49 0 (by omega) (kSame_i (kLd hS 0 rfl rfl rfl (kSame_i (kDrew_st hS fun W2 hS2 => ?_))))))
    have hown2 : W2.ownsRow w.heap.size 9 1 (.slice x 2 cp) 2 (flat [.string a.2.2, .string b.2.2]) := hS2.get 2 rfl
    rcases hown2.2 with ⟨he, _⟩ | ⟨g, cap, cur, he, hbg, hg, hnc, hcm, hcs, htake⟩
    · cases he
    · cases he
      have hc := hown2.cells (g := g) rfl
      have hc0 := hc 0 _ rfl
      have hc1 := hc 1 _ rfl
      refine kCall_i (Try.call132 _ _) (Join132 a.2.2 b.2.2 W2 g 0 cp (Array.getElem?_eq_some_iff.1 hg).1 hc0 hc1 hnc (by omega) _ fun W3 hB3 => ?_)
      have hS3 := hS2.bel hB3
      refine kFa101 0 (by omega) (kSame_i (kFa49 0 (by omega) (kSame_i (kLd hS3 0 rfl rfl rfl (kSame_i (kBuild_i (built49_02 a.1 (a.2.2 ++ b.2.2)) (kDrew_st hS3 fun W4 hS4 => ?_)))))))
      exact kStoreA_st hS4 1 rfl rfl (by simp [Value.oneCell']) Try.sizeOf49 fun W hS => (h.ok rfl).fin hS 1 rfl rfl
  · have hle : ¬ a.2.2.size + b.2.2.size ≤ 1000 := by simp at e; omega
    rw [show catE a b = 3 from if_neg hle] at h
    exact h.bad (by omega) W hS.below
end Go.L
namespace Go.L
open Go Go.RowKit Go.Proofs
set_option linter.unusedSimpArgs false
set_option linter.unusedVariables false

theorem ob_apart {w0 W : World} {L : List Own} (h : St w0 L W) (hcl : ∀ o ∈ L, o.cl) {l : Nat} {o : Obj} (hlo : W.heap[l]? = some o) (hn : o.isCells = false) : ∀ p ∈ L, p.blk = none ∨ p.blk ≠ (Own.ob l o).blk := by
  intro p hp
  cases hb : p.blk with
  | none => exact .inl rfl
  | some b =>
    right; intro he
    obtain ⟨c, t, f, hc2⟩ := Own.cl_blk (h.all p hp) (hcl p hp) b hb
    cases he; rw [hlo] at hc2; cases hc2; simp [Obj.isCells] at hn
abbrev lpD (l : Nat) (lo : Loop) (D : Nat) : List Own := [.ob l (.loop lo), .ob D (.deferred (some []))]
/-- A range over a function whose things are boxes and rows. -/
theorem kRange_cl {P : Program} {w0 w : World} {g : Value} {np : Nat} {round : Nat → Nat → List Value → World → (Exit → World → Prop) → Prop} {Kn Kr : Nat → World → Prop} {Kx : Nat → Nat → World → Prop} {Kp : Nat → Chain → World → Prop}
    (n : Nat) (xs : Nat → List Value) (A : Nat → List Own → Prop) (Z : Exit → List Own → Prop) (hs : w0.heap.size ≤ w.heap.size) (hA : ∀ i L, A i L → ∀ o ∈ L, o.cl) (hZ : ∀ ex L, Z ex L → ∀ o ∈ L, o.cl) (hlen : ∀ i, (xs i).length = np)
    (h0 : ∃ L, A 0 L ∧ St w0 L w)
    (hround : ∀ i l D lo W L, i < n → w0.heap.size ≤ l → w0.heap.size ≤ D → A i L → St w0 (L ++ lpD l lo D) W → round l D (xs i) W (fun ex W' => match ex with | .normal => ∃ L, A (i + 1) L ∧ St w0 L W' | ex => ∃ L, Z ex L ∧ St w0 L W'))
    (hiter : Iter P g n (fun i => (xs i).toArray) (fun i W => ∃ L, A i L ∧ St w0 L W) w)
    (hn : ∀ D W L, A n L → St w0 (L ++ [.ob D (.deferred (some []))]) W → Kn D W)
    (hr : ∀ D W L, Z .ret L → St w0 (L ++ [.ob D (.deferred (some []))]) W → Kr D W)
    (hx : ∀ id D W L, Z (.exit id) L → St w0 (L ++ [.ob D (.deferred (some []))]) W → Kx D id W)
    (hp : ∀ ch D W L, Z (.panic ch) L → St w0 (L ++ [.ob D (.deferred (some []))]) W → Kp D ch W) : kRange P none w g np round Kn Kr Kx Kp := by
  have ad : ∀ D (W : World) L, (∀ o ∈ L, o.cl) → w.heap.size ≤ D → W.heap[D]? = some (.deferred (some [])) → St w0 L W → St w0 (L ++ [.ob D (.deferred (some []))]) W := fun D W L hcl hD hdf hS =>
    hS.adopt ⟨Nat.le_trans hs hD, hdf⟩ (ob_apart hS hcl hdf rfl)
  refine ⟨rfl, n, xs, fun i W => ∃ L, A i L ∧ St w0 L W, fun ex W => ∃ L, Z ex L ∧ St w0 L W, ?_, ?_, hlen, h0, ?_, hiter, ?_, ?_, ?_, ?_⟩
  · rintro i _ V V' row ⟨L, ha, hV⟩ hg hrow
    exact ⟨L, ha, hV.turn (hA _ _ ha) hg (fun r hr => ⟨Nat.le_trans hs (hrow r hr).1, (hrow r hr).2⟩)⟩
  · rintro i _ V V' row ⟨L, ha, hV⟩ hg hrow
    exact ⟨L, ha, hV.turn (hZ _ _ ha) hg (fun r hr => ⟨Nat.le_trans hs (hrow r hr).1, (hrow r hr).2⟩)⟩
  · rintro i l D lo W hi hD hl hlD hlo hdf ⟨L, ha, hV⟩
    have hV2 := hV.adopt (o := .ob l (.loop lo)) ⟨Nat.le_trans hs hl, hlo⟩ (ob_apart hV (hA _ _ ha) hlo rfl)
    have hV3 := hV2.adopt (o := .ob D (.deferred (some []))) ⟨Nat.le_trans hs hD, hdf⟩ (fun p hp => by
      rcases List.mem_append.1 hp with hp | hp
      · exact ob_apart hV (hA _ _ ha) hdf rfl p hp
      · simp at hp; subst hp; right; intro he; cases he; exact hlD rfl)
    rw [List.append_assoc] at hV3
    exact hround i l D lo W L hi (Nat.le_trans hs hl) (Nat.le_trans hs hD) ha hV3
  · rintro D W hD hdf ⟨L, ha, hV⟩; exact hn D W L ha (ad D W L (hA _ _ ha) hD hdf hV)
  · rintro D W hD hdf ⟨L, ha, hV⟩; exact hr D W L ha (ad D W L (hZ _ _ ha) hD hdf hV)
  · rintro id D W hD hdf ⟨L, ha, hV⟩; exact hx id D W L ha (ad D W L (hZ _ _ ha) hD hdf hV)
  · rintro ch D W hD hdf ⟨L, ha, hV⟩; exact hp ch D W L ha (ad D W L (hZ _ _ ha) hD hdf hV)
/-- Between the assignment and the body: N is what the assignment has made. -/
theorem rndMid_cl {w0 W W1 : World} {L N : List Own} {l D : Nat} {lo : Loop} {f : Loop → World → Prop} (h0 : St w0 (L ++ lpD l lo D) W) (h : St w0 (L ++ lpD l lo D ++ N) W1) (hf : ∀ lo W, St w0 (L ++ lpD l lo D ++ N) W → f lo W) : rndMid l D W W1 f := by
  have i1 : (L ++ lpD l lo D)[L.length]? = some (.ob l (.loop lo)) := by simp
  have i2 : (L ++ lpD l lo D)[L.length + 1]? = some (.ob D (.deferred (some []))) := by simp
  have hl := (h.get _ (at_l i1)).2
  refine ⟨hl.trans (h0.get _ i1).2.symm, (h.get _ (at_l i2)).2.trans (h0.get _ i2).2.symm, fun lo2 => hf lo2 _ ?_⟩
  have hS3 := h.set (W' := W1.putObj l (.loop lo2)) L.length (o' := .ob l (.loop lo2)) (at_l i1) (grownBy_putObj' W1 l _) ⟨(h.get _ (at_l i1)).1, World.putObj_heap_same (Array.getElem?_eq_some_iff.1 hl).1⟩ (.inl rfl)
  have e : (L ++ lpD l lo D ++ N).set L.length (.ob l (.loop lo2)) = L ++ lpD l lo2 D ++ N := by
    rw [List.append_assoc, List.append_assoc, List.set_append_right _ _ (Nat.le_refl _), Nat.sub_self]; rfl
  rw [e] at hS3; exact hS3
theorem rndEnd_cl {w0 W W1 : World} {L L' N : List Own} {l D : Nat} {lo lo0 : Loop} {R : Exit → World → Prop} {ex : Exit} (h0 : St w0 (L ++ lpD l lo0 D) W) (h : St w0 (L' ++ lpD l lo D ++ N) W1) (hR : St w0 L' W1 → R ex W1) : rndEnd l D lo W R ex [] W1 := by
  have i0 : (L ++ lpD l lo0 D)[L.length + 1]? = some (.ob D (.deferred (some []))) := by simp
  have i1 : (L' ++ lpD l lo D)[L'.length]? = some (.ob l (.loop lo)) := by simp
  have i2 : (L' ++ lpD l lo D)[L'.length + 1]? = some (.ob D (.deferred (some []))) := by simp
  exact ⟨rfl, (h.get _ (at_l i1)).2, (h.get _ (at_l i2)).2.trans (h0.get _ i0).2.symm, hR h.init.init⟩
theorem Lv_m {P : Program} {rs : List RV} {R : Ending → World → Prop} {w0 W : World} {L : List Own} {D : Nat} (hS : St w0 (L ++ [.ob D (.deferred (some []))]) W) (h : ∀ W', St w0 L W' → RetK P rs R W') : Lv P rs R [markOf D] .returning W := by
  have hD := hS.get L.length at_r
  have hS3 := hS.set (W' := W.putObj D (.deferred none)) L.length (o' := .ob D (.deferred none)) at_r (grownBy_putObj' W D _) ⟨hD.1, World.putObj_heap_same (Array.getElem?_eq_some_iff.1 hD.2).1⟩ (.inl rfl)
  rw [set_r] at hS3
  exact ⟨hD.2, h _ hS3.init⟩
theorem Lv_mp {P : Program} {rs : List RV} {R : Ending → World → Prop} {w0 W : World} {L : List Own} {D : Nat} {ch : Chain} (hS : St w0 (L ++ [.ob D (.deferred (some []))]) W) (h : ∀ W', St w0 L W' → R (.panicked ch) W') : Lv P rs R [markOf D] (.panicking ch) W := by
  have hD := hS.get L.length at_r
  have hS3 := hS.set (W' := W.putObj D (.deferred none)) L.length (o' := .ob D (.deferred none)) at_r (grownBy_putObj' W D _) ⟨hD.1, World.putObj_heap_same (Array.getElem?_eq_some_iff.1 hD.2).1⟩ (.inl rfl)
  rw [set_r] at hS3
  exact ⟨hD.2, h _ hS3.init⟩
end Go.L
namespace Go.L
open Go Go.RowKit Go.Proofs
set_option linter.unusedSimpArgs false
set_option linter.unusedVariables false

theorem kStoreAR {P : Program} {X : Chain → World → Prop} {w0 w : World} {L : List Own} {t' : TypeId} {k : World → Prop} {b : Nat} {t : TypeId} {cs cs' : Array Value} (hS : St w0 (L ++ [.bx b t cs]) w) (hsz : cs.size = cs'.size) (h1 : cs'.all (·.oneCell') = true) (hs : ∀ w, (sizeOf t').run P w = .ok cs'.size w)
    (h : ∀ W, St w0 (L ++ [.bx b t cs']) W → k W) : kStore ⟨P, X, false⟩ w t' (.pointer (some ⟨b, 0, none⟩)) (.agg cs') k := kStoreA_st hS L.length at_r hsz h1 hs (fun W hS => h W (by rwa [set_r] at hS))
/-- A test that looks and changes nothing. -/
def Tests (w : World) (f : FuncId) (caps : Array Value) (vs : List Value) (p : Nat → Bool) : Prop :=
  (∀ args w, (callFunc f args).run Try.prog w = .ok (.enter f args) w) ∧
  ∀ (i : Nat) (v : Value), vs[i]? = some v → ∀ (W : World) (R : Ending → World → Prop), Below w.heap.size w W → (∀ W', Below W.heap.size W W' → R (.returned (.bool (p i))) W') → Calls Try.prog f (#[v] ++ caps) W R

theorem all55 (rows : List AV) (w : World) (lo : Option Addr) (lc : Nat) (hl : Sl w lo 3 (rows.map vVal)) (hb : rows.length ≤ 1000000) {f : FuncId} {caps : Array Value} {p : AV → Bool} (ht : Tests w f caps (rows.map vVal) (fun i => (rows[i]?.map p).getD false)) (R : Ending → World → Prop)
    (h : ∀ W, Below w.heap.size w W → R (.returned (.bool (rows.all p))) W) : Calls Try.prog 55 #[.slice lo rows.length lc, .func (.func f) #[] caps] w R := by
  refine c55 _ _ _ _ _ _ ?_
  unfold vc55
  refine kBox_st (St.start w) fun b3 W hS => kAlloc_st Try.zeroValue4 hS fun b4 W hS => ?_
  have hS : St w [.bx b3 98 #[.func (.func f) #[] caps], .bx b4 4 #[.bool false]] W := hS
  refine kCall_i (Try.call78 _ _) (values78 _ _ _ _ _ fun bv W6 hB hbv hbox => ?_)
  have hS := hS.push (grown_of_below hB) (o := .bx bv 22 #[.slice lo rows.length lc]) ⟨Nat.le_trans hS.size hbv, hbox⟩ (fun k hk => by cases hk; exact hbv)
  obtain ⟨L, hL⟩ : ∃ L : List Own, L = [.bx b3 98 #[.func (.func f) #[] caps], .bx b4 4 #[.bool false], .bx bv 22 #[.slice lo rows.length lc]] := ⟨_, rfl⟩
  have hS : St w L W6 := by rw [hL]; exact hS
  have hcl : ∀ o ∈ L, o.cl := by rw [hL]; intro o ho; simp at ho; rcases ho with rfl | rfl | rfl <;> trivial
  refine kRange_cl (w0 := w) rows.length (fun i => [(rows.map vVal).getD i undef]) (fun i L' => L' = L ∧ ∀ r ∈ rows.take i, p r = true) (fun ex L' => ex = .ret ∧ L' = L ∧ rows.all p = false) hS.size (fun i L' h => h.1 ▸ hcl) (fun i L' h => h.2.1 ▸ hcl) (fun _ => rfl)
    ⟨L, ⟨rfl, by simp⟩, hS⟩ ?_ (iter112 hbox (by omega) (by rintro i V ⟨L', ⟨rfl, _⟩, hV⟩; exact hl.below hV.below)) ?_ ?_ ?_ ?_
  · rintro i l D lo1 W L' hi hl1 hD ⟨rfl, hall⟩ hW
    have hx : ([(rows.map vVal).getD i undef] : List Value).getD 0 undef = vVal rows[i] := by simp [hi]
    dsimp only
    rw [hx]
    refine kAlloc_st Try.zeroValue49 hW fun b5 W1 hW1 => kStoreAR hW1 rfl (by simp [Value.oneCell']) Try.sizeOf49 fun W2 hW2 => ?_
    have hW2 : St w (L' ++ lpD l lo1 D ++ [.bx b5 49 (vVal rows[i]).cells]) W2 := hW2
    refine rndMid_cl hW hW2 fun lo2 W3 hW3 => ?_
    have e0 : (L' ++ lpD l lo2 D ++ [.bx b5 49 (vVal rows[i]).cells])[0]? = some (.bx b3 98 #[.func (.func f) #[] caps]) := by rw [hL]; rfl
    have e5 : (L' ++ lpD l lo2 D ++ [.bx b5 49 (vVal rows[i]).cells])[5]? = some (.bx b5 49 (vVal rows[i]).cells) := by rw [hL]; rfl
    have e1 : (L' ++ lpD l lo2 D ++ [.bx b5 49 (vVal rows[i]).cells])[1]? = some (.bx b4 4 #[.bool false]) := by rw [hL]; rfl
    refine kLoad_st (c := ⟨Try.prog, _, false⟩) hW3 0 e0 rfl (fun w => Try.isAgg98 w) (kLoadA_st (c := ⟨Try.prog, _, false⟩) hW3 5 e5 Try.underlying49 rfl Try.sizeOf49 rfl ?_)
    refine kCallV_i (ht.1 _ _) (ht.2 i (vVal rows[i]) (by simp [hi]) _ _ hW3.below fun W4 hB4 => ?_)
    have hW4 := hW3.bel hB4
    have hp : (rows[i]?.map p).getD false = p rows[i] := by simp [hi]
    dsimp only
    rw [hp]
    refine kUn_not (kIf_b (fun e => kSt hW4 1 e1 (by simp) rfl rfl rfl fun W5 hW5 => ?_) (fun e => rndEnd_cl hW hW4 fun hV => ⟨L', ⟨rfl, ?_⟩, hV⟩))
    · have hW5 : St w (L' ++ lpD l lo2 D ++ [.bx b5 49 (vVal rows[i]).cells]) W5 := by rw [hL] at hW5 ⊢; exact hW5
      refine rndEnd_cl hW hW5 fun hV => ⟨L', ⟨rfl, rfl, ?_⟩, hV⟩
      rw [List.all_eq_false]
      exact ⟨rows[i], List.getElem_mem hi, by simpa using e⟩
    · intro r hr
      rw [List.take_succ_eq_append_getElem hi] at hr
      rcases List.mem_append.1 hr with hr | hr
      · exact hall r hr
      · simp at hr; subst hr; simpa using e
  · rintro D W L' ⟨rfl, hall⟩ hW
    rw [List.take_length] at hall
    have e1 : (L' ++ [.ob D (.deferred (some []))])[1]? = some (.bx b4 4 #[.bool false]) := by rw [hL]; rfl
    refine kSt hW 1 e1 (by simp) rfl rfl rfl fun W2 hW2 => ?_
    have hW2 : St w ([.bx b3 98 #[.func (.func f) #[] caps], .bx b4 4 #[.bool true], .bx bv 22 #[.slice lo rows.length lc]] ++ [.ob D (.deferred (some []))]) W2 := by rw [hL] at hW2; exact hW2
    refine Lv_m hW2 fun W3 hW3 => RetK_cell rfl (hW3.cell 1 rfl 0 rfl) ?_
    have := h W3 hW3.below
    rwa [List.all_eq_true.2 hall] at this
  · rintro D W L' ⟨_, rfl, hall⟩ hW
    refine Lv_m hW fun W3 hW3 => RetK_cell rfl (hW3.cell 1 (by rw [hL]; rfl) 0 rfl) ?_
    have := h W3 hW3.below
    rwa [hall] at this
  · rintro id D W L' ⟨h, _⟩; cases h
  · rintro id D W L' ⟨h, _⟩; cases h
end Go.L
namespace Go.L
open Go Go.RowKit Go.Proofs
set_option linter.unusedSimpArgs false
set_option linter.unusedVariables false

section
variable {X : Chain → World → Prop} {q : Bool} {w : World} {k : Value → World → Prop}
theorem kLen160 {ty : TypeId} {o : Option Addr} {n cp : Nat} {cs : Array Bool} (h : k (.int .i64 n) w) : kBlt ⟨Try.prog, X, q⟩ w .len #[160] ty cs #[.slice o n cp] k := kLen_sl (c := ⟨Try.prog, X, q⟩) Try.underlying160 h
theorem kIa160 {b o n cp : Nat} {i : Nat} (hi : i < n) (h : k (.pointer (some ⟨b, o + i * 1, none⟩)) w) : kIa ⟨Try.prog, X, q⟩ w 160 (.slice (some ⟨b, o, none⟩) n cp) (.int .i64 i) k :=
  kIa_sl (c := ⟨Try.prog, X, q⟩) Try.underlying160 Try.sizeOf142 hi h
end
theorem iter133 {rows : List Int} {w : World} {b : Nat} {a : Option Addr} {cp : Nat} (hbox : w.heap[b]? = some (.cells #[.slice a rows.length cp] 24 (0, 0))) (hlen : rows.length ≤ 4611686018427387904) {J : Nat → World → Prop}
    (hJ : ∀ i W, J i W → Sl W a 1 (rows.map vInt)) : Iter Try.prog (.func (.func 133) #[] #[.pointer (some ⟨b, 0, none⟩)]) rows.length (fun i => [(rows.map vInt).getD i undef].toArray) J w := by
  refine ⟨133, #[.pointer (some ⟨b, 0, none⟩)], rfl, Try.call133, ?_⟩
  intro l J' Z' W hB hsJ hsZ hJ' hy h0
  show Calls Try.prog 133 #[.func (.yield l) #[] #[], .pointer (some ⟨b, 0, none⟩)] W _
  refine c133 _ _ _ _ ?_
  unfold vc133
  have hbl : b < w.heap.size := (Array.getElem?_eq_some_iff.1 hbox).1
  have hcell : W.cell? ⟨b, 0, none⟩ = some (.slice a rows.length cp) := by
    rw [cell_of_row W b 0 #[.slice a rows.length cp] 24 (0, 0) (by rw [hB.block b hbl]; exact hbox)]; rfl
  refine kLoad_cell (c := ⟨Try.prog, _, false⟩) (fun w => Try.isAgg24 w) hcell (kLen24 ⟨⟨fun cs V => ∃ i : Nat, cs = [.int .i64 i] ∧ i ≤ rows.length ∧ J' i V, fun cs _ => rows.length - (match cs with | [.int _ i] => i.toNat | _ => 0), ⟨0, rfl, Nat.zero_le _, h0⟩, ?_⟩⟩)
  rintro cs ds V ⟨i, rfl, hile, hJi⟩
  dsimp only [List.getD_cons_zero]
  refine kBin_lss (kIf_d (fun e => ?_) (fun e => ?_))
  · have hil : i < rows.length := by omega
    obtain ⟨pb, po, rfl, hpb, hpr⟩ := (hJ i V (hJ' i V hJi)).elem (i := i) (v := vInt rows[i]) (by simp [hil])
    have hpc : V.cell? ⟨pb, po + i * 1, none⟩ = some (.int .i64 rows[i]) := hpr 0 _ rfl
    refine kIa24 hil (kLoad_cell (c := ⟨Try.prog, _, false⟩) (fun w => Try.isAgg27 w) hpc ?_)
    have hx : ([(rows.map vInt).getD i undef] : List Value).toArray = #[vInt rows[i]] := by simp [hil]
    have hyy := hy i V hil hJi
    dsimp only at hyy
    rw [hx] at hyy
    refine kCallV_y hyy ?_
    intro en W' hen
    cases en with
    | outgrown => exact hen.elim
    | panicked ch => exact hen
    | returned v =>
      rcases hen with ⟨rfl, hj⟩ | ⟨rfl, hz⟩
      · refine kUn_not (kIf_f (kBin_add (kD_i ⟨⟨i + 1, by rw [wrap_id (by omega) (by omega)]; rfl, hil, hj⟩, ?_⟩)))
        rw [wrap_id (by omega) (by omega)]; show rows.length - ((i : Int) + 1).toNat < rows.length - (i : Int).toNat; omega
      · exact kUn_not (kIf_t (.inr hz))
  · have : i = rows.length := by omega
    subst this
    exact .inl hJi

theorem values121 (a : Option Addr) (n cp : Nat) (w : World) (R : Ending → World → Prop) (h : ∀ b W, Below w.heap.size w W → w.heap.size ≤ b → W.heap[b]? = some (.cells #[.slice a n cp] 24 (0, 0)) → R (.returned (.func (.func 133) #[] #[.pointer (some ⟨b, 0, none⟩)])) W) :
    Calls Try.prog 121 #[.slice a n cp] w R := by
  refine c121 _ _ _ _ _ ?_
  unfold vc121
  refine kBox_st (St.start w) fun b W hS => h b W hS.below (hS.get 0 rfl).1 (hS.get 0 rfl).2
theorem iter141 {rows : List Int} {w : World} {b : Nat} {a : Option Addr} {cp : Nat} (hbox : w.heap[b]? = some (.cells #[.slice a rows.length cp] 160 (0, 0))) (hlen : rows.length ≤ 4611686018427387904) {J : Nat → World → Prop}
    (hJ : ∀ i W, J i W → Sl W a 1 (rows.map vInt)) : Iter Try.prog (.func (.func 141) #[] #[.pointer (some ⟨b, 0, none⟩)]) rows.length (fun i => [(rows.map vInt).getD i undef].toArray) J w := by
  refine ⟨141, #[.pointer (some ⟨b, 0, none⟩)], rfl, Try.call141, ?_⟩
  intro l J' Z' W hB hsJ hsZ hJ' hy h0
  show Calls Try.prog 141 #[.func (.yield l) #[] #[], .pointer (some ⟨b, 0, none⟩)] W _
  refine c141 _ _ _ _ ?_
  unfold vc141
  have hbl : b < w.heap.size := (Array.getElem?_eq_some_iff.1 hbox).1
  have hcell : W.cell? ⟨b, 0, none⟩ = some (.slice a rows.length cp) := by
    rw [cell_of_row W b 0 #[.slice a rows.length cp] 160 (0, 0) (by rw [hB.block b hbl]; exact hbox)]; rfl
  refine kLoad_cell (c := ⟨Try.prog, _, false⟩) (fun w => Try.isAgg160 w) hcell (kLen160 ⟨⟨fun cs V => ∃ i : Nat, cs = [.int .i64 i] ∧ i ≤ rows.length ∧ J' i V, fun cs _ => rows.length - (match cs with | [.int _ i] => i.toNat | _ => 0), ⟨0, rfl, Nat.zero_le _, h0⟩, ?_⟩⟩)
  rintro cs ds V ⟨i, rfl, hile, hJi⟩
  dsimp only [List.getD_cons_zero]
  refine kBin_lss (kIf_d (fun e => ?_) (fun e => ?_))
  · have hil : i < rows.length := by omega
    obtain ⟨pb, po, rfl, hpb, hpr⟩ := (hJ i V (hJ' i V hJi)).elem (i := i) (v := vInt rows[i]) (by simp [hil])
    have hpc : V.cell? ⟨pb, po + i * 1, none⟩ = some (.int .i64 rows[i]) := hpr 0 _ rfl
    refine kIa160 hil (kLoad_cell (c := ⟨Try.prog, _, false⟩) (fun w => Try.isAgg142 w) hpc ?_)
    have hx : ([(rows.map vInt).getD i undef] : List Value).toArray = #[vInt rows[i]] := by simp [hil]
    have hyy := hy i V hil hJi
    dsimp only at hyy
    rw [hx] at hyy
    refine kCallV_y hyy ?_
    intro en W' hen
    cases en with
    | outgrown => exact hen.elim
    | panicked ch => exact hen
    | returned v =>
      rcases hen with ⟨rfl, hj⟩ | ⟨rfl, hz⟩
      · refine kUn_not (kIf_f (kBin_add (kD_i ⟨⟨i + 1, by rw [wrap_id (by omega) (by omega)]; rfl, hil, hj⟩, ?_⟩)))
        rw [wrap_id (by omega) (by omega)]; show rows.length - ((i : Int) + 1).toNat < rows.length - (i : Int).toNat; omega
      · exact kUn_not (kIf_t (.inr hz))
  · have : i = rows.length := by omega
    subst this
    exact .inl hJi

theorem values134 (a : Option Addr) (n cp : Nat) (w : World) (R : Ending → World → Prop) (h : ∀ b W, Below w.heap.size w W → w.heap.size ≤ b → W.heap[b]? = some (.cells #[.slice a n cp] 160 (0, 0)) → R (.returned (.func (.func 141) #[] #[.pointer (some ⟨b, 0, none⟩)])) W) :
    Calls Try.prog 134 #[.slice a n cp] w R := by
  refine c134 _ _ _ _ _ ?_
  unfold vc134
  refine kBox_st (St.start w) fun b W hS => h b W hS.below (hS.get 0 rfl).1 (hS.get 0 rfl).2
theorem all90 (rows : List Int) (w : World) (lo : Option Addr) (lc : Nat) (hl : Sl w lo 1 (rows.map vInt)) (hb : rows.length ≤ 1000000) {f : FuncId} {caps : Array Value} {p : Int → Bool} (ht : Tests w f caps (rows.map vInt) (fun i => (rows[i]?.map p).getD false)) (R : Ending → World → Prop)
    (h : ∀ W, Below w.heap.size w W → R (.returned (.bool (rows.all p))) W) : Calls Try.prog 90 #[.slice lo rows.length lc, .func (.func f) #[] caps] w R := by
  refine c90 _ _ _ _ _ _ ?_
  unfold vc90
  refine kBox_st (St.start w) fun b3 W hS => kAlloc_st Try.zeroValue4 hS fun b4 W hS => ?_
  have hS : St w [.bx b3 140 #[.func (.func f) #[] caps], .bx b4 4 #[.bool false]] W := hS
  refine kCall_i (Try.call121 _ _) (values121 _ _ _ _ _ fun bv W6 hB hbv hbox => ?_)
  have hS := hS.push (grown_of_below hB) (o := .bx bv 24 #[.slice lo rows.length lc]) ⟨Nat.le_trans hS.size hbv, hbox⟩ (fun k hk => by cases hk; exact hbv)
  obtain ⟨L, hL⟩ : ∃ L : List Own, L = [.bx b3 140 #[.func (.func f) #[] caps], .bx b4 4 #[.bool false], .bx bv 24 #[.slice lo rows.length lc]] := ⟨_, rfl⟩
  have hS : St w L W6 := by rw [hL]; exact hS
  have hcl : ∀ o ∈ L, o.cl := by rw [hL]; intro o ho; simp at ho; rcases ho with rfl | rfl | rfl <;> trivial
  refine kRange_cl (w0 := w) rows.length (fun i => [(rows.map vInt).getD i undef]) (fun i L' => L' = L ∧ ∀ r ∈ rows.take i, p r = true) (fun ex L' => ex = .ret ∧ L' = L ∧ rows.all p = false) hS.size (fun i L' h => h.1 ▸ hcl) (fun i L' h => h.2.1 ▸ hcl) (fun _ => rfl)
    ⟨L, ⟨rfl, by simp⟩, hS⟩ ?_ (iter133 hbox (by omega) (by rintro i V ⟨L', ⟨rfl, _⟩, hV⟩; exact hl.below hV.below)) ?_ ?_ ?_ ?_
  · rintro i l D lo1 W L' hi hl1 hD ⟨rfl, hall⟩ hW
    have hx : ([(rows.map vInt).getD i undef] : List Value).getD 0 undef = vInt rows[i] := by simp [hi]
    dsimp only
    rw [hx]
    have hW2 : St w (L' ++ lpD l lo1 D ++ []) W := by rw [List.append_nil]; exact hW
    refine rndMid_cl hW hW2 fun lo2 W3 hW3 => ?_
    have e0 : (L' ++ lpD l lo2 D ++ [])[0]? = some (.bx b3 140 #[.func (.func f) #[] caps]) := by rw [hL]; rfl
    have e1 : (L' ++ lpD l lo2 D ++ [])[1]? = some (.bx b4 4 #[.bool false]) := by rw [hL]; rfl
    refine kLoad_st (c := ⟨Try.prog, _, false⟩) hW3 0 e0 rfl (fun w => Try.isAgg140 w) ?_
    refine kCallV_i (ht.1 _ _) (ht.2 i (vInt rows[i]) (by simp [hi]) _ _ hW3.below fun W4 hB4 => ?_)
    have hW4 := hW3.bel hB4
    have hp : (rows[i]?.map p).getD false = p rows[i] := by simp [hi]
    dsimp only
    rw [hp]
    refine kUn_not (kIf_b (fun e => kSt hW4 1 e1 (by simp) rfl rfl rfl fun W5 hW5 => ?_) (fun e => rndEnd_cl hW hW4 fun hV => ⟨L', ⟨rfl, ?_⟩, hV⟩))
    · have hW5 : St w (L' ++ lpD l lo2 D ++ []) W5 := by rw [hL] at hW5 ⊢; exact hW5
      refine rndEnd_cl hW hW5 fun hV => ⟨L', ⟨rfl, rfl, ?_⟩, hV⟩
      rw [List.all_eq_false]
      exact ⟨rows[i], List.getElem_mem hi, by simpa using e⟩
    · intro r hr
      rw [List.take_succ_eq_append_getElem hi] at hr
      rcases List.mem_append.1 hr with hr | hr
      · exact hall r hr
      · simp at hr; subst hr; simpa using e
  · rintro D W L' ⟨rfl, hall⟩ hW
    rw [List.take_length] at hall
    have e1 : (L' ++ [.ob D (.deferred (some []))])[1]? = some (.bx b4 4 #[.bool false]) := by rw [hL]; rfl
    refine kSt hW 1 e1 (by simp) rfl rfl rfl fun W2 hW2 => ?_
    have hW2 : St w ([.bx b3 140 #[.func (.func f) #[] caps], .bx b4 4 #[.bool true], .bx bv 24 #[.slice lo rows.length lc]] ++ [.ob D (.deferred (some []))]) W2 := by rw [hL] at hW2; exact hW2
    refine Lv_m hW2 fun W3 hW3 => RetK_cell rfl (hW3.cell 1 rfl 0 rfl) ?_
    have := h W3 hW3.below
    rwa [List.all_eq_true.2 hall] at this
  · rintro D W L' ⟨_, rfl, hall⟩ hW
    refine Lv_m hW fun W3 hW3 => RetK_cell rfl (hW3.cell 1 (by rw [hL]; rfl) 0 rfl) ?_
    have := h W3 hW3.below
    rwa [hall] at this
  · rintro id D W L' ⟨h, _⟩; cases h
  · rintro id D W L' ⟨h, _⟩; cases h
end Go.L
namespace Go.L
open Go Go.RowKit Go.Proofs
set_option linter.unusedSimpArgs false
set_option linter.unusedVariables false

theorem folded122 (l : List Int) (a0 : Int) (w : World) (lo : Option Addr) (lc : Nat) (hl : Sl w lo 1 (l.map vInt)) (hb : l.length ≤ 1000000) {f : FuncId} {caps : Array Value} {g : Int → Int → Int} (hcall : ∀ args w, (callFunc f args).run Try.prog w = .ok (.enter f args) w)
    (ht : ∀ (a x : Int) (W : World) (R : Ending → World → Prop), Below w.heap.size w W → (∀ W', Below W.heap.size W W' → R (.returned (.int .i64 (g a x))) W') → Calls Try.prog f (#[.int .i64 a, .int .i64 x] ++ caps) W R) (R : Ending → World → Prop)
    (h : ∀ W, Below w.heap.size w W → R (.returned (.int .i64 (l.foldl g a0))) W) : Calls Try.prog 122 #[.int .i64 a0, .func (.func f) #[] caps, .slice lo l.length lc] w R := by
  refine c122 _ _ _ _ _ _ _ ?_
  unfold vc122
  refine kBox_st (St.start w) fun b3 W hS => kBox_st hS fun b4 W hS => ?_
  have hS : St w [.bx b3 142 #[.int .i64 a0], .bx b4 162 #[.func (.func f) #[] caps]] W := hS
  refine kCall_i (Try.call134 _ _) (values134 _ _ _ _ _ fun bv W6 hB hbv hbox => ?_)
  have hS := hS.push (grown_of_below hB) (o := .bx bv 160 #[.slice lo l.length lc]) ⟨Nat.le_trans hS.size hbv, hbox⟩ (fun k hk => by cases hk; exact hbv)
  obtain ⟨L, hL⟩ : ∃ L : Int → List Own, L = fun z => [.bx b3 142 #[.int .i64 z], .bx b4 162 #[.func (.func f) #[] caps], .bx bv 160 #[.slice lo l.length lc]] := ⟨_, rfl⟩
  have hS : St w (L a0) W6 := by rw [hL]; exact hS
  have hcl : ∀ z, ∀ o ∈ L z, o.cl := by rw [hL]; intro z o ho; simp at ho; rcases ho with rfl | rfl | rfl <;> trivial
  refine kRange_cl (w0 := w) l.length (fun i => [(l.map vInt).getD i undef]) (fun i L' => L' = L ((l.take i).foldl g a0)) (fun ex L' => False) hS.size (fun i L' h => h ▸ hcl _) (fun i L' h => h.elim) (fun _ => rfl)
    ⟨_, rfl, hS⟩ ?_ (iter141 hbox (by omega) (by rintro i V ⟨L', rfl, hV⟩; exact hl.below hV.below)) ?_ ?_ ?_ ?_
  · rintro i lp D lo1 W L' hi hl1 hD rfl hW
    have hx : ([(l.map vInt).getD i undef] : List Value).getD 0 undef = vInt l[i] := by simp [hi]
    dsimp only
    rw [hx]
    have hW2 : St w (L ((l.take i).foldl g a0) ++ lpD lp lo1 D ++ []) W := by rw [List.append_nil]; exact hW
    refine rndMid_cl hW hW2 fun lo2 W3 hW3 => ?_
    have e0 : (L ((l.take i).foldl g a0) ++ lpD lp lo2 D ++ [])[0]? = some (.bx b3 142 #[.int .i64 ((l.take i).foldl g a0)]) := by rw [hL]; rfl
    have e1 : (L ((l.take i).foldl g a0) ++ lpD lp lo2 D ++ [])[1]? = some (.bx b4 162 #[.func (.func f) #[] caps]) := by rw [hL]; rfl
    refine kLoad_st (c := ⟨Try.prog, _, false⟩) hW3 1 e1 rfl (fun w => Try.isAgg162 w) (kLoad_st (c := ⟨Try.prog, _, false⟩) hW3 0 e0 rfl (fun w => Try.isAgg142 w) ?_)
    refine kCallV_i (hcall _ _) (ht _ l[i] _ _ hW3.below fun W4 hB4 => ?_)
    have hW4 := hW3.bel hB4
    refine kStore_st hW4 0 e0 (by simp) rfl rfl (fun w => Try.sizeOf142 w) fun W5 hW5 => ?_
    have hW5 : St w (L (g ((l.take i).foldl g a0) l[i]) ++ lpD lp lo2 D ++ []) W5 := by rw [hL] at hW5 ⊢; exact hW5
    refine rndEnd_cl hW hW5 fun hV => ⟨_, ?_, hV⟩
    rw [List.take_succ_eq_append_getElem hi, List.foldl_append]; rfl
  · rintro D W L' rfl hW
    rw [List.take_length] at hW
    have e0 : (L (l.foldl g a0) ++ [.ob D (.deferred (some []))])[0]? = some (.bx b3 142 #[.int .i64 (l.foldl g a0)]) := by rw [hL]; rfl
    refine kLoad_st (c := ⟨Try.prog, _, false⟩) hW 0 e0 rfl (fun w => Try.isAgg142 w) ?_
    exact Lv_m hW fun W3 hW3 => h W3 hW3.below
  · rintro D W L' h hW; exact h.elim
  · rintro id D W L' h; exact h.elim
  · rintro id D W L' h; exact h.elim
theorem And1_123 (a b : Int) (w : World) (R : Ending → World → Prop) (h : R (.returned (.int .i64 (andT a b))) w) : Calls Try.prog 123 #[.int .i64 a, .int .i64 b] w R := by
  refine c123 _ _ _ _ ?_
  unfold vc123
  refine kJn_inv (fun cs V => V = w ∧ a ≠ 0 ∧ b ≠ 0) ?_ ?_
  · rintro cs V ⟨rfl, h1, h2⟩ ds
    refine kEq_int (kIf_eq (fun e1 => kEq_int (kIf_eq (fun e2 => ?_) (fun e2 => ?_))) (fun e1 => kIf_f ?_))
    all_goals exact ret_int h (by unfold andT; grind)
  · intro J hJ
    refine kEq_int (kIf_eq (fun e1 => kIf_t ?_) (fun e1 => kEq_int (kIf_eq (fun e2 => ?_) (fun e2 => kD_i (hJ _ _ ⟨rfl, e1, e2⟩)))))
    all_goals exact ret_int h (by unfold andT; grind)
theorem And95 (l : List Int) (w : World) (lo : Option Addr) (lc : Nat) (hl : Sl w lo 1 (l.map vInt)) (hb : l.length ≤ 1000000) (R : Ending → World → Prop)
    (h : ∀ W, Below w.heap.size w W → R (.returned (.int .i64 (l.foldl andT 1))) W) : Calls Try.prog 95 #[.slice lo l.length lc] w R := by
  refine c95 _ _ _ _ _ ?_
  unfold vc95
  exact kCall_i (Try.call122 _ _) (folded122 l 1 w lo lc hl hb (caps := #[]) Try.call123 (fun a x W R _ h => And1_123 a x W R (h W (Below.refl _ _))) _ h)
theorem E160 (w : World) : Elt Try.prog 160 142 1 8 := ⟨Try.underlying160, ⟨Try.t142, _, info_of (Try.typeInfo142 w), rfl, rfl, rfl, rfl⟩, by omega, by omega⟩
theorem Or1_124 (a b : Int) (w : World) (R : Ending → World → Prop) (h : ∀ W, Below w.heap.size w W → R (.returned (.int .i64 (andT (andT 1 a) (notT b)))) W) : Calls Try.prog 124 #[.int .i64 a, .int .i64 b] w R := by
  refine c124 _ _ _ _ ?_
  unfold vc124
  refine kCall_i (Try.call97 _ _) (Not97 _ _ _ (kBS (E160 w) (St.start w) [vInt a, vInt (notT b)] rfl rfl (by omega) (by omega) (by simp [vInt, Value.cells]) fun x cp W hS hl => ?_))
  exact kCall_i (Try.call95 _ _) (And95 [a, notT b] W x cp hl (by simp) _ fun W' hB => h W' (hS.bel hB).below)
theorem Or96 (l : List Int) (w : World) (lo : Option Addr) (lc : Nat) (hl : Sl w lo 1 (l.map vInt)) (hb : l.length ≤ 1000000) (R : Ending → World → Prop)
    (h : ∀ W, Below w.heap.size w W → R (.returned (.int .i64 (notT (l.foldl (fun a b => andT (andT 1 a) (notT b)) 1)))) W) : Calls Try.prog 96 #[.slice lo l.length lc] w R := by
  refine c96 _ _ _ _ _ ?_
  unfold vc96
  exact kCall_i (Try.call122 _ _) (folded122 l 1 w lo lc hl hb (caps := #[]) Try.call124 (fun a x W R _ h => Or1_124 a x W R h) _ fun W hB => kCall_i (Try.call97 _ _) (Not97 _ _ _ (h W hB)))
end Go.L
namespace Go.L
open Go Go.RowKit Go.Proofs
set_option linter.unusedSimpArgs false
set_option linter.unusedVariables false

theorem nan135 (x : Int) (w : World) (R : Ending → World → Prop) (h : R (.returned (.bool false)) w) : Calls Try.prog 135 #[.int .i64 x] w R := by
  refine c135 _ _ _ ?_
  unfold vc135
  exact kNe_int (ret_bool h (by simp))
theorem nan136 (x : Int) (w : World) (R : Ending → World → Prop) (h : R (.returned (.bool false)) w) : Calls Try.prog 136 #[.int .i64 x] w R := by
  refine c136 _ _ _ ?_
  unfold vc136
  exact kNe_int (ret_bool h (by simp))
theorem nan137 (x : ByteArray) (w : World) (R : Ending → World → Prop) (h : R (.returned (.bool false)) w) : Calls Try.prog 137 #[.string x] w R := by
  refine c137 _ _ _ ?_
  unfold vc137
  exact kNe_str (ret_bool h (by simp))
theorem Compare126 (x y : Int) (w : World) (R : Ending → World → Prop) (h : R (.returned (.int .i64 (ordN x y))) w) : Calls Try.prog 126 #[.int .i64 x, .int .i64 y] w R := by
  refine c126 _ _ _ _ ?_
  unfold vc126
  refine kCall_i (Try.call135 _ _) (nan135 _ _ _ (kCall_i (Try.call135 _ _) (nan135 _ _ _ ?_)))
  refine kIf_f (kIf_f (kBin_lss (kIf_d (fun e => ?_) (fun e => kBin_gtr (kIf_d (fun e2 => ?_) (fun e2 => ?_))))))
  all_goals exact ret_int h (by simp [ordN, *])
theorem Compare127 (x y : Int) (w : World) (R : Ending → World → Prop) (h : R (.returned (.int .i64 (ordN x y))) w) : Calls Try.prog 127 #[.int .i64 x, .int .i64 y] w R := by
  refine c127 _ _ _ _ ?_
  unfold vc127
  refine kCall_i (Try.call136 _ _) (nan136 _ _ _ (kCall_i (Try.call136 _ _) (nan136 _ _ _ ?_)))
  refine kIf_f (kIf_f (kBin_lss (kIf_d (fun e => ?_) (fun e => kBin_gtr (kIf_d (fun e2 => ?_) (fun e2 => ?_))))))
  all_goals exact ret_int h (by simp [ordN, *])
theorem Compare128 (x y : ByteArray) (w : World) (R : Ending → World → Prop) (h : R (.returned (.int .i64 (ordS x y))) w) : Calls Try.prog 128 #[.string x, .string y] w R := by
  refine c128 _ _ _ _ ?_
  unfold vc128
  refine kCall_i (Try.call137 _ _) (nan137 _ _ _ (kCall_i (Try.call137 _ _) (nan137 _ _ _ ?_)))
  refine kIf_f (kIf_f (kLss_str (kIf_b (fun e => ?_) (fun e => kGtr_str (kIf_b (fun e2 => ?_) (fun e2 => ?_))))))
  · exact ret_int h (by simp [ordS, e])
  · exact ret_int h (by unfold ordS; rw [if_neg (by simp; exact e), if_pos (by simpa using e2)])
  · exact ret_int h (by
      unfold ordS; rw [if_neg (by simp; exact e), if_neg (by
        intro hc
        simp only [Bool.not_eq_false', Bool.or_eq_true, decide_eq_true_eq] at e2
        exact hc e2)])
def firstNZ : List Int → Int
  | [] => 0
  | x :: l => if x ≠ 0 then x else firstNZ l
theorem firstNZ_drop (l : List Int) : ∀ i, (∀ x ∈ l.take i, x = 0) → firstNZ l = firstNZ (l.drop i) := by
  induction l with
  | nil => intro i _; simp
  | cons a l ih =>
    intro i h
    cases i with
    | zero => rfl
    | succ i =>
      have ha : a = 0 := h a (by simp)
      rw [List.drop_succ_cons, ← ih i (fun x hx => h x (by simp [hx]))]
      simp [firstNZ, ha]
theorem Or125 (l : List Int) (w : World) (lo : Option Addr) (lc : Nat) (hl : Sl w lo 1 (l.map vInt)) (hb : l.length ≤ 1000000) (R : Ending → World → Prop) (h : R (.returned (.int .i64 (firstNZ l))) w) : Calls Try.prog 125 #[.slice lo l.length lc] w R := by
  refine c125 _ _ _ _ _ ?_
  unfold vc125
  refine kLen23 ⟨⟨fun cs V => ∃ i : Nat, cs = [.int .i64 i] ∧ i ≤ l.length ∧ (∀ x ∈ l.take i, x = 0) ∧ V = w, fun cs _ => l.length - (match cs with | [.int _ i] => i.toNat | _ => 0), ⟨0, rfl, Nat.zero_le _, by simp, rfl⟩, ?_⟩⟩
  rintro cs ds V ⟨i, rfl, hile, hz, rfl⟩
  dsimp only [List.getD_cons_zero]
  refine kBin_lss (kIf_d (fun e => ?_) (fun e => ?_))
  · have hil : i < l.length := by omega
    obtain ⟨pb, po, rfl, hpb, hpr⟩ := hl.elem (i := i) (v := vInt l[i]) (by simp [hil])
    have hd := firstNZ_drop l i hz
    rw [List.drop_eq_getElem_cons hil] at hd
    refine kIa23 hil (kLdS rfl (hpr 0 (.int .i64 l[i]) rfl) (kNe_int (kIf_ne (fun e1 => ?_) (fun e1 => ?_))))
    · exact ret_int h (by rw [hd]; simp [firstNZ, e1])
    · refine kBin_add (kD_i ⟨⟨i + 1, by rw [wrap_id (by omega) (by omega)]; rfl, hil, ?_, rfl⟩, ?_⟩)
      · intro r hr
        rw [List.take_succ_eq_append_getElem hil] at hr
        rcases List.mem_append.1 hr with hr | hr
        · exact hz r hr
        · simp at hr; subst hr; exact e1
      · rw [wrap_id (by omega) (by omega)]; show l.length - ((i : Int) + 1).toNat < l.length - (i : Int).toNat; omega
  · have : i = l.length := by omega
    subst this
    exact ret_int h (by rw [firstNZ_drop l _ hz]; simp [firstNZ])
theorem Order98 (a b : AV) (w : World) (R : Ending → World → Prop) (h : ∀ W, Below w.heap.size w W → R (.returned (.int .i64 (ordV a b))) W) : Calls Try.prog 98 #[vVal a, vVal b] w R := by
  refine c98 _ _ _ _ _ _ _ _ ?_
  unfold vc98
  refine kBox_st (St.start w) fun b1 W hS => kBox_st hS fun b2 W hS => ?_
  have hS : St w [.bx b1 49 (vVal a).cells, .bx b2 49 (vVal b).cells] W := hS
  refine kDrawn_i (kDrawn_i (kFa49 0 (by omega) (kLd hS 0 rfl rfl rfl (kFa49 0 (by omega) (kLd hS 1 rfl rfl rfl (kFa49 1 (by omega) (kLd hS 0 rfl rfl rfl (kFa49 1 (by omega) (kLd hS 1 rfl rfl rfl (kFa49 2 (by omega) (kLd hS 0 rfl rfl rfl (kFa49 2 (by omega) (kLd hS 1 rfl rfl rfl (kDrew_st hS fun W hS => ?_))))))))))))))
  refine kCall_i (Try.call126 _ _) (Compare126 _ _ _ _ ?_)
  refine kFa49 1 (by omega) (kSame_i (kLd hS 0 rfl rfl rfl (kSame_i (kFa49 1 (by omega) (kSame_i (kLd hS 1 rfl rfl rfl (kSame_i (kFa49 2 (by omega) (kSame_i (kLd hS 0 rfl rfl rfl (kSame_i (kFa49 2 (by omega) (kSame_i (kLd hS 1 rfl rfl rfl (kSame_i (kDrew_st hS fun W hS => ?_))))))))))))))))
  refine kCall_i (Try.call127 _ _) (Compare127 _ _ _ _ ?_)
  refine kFa49 2 (by omega) (kSame_i (kLd hS 0 rfl rfl rfl (kSame_i (kFa49 2 (by omega) (kSame_i (kLd hS 1 rfl rfl rfl (kSame_i (kDrew_st hS fun W hS => ?_))))))))
  refine kCall_i (Try.call128 _ _) (Compare128 _ _ _ _ (kDrew_st hS fun W hS => ?_))
  refine kBS (E23 W) hS [vInt (ordN a.1 b.1), vInt (ordN a.2.1 b.2.1), vInt (ordS a.2.2 b.2.2)] rfl rfl (by omega) (by omega) (by simp [vInt, Value.cells]) fun x cp W hS hl => ⟨fun m => ?_⟩
  have hl2 := hl.drewN m
  have hS2 := hS.drewN m
  generalize W.drewN m = W2 at hl2 hS2 ⊢
  refine kCall_i (Try.call125 _ _) (Or125 [ordN a.1 b.1, ordN a.2.1 b.2.1, ordS a.2.2 b.2.2] W2 x cp hl2 (by simp) _ (kDrew_st hS2 fun W hS => ?_))
  have := h W hS.below
  have e : firstNZ [ordN a.1 b.1, ordN a.2.1 b.2.1, ordS a.2.2 b.2.2] = ordV a b := by
    simp only [firstNZ, ordV]
    by_cases h1 : ordN a.1 b.1 ≠ 0 <;> by_cases h2 : ordN a.2.1 b.2.1 ≠ 0 <;> by_cases h3 : ordS a.2.2 b.2.2 ≠ 0 <;> simp_all
  rw [e]; exact this
end Go.L
namespace Go.L
open Go Go.RowKit Go.Proofs
set_option linter.unusedSimpArgs false
set_option linter.unusedVariables false

def sVal (a b : AV) (o : Int) : Value := .agg #[.int .i64 a.1, .int .i64 a.2.1, .string a.2.2, .int .i64 b.1, .int .i64 b.2.1, .string b.2.2, .int .i64 o]
def sCells (a b : AV) (o : Int) : Array Value := #[.int .i64 a.1, .int .i64 a.2.1, .string a.2.2, .int .i64 b.1, .int .i64 b.2.1, .string b.2.2, .int .i64 o]
theorem kFa103_0 {X : Chain → World → Prop} {q : Bool} {w : World} {b o : Nat} {k : Value → World → Prop} (h : k (.pointer (some ⟨b, o, none⟩)) w) : kFa ⟨Try.prog, X, q⟩ w 103 (.pointer (some ⟨b, o, none⟩)) 0 k :=
  kFa_i (c := ⟨Try.prog, X, q⟩) Try.underlying103 rfl (n := 5) Try.sizeOf101 h
theorem kFa103_1 {X : Chain → World → Prop} {q : Bool} {w : World} {b o : Nat} {k : Value → World → Prop} (h : k (.pointer (some ⟨b, o + 6, none⟩)) w) : kFa ⟨Try.prog, X, q⟩ w 103 (.pointer (some ⟨b, o, none⟩)) 1 k :=
  kFa_i (c := ⟨Try.prog, X, q⟩) Try.underlying103 rfl (n := 0) Try.sizeOf53 h
theorem kIx_i {c : Cx} {w : World} {t : TypeId} {x i v : Value} {k : Value → World → Prop} (hr : ∀ w, (Instr.index t x i).run c.P w = .ok v w) (h : k v w) : kIx c w t x i k := ⟨kVal_pure hr h⟩
theorem ix147 (b0 b1 b2 b3 b4 b5 : Bool) (w : World) : ∀ k : Nat, k < 6 → (Instr.index 147 (.agg #[.bool b0, .bool b1, .bool b2, .bool b3, .bool b4, .bool b5]) (.int .i64 k)).run Try.prog w = .ok (.bool ([b0, b1, b2, b3, b4, b5].getD k false)) w
  | 0, _ => by kernel_rfl
  | 1, _ => by kernel_rfl
  | 2, _ => by kernel_rfl
  | 3, _ => by kernel_rfl
  | 4, _ => by kernel_rfl
  | 5, _ => by kernel_rfl
  | n + 6, h => absurd h (by omega)
theorem built147 (b0 b1 b2 b3 b4 b5 : Bool) : Try.prog.built 147 [(0, .bool b0), (1, .bool b1), (2, .bool b2), (3, .bool b3), (4, .bool b4), (5, .bool b5)] = some #[.bool b0, .bool b1, .bool b2, .bool b3, .bool b4, .bool b5] := by kernel_rfl
theorem ordered62 (a b : AV) (o : Int) (h7 : 7 ≤ o) (h12 : o ≤ 12) (w : World) (R : Ending → World → Prop) (h : RetV w (boolV (truthO o (ordV a b))) R) : Calls Try.prog 62 #[sVal a b o] w R := by
  refine c62 _ _ _ _ _ _ _ _ _ ?_
  unfold vc62
  refine kBox_st (St.start w) fun p W hS => kAlloc_st Try.zeroValue49 hS fun r W hS => ?_
  have hS : St w [.bx p 103 (sCells a b o), .bx r 49 #[.int .i64 0, .int .i64 0, .string ⟨#[]⟩]] W := hS
  refine kFa103_0 (kFa101 0 (by omega) (kLdV hS 0 rfl rfl rfl rfl (kFa103_0 (kFa101 1 (by omega) (kLdV hS 0 rfl rfl rfl rfl (kCall_i (Try.call98 _ _) (Order98 a b _ _ fun W hB => ?_)))))))
  have hS := hS.bel hB
  refine kEq_int (kNe_int (kBin_lss (kBin_leq (kBin_gtr (kBin_geq (kBuild_i (built147 _ _ _ _ _ _) (kFa103_1 (kLoad_st (c := ⟨Try.prog, _, false⟩) hS 0 rfl rfl (fun w => Try.isAgg53 w) (kBin_sub ?_)))))))))
  rw [wrap_id (by omega) (by omega)]
  obtain ⟨k, rfl⟩ : ∃ k : Nat, o = (k : Int) + 7 := ⟨(o - 7).toNat, by omega⟩
  rw [show ((k : Int) + 7 - 7) = (k : Int) by omega]
  refine kIx_i (fun w => ix147 _ _ _ _ _ _ w k (by omega)) ?_
  have e : [ordV a b == 0, ordV a b != 0, decide (ordV a b < 0), decide (ordV a b ≤ 0), decide (ordV a b > 0), decide (ordV a b ≥ 0)].getD k false = truthO ((k : Int) + 7) (ordV a b) := by
    have : k = 0 ∨ k = 1 ∨ k = 2 ∨ k = 3 ∨ k = 4 ∨ k = 5 := by omega
    rcases this with rfl | rfl | rfl | rfl | rfl | rfl <;> simp [truthO]
  rw [e]
  exact kCall_i (Try.call59 _ _) (truth59 _ _ _ fun W hB => kStoreA_st (hS.bel hB) 1 rfl rfl (by simp [Value.oneCell']) Try.sizeOf49 fun W hS => h.fin hS 1 rfl rfl)
def logT (o x y : Int) : Int := if o = 13 then [x, y].foldl andT 1 else if o = 14 then notT ([x, y].foldl (fun a b => andT (andT 1 a) (notT b)) 1) else notT x
theorem logic61 (a b : AV) (o : Int) (w : World) (R : Ending → World → Prop) (h : RetV w (ofT (logT o (knownP a) (knownP b))) R) : Calls Try.prog 61 #[sVal a b o] w R := by
  refine c61 _ _ _ _ _ _ _ _ _ ?_
  unfold vc61
  refine kBox_st (St.start w) fun p W hS => kAlloc_st Try.zeroValue49 hS fun r W hS => ?_
  have hS : St w [.bx p 103 (sCells a b o), .bx r 49 #[.int .i64 0, .int .i64 0, .string ⟨#[]⟩]] W := hS
  refine kFa103_0 (kFa101 0 (by omega) (kLdV hS 0 rfl rfl rfl rfl (kCall_i (Try.call94 _ _) (Known94 a _ _ fun b1 W hB => kExt_0 (kExt_1 ?_)))))
  have hS := hS.bel hB
  refine kFa103_0 (kFa101 1 (by omega) (kLdV hS 0 rfl rfl rfl rfl (kCall_i (Try.call94 _ _) (Known94 b _ _ fun b2 W hB => kExt_0 (kExt_1 ?_)))))
  have hS := hS.bel hB
  have fin : ∀ t (V : World), t = logT o (knownP a) (knownP b) → Below W.heap.size W V → kCall (cR Try.prog R) V 93 #[.int .i64 t] fun v29 w_16 => kStore (cR Try.prog R) w_16 49 (.pointer (some ⟨r, 0, none⟩)) v29 fun w_17 => RetK Try.prog [.cell (.pointer (some ⟨r, 0, none⟩)) 49] R w_17 := by
    intro t V e hB
    subst e
    exact kCall_i (Try.call93 _ _) (Of93 _ _ _ fun W hB2 => kStoreA_st ((hS.bel hB).bel hB2) 1 rfl rfl (by simp [Value.oneCell']) Try.sizeOf49 fun W hS => h.fin hS 1 rfl rfl)
  refine kFa103_1 (kLoad_st (c := ⟨Try.prog, _, false⟩) hS 0 rfl rfl (fun w => Try.isAgg53 w) (kEq_int (kIf_eq (fun e => ?_) (fun e => kEq_int (kIf_eq (fun e2 => ?_) (fun e2 => ?_))))))
  · refine kBS (E160 W) (St.start W) [vInt (knownP a), vInt (knownP b)] rfl rfl (by omega) (by omega) (by simp [vInt, Value.cells]) fun x cp W2 hS2 hl => ?_
    exact kCall_i (Try.call95 _ _) (And95 [knownP a, knownP b] W2 x cp hl (by simp) _ fun W3 hB3 => fin _ _ (by simp [logT, e]) (hS2.below.trans (hB3.mono hS2.size)))
  · refine kBS (E160 W) (St.start W) [vInt (knownP a), vInt (knownP b)] rfl rfl (by omega) (by omega) (by simp [vInt, Value.cells]) fun x cp W2 hS2 hl => ?_
    exact kCall_i (Try.call96 _ _) (Or96 [knownP a, knownP b] W2 x cp hl (by simp) _ fun W3 hB3 => fin _ _ (by simp [logT, e2]) (hS2.below.trans (hB3.mono hS2.size)))
  · exact kCall_i (Try.call97 _ _) (Not97 _ _ _ (fin _ _ (by simp [logT, e, e2]) (Below.refl _ _)))
end Go.L
namespace Go.L
open Go Go.RowKit Go.Proofs
set_option linter.unusedSimpArgs false
set_option linter.unusedVariables false

abbrev IV := ByteArray × Int × Int × Int
def iVal (r : IV) : Value := .agg #[.string r.1, .int .i64 r.2.1, .int .i64 r.2.2.1, .int .i64 r.2.2.2]
def infoT : List IV := [(⟨#[]⟩, 0, 0, 0), (⟨#[43]⟩, 2, 2, 2), (⟨#[45]⟩, 2, 2, 2), (⟨#[42]⟩, 2, 2, 2), (⟨#[47]⟩, 2, 2, 2), (⟨#[37]⟩, 2, 2, 2), (⟨#[124, 124]⟩, 2, 0, 0), (⟨#[61]⟩, 2, 0, 1), (⟨#[60, 62]⟩, 2, 0, 1), (⟨#[60]⟩, 2, 0, 1), (⟨#[60, 61]⟩, 2, 0, 1), (⟨#[62]⟩, 2, 0, 1), (⟨#[62, 61]⟩, 2, 0, 1), (⟨#[97, 110, 100]⟩, 2, 1, 1), (⟨#[111, 114]⟩, 2, 1, 1), (⟨#[45]⟩, 1, 2, 2), (⟨#[110, 111, 116]⟩, 1, 1, 1), (⟨#[105, 115, 32, 110, 117, 108, 108]⟩, 1, 0, 1), (⟨#[105, 115, 32, 110, 111, 116, 32, 110, 117, 108, 108]⟩, 1, 0, 1), (⟨#[108, 101, 110, 103, 116, 104]⟩, 1, 0, 2), (⟨#[97, 98, 115]⟩, 1, 2, 2)]
def info0 : IV := (⟨#[]⟩, 0, 0, 0)
def infoO (o : Int) : IV := if 1 ≤ o ∧ o ≤ 20 then infoT.getD o.toNat info0 else info0
def tabC : Array Value := #[.string ⟨#[]⟩, .int .i64 0, .int .i64 0, .int .i64 0, .string ⟨#[43]⟩, .int .i64 2, .int .i64 2, .int .i64 2, .string ⟨#[45]⟩, .int .i64 2, .int .i64 2, .int .i64 2, .string ⟨#[42]⟩, .int .i64 2, .int .i64 2, .int .i64 2, .string ⟨#[47]⟩, .int .i64 2, .int .i64 2, .int .i64 2, .string ⟨#[37]⟩, .int .i64 2, .int .i64 2, .int .i64 2, .string ⟨#[124, 124]⟩, .int .i64 2, .int .i64 0, .int .i64 0, .string ⟨#[61]⟩, .int .i64 2, .int .i64 0, .int .i64 1, .string ⟨#[60, 62]⟩, .int .i64 2, .int .i64 0, .int .i64 1, .string ⟨#[60]⟩, .int .i64 2, .int .i64 0, .int .i64 1, .string ⟨#[60, 61]⟩, .int .i64 2, .int .i64 0, .int .i64 1, .string ⟨#[62]⟩, .int .i64 2, .int .i64 0, .int .i64 1, .string ⟨#[62, 61]⟩, .int .i64 2, .int .i64 0, .int .i64 1, .string ⟨#[97, 110, 100]⟩, .int .i64 2, .int .i64 1, .int .i64 1, .string ⟨#[111, 114]⟩, .int .i64 2, .int .i64 1, .int .i64 1, .string ⟨#[45]⟩, .int .i64 1, .int .i64 2, .int .i64 2, .string ⟨#[110, 111, 116]⟩, .int .i64 1, .int .i64 1, .int .i64 1, .string ⟨#[105, 115, 32, 110, 117, 108, 108]⟩, .int .i64 1, .int .i64 0, .int .i64 1, .string ⟨#[105, 115, 32, 110, 111, 116, 32, 110, 117, 108, 108]⟩, .int .i64 1, .int .i64 0, .int .i64 1, .string ⟨#[108, 101, 110, 103, 116, 104]⟩, .int .i64 1, .int .i64 0, .int .i64 2, .string ⟨#[97, 98, 115]⟩, .int .i64 1, .int .i64 2, .int .i64 2]
theorem ix116 (w : World) : ∀ k : Nat, k < 21 → (Instr.index 116 (.agg tabC) (.int .i64 k)).run Try.prog w = .ok (iVal (infoT.getD k info0)) w
  | 0, _ => by kernel_rfl
  | 1, _ => by kernel_rfl
  | 2, _ => by kernel_rfl
  | 3, _ => by kernel_rfl
  | 4, _ => by kernel_rfl
  | 5, _ => by kernel_rfl
  | 6, _ => by kernel_rfl
  | 7, _ => by kernel_rfl
  | 8, _ => by kernel_rfl
  | 9, _ => by kernel_rfl
  | 10, _ => by kernel_rfl
  | 11, _ => by kernel_rfl
  | 12, _ => by kernel_rfl
  | 13, _ => by kernel_rfl
  | 14, _ => by kernel_rfl
  | 15, _ => by kernel_rfl
  | 16, _ => by kernel_rfl
  | 17, _ => by kernel_rfl
  | 18, _ => by kernel_rfl
  | 19, _ => by kernel_rfl
  | 20, _ => by kernel_rfl
  | n + 21, h => absurd h (by omega)
theorem RetK_62 {R : Ending → World → Prop} {w w0 : World} {L : List Own} (hS : St w0 L w) (i : Nat) {b : Nat} {cs : Array Value} (hi : L[i]? = some (.bx b 62 cs)) (hn : cs.size = 4) (h : R (.returned (.agg cs)) w) : RetK Try.prog [.cell (.pointer (some ⟨b, 0, none⟩)) 62] R w := by
  refine ⟨.agg cs, ?_, h⟩
  have := run_loadVar_row (P := Try.prog) w b 62 62 cs (0, 0) _ (hS.get i hi).2 Try.underlying62 rfl (by rw [info_of (Try.typeInfo62 w), hn]; rfl)
  simp [resSem, asAddr, this]
theorem RetK_62v {R : Ending → World → Prop} {w w0 : World} {L : List Own} (hS : St w0 L w) (i : Nat) {b : Nat} {cs : Array Value} {v : Value} (hi : L[i]? = some (.bx b 62 cs)) (hn : cs.size = 4) (h : R (.returned (.tuple #[.agg cs, v])) w) : RetK Try.prog [.cell (.pointer (some ⟨b, 0, none⟩)) 62, .val v] R w := by
  refine ⟨.tuple #[.agg cs, v], ?_, h⟩
  have := run_loadVar_row (P := Try.prog) w b 62 62 cs (0, 0) _ (hS.get i hi).2 Try.underlying62 rfl (by rw [info_of (Try.typeInfo62 w), hn]; rfl)
  simp [resSem, asAddr, this]
theorem RetK_116 {R : Ending → World → Prop} {w w0 : World} {L : List Own} (hS : St w0 L w) (i : Nat) {b : Nat} {cs : Array Value} (hi : L[i]? = some (.bx b 116 cs)) (hn : cs.size = 84) (h : R (.returned (.agg cs)) w) : RetK Try.prog [.cell (.pointer (some ⟨b, 0, none⟩)) 116] R w := by
  refine ⟨.agg cs, ?_, h⟩
  have := run_loadVar_row (P := Try.prog) w b 116 116 cs (0, 0) _ (hS.get i hi).2 Try.underlying116 rfl (by rw [info_of (Try.typeInfo116 w), hn]; rfl)
  simp [resSem, asAddr, this]
set_option maxRecDepth 10000 in
theorem rows74 (w : World) (R : Ending → World → Prop) (h : ∀ W, Below w.heap.size w W → R (.returned (.agg tabC)) W) : Calls Try.prog 74 #[] w R := by
  refine c74 _ _ ?_
  unfold vc74
  refine kAlloc_st Try.zeroValue116 (St.start w) fun b W hS => ?_
  refine kBuild_i (cs := #[.string ⟨#[43]⟩, .int .i64 2, .int .i64 2, .int .i64 2]) (by kernel_rfl) ?_
  refine kBuild_i (cs := #[.string ⟨#[45]⟩, .int .i64 2, .int .i64 2, .int .i64 2]) (by kernel_rfl) ?_
  refine kBuild_i (cs := #[.string ⟨#[42]⟩, .int .i64 2, .int .i64 2, .int .i64 2]) (by kernel_rfl) ?_
  refine kBuild_i (cs := #[.string ⟨#[47]⟩, .int .i64 2, .int .i64 2, .int .i64 2]) (by kernel_rfl) ?_
  refine kBuild_i (cs := #[.string ⟨#[37]⟩, .int .i64 2, .int .i64 2, .int .i64 2]) (by kernel_rfl) ?_
  refine kBuild_i (cs := #[.string ⟨#[124, 124]⟩, .int .i64 2, .int .i64 0, .int .i64 0]) (by kernel_rfl) ?_
  refine kBuild_i (cs := #[.string ⟨#[61]⟩, .int .i64 2, .int .i64 0, .int .i64 1]) (by kernel_rfl) ?_
  refine kBuild_i (cs := #[.string ⟨#[60, 62]⟩, .int .i64 2, .int .i64 0, .int .i64 1]) (by kernel_rfl) ?_
  refine kBuild_i (cs := #[.string ⟨#[60]⟩, .int .i64 2, .int .i64 0, .int .i64 1]) (by kernel_rfl) ?_
  refine kBuild_i (cs := #[.string ⟨#[60, 61]⟩, .int .i64 2, .int .i64 0, .int .i64 1]) (by kernel_rfl) ?_
  refine kBuild_i (cs := #[.string ⟨#[62]⟩, .int .i64 2, .int .i64 0, .int .i64 1]) (by kernel_rfl) ?_
  refine kBuild_i (cs := #[.string ⟨#[62, 61]⟩, .int .i64 2, .int .i64 0, .int .i64 1]) (by kernel_rfl) ?_
  refine kBuild_i (cs := #[.string ⟨#[97, 110, 100]⟩, .int .i64 2, .int .i64 1, .int .i64 1]) (by kernel_rfl) ?_
  refine kBuild_i (cs := #[.string ⟨#[111, 114]⟩, .int .i64 2, .int .i64 1, .int .i64 1]) (by kernel_rfl) ?_
  refine kBuild_i (cs := #[.string ⟨#[45]⟩, .int .i64 1, .int .i64 2, .int .i64 2]) (by kernel_rfl) ?_
  refine kBuild_i (cs := #[.string ⟨#[110, 111, 116]⟩, .int .i64 1, .int .i64 1, .int .i64 1]) (by kernel_rfl) ?_
  refine kBuild_i (cs := #[.string ⟨#[105, 115, 32, 110, 117, 108, 108]⟩, .int .i64 1, .int .i64 0, .int .i64 1]) (by kernel_rfl) ?_
  refine kBuild_i (cs := #[.string ⟨#[105, 115, 32, 110, 111, 116, 32, 110, 117, 108, 108]⟩, .int .i64 1, .int .i64 0, .int .i64 1]) (by kernel_rfl) ?_
  refine kBuild_i (cs := #[.string ⟨#[108, 101, 110, 103, 116, 104]⟩, .int .i64 1, .int .i64 0, .int .i64 2]) (by kernel_rfl) ?_
  refine kBuild_i (cs := #[.string ⟨#[97, 98, 115]⟩, .int .i64 1, .int .i64 2, .int .i64 2]) (by kernel_rfl) ?_
  refine kBuild_i (cs := tabC) (by kernel_rfl) ?_
  exact kStoreA_st hS 0 rfl (by kernel_rfl) (by kernel_rfl) Try.sizeOf116 fun W hS => RetK_116 hS 0 rfl (by kernel_rfl) (h W hS.below)
theorem Info28 (o : Int) (w : World) (R : Ending → World → Prop) (h : ∀ W, Below w.heap.size w W → R (.returned (.tuple #[iVal (infoO o), .bool (decide (1 ≤ o ∧ o ≤ 20))])) W) : Calls Try.prog 28 #[.int .i64 o] w R := by
  refine c28 _ _ _ ?_
  unfold vc28
  refine kAlloc_st Try.zeroValue62 (St.start w) fun b W hS => ?_
  have hS : St w [.bx b 62 #[.string ⟨#[]⟩, .int .i64 0, .int .i64 0, .int .i64 0]] W := hS
  have bad : ¬ (1 ≤ o ∧ o ≤ 20) → kBuild (cR Try.prog R) W 62 #[] fun v10 w_7 => kStore (cR Try.prog R) w_7 62 (.pointer (some ⟨b, 0, none⟩)) v10 fun w_8 => RetK Try.prog [.cell (.pointer (some ⟨b, 0, none⟩)) 62, .val (.bool false)] R w_8 := by
    intro hn
    refine kBuild_i (cs := #[.string ⟨#[]⟩, .int .i64 0, .int .i64 0, .int .i64 0]) (by kernel_rfl) (kStoreA_st hS 0 rfl rfl (by simp [Value.oneCell']) Try.sizeOf62 fun W hS => RetK_62v hS 0 rfl rfl ?_)
    have := h W hS.below
    rw [show infoO o = info0 from if_neg hn, decide_eq_false hn] at this
    exact this
  refine kJn_inv (fun cs V => V = W ∧ 1 ≤ o ∧ o ≤ 20) ?_ ?_
  · rintro cs V ⟨rfl, h1, h2⟩ ds
    refine kCall_i (Try.call74 _ _) (rows74 _ _ fun W2 hB => ?_)
    have hS2 := hS.bel hB
    obtain ⟨k, rfl⟩ : ∃ k : Nat, o = (k : Int) := ⟨o.toNat, by omega⟩
    refine kIx_i (fun w => ix116 w k (by omega)) (kStoreA_st hS2 0 rfl rfl (by simp [Value.oneCell', iVal]) Try.sizeOf62 fun W hS => RetK_62v hS 0 rfl rfl ?_)
    have := h W hS.below
    rw [show infoO (k : Int) = infoT.getD k info0 from if_pos ⟨h1, h2⟩, decide_eq_true ⟨h1, h2⟩] at this
    exact this
  · intro J hJ
    refine kBin_leq (kIf_d (fun e => kIf_t (bad (by omega))) (fun e => kBin_gtr (kIf_d (fun e2 => bad (by omega)) (fun e2 => kD_i (hJ _ _ ⟨rfl, by omega, by omega⟩)))))
def nameT : List ByteArray := [⟨#[]⟩, ⟨#[43]⟩, ⟨#[45]⟩, ⟨#[42]⟩, ⟨#[47]⟩, ⟨#[37]⟩, ⟨#[124, 124]⟩, ⟨#[61]⟩, ⟨#[60, 62]⟩, ⟨#[60]⟩, ⟨#[60, 61]⟩, ⟨#[62]⟩, ⟨#[62, 61]⟩, ⟨#[97, 110, 100]⟩, ⟨#[111, 114]⟩, ⟨#[45]⟩, ⟨#[110, 111, 116]⟩, ⟨#[105, 115, 32, 110, 117, 108, 108]⟩, ⟨#[105, 115, 32, 110, 111, 116, 32, 110, 117, 108, 108]⟩, ⟨#[108, 101, 110, 103, 116, 104]⟩, ⟨#[97, 98, 115]⟩]
theorem kFa62 {X : Chain → World → Prop} {q : Bool} {w : World} {b o : Nat} {k : Value → World → Prop} (f : Nat) (hf : f < 4) (h : k (.pointer (some ⟨b, o + f, none⟩)) w) : kFa ⟨Try.prog, X, q⟩ w 62 (.pointer (some ⟨b, o, none⟩)) f k := by
  have : f = 0 ∨ f = 1 ∨ f = 2 ∨ f = 3 := by omega
  rcases this with rfl | rfl | rfl | rfl
  · exact kFa_i (c := ⟨Try.prog, X, q⟩) Try.underlying62 rfl (n := 0) Try.sizeOf9 h
  · exact kFa_i (c := ⟨Try.prog, X, q⟩) Try.underlying62 rfl (n := 0) Try.sizeOf3 h
  · exact kFa_i (c := ⟨Try.prog, X, q⟩) Try.underlying62 rfl (n := 0) Try.sizeOf27 h
  · exact kFa_i (c := ⟨Try.prog, X, q⟩) Try.underlying62 rfl (n := 0) Try.sizeOf27 h
theorem built62s (s : ByteArray) : Try.prog.built 62 [(0, .string s), (1, .int .i64 2), (3, .int .i64 1)] = some #[.string s, .int .i64 2, .int .i64 0, .int .i64 1] := by kernel_rfl
set_option maxRecDepth 10000 in
theorem infoO_name : ∀ k : Nat, k < 21 → 1 ≤ k → infoO k = (nameT.getD k ⟨#[]⟩, if k ≤ 14 then 2 else 1, if k ≤ 5 ∨ k = 15 ∨ k = 20 then 2 else if k = 13 ∨ k = 14 ∨ k = 16 then 1 else 0, if k ≤ 5 ∨ k = 15 ∨ k = 20 ∨ k = 19 then 2 else if k = 6 then 0 else 1)
  | 0, _, h => absurd h (by omega)
  | 1, _, _ => by kernel_rfl
  | 2, _, _ => by kernel_rfl
  | 3, _, _ => by kernel_rfl
  | 4, _, _ => by kernel_rfl
  | 5, _, _ => by kernel_rfl
  | 6, _, _ => by kernel_rfl
  | 7, _, _ => by kernel_rfl
  | 8, _, _ => by kernel_rfl
  | 9, _, _ => by kernel_rfl
  | 10, _, _ => by kernel_rfl
  | 11, _, _ => by kernel_rfl
  | 12, _, _ => by kernel_rfl
  | 13, _, _ => by kernel_rfl
  | 14, _, _ => by kernel_rfl
  | 15, _, _ => by kernel_rfl
  | 16, _, _ => by kernel_rfl
  | 17, _, _ => by kernel_rfl
  | 18, _, _ => by kernel_rfl
  | 19, _, _ => by kernel_rfl
  | 20, _, _ => by kernel_rfl
  | n + 21, h, _ => absurd h (by omega)
theorem Info31 (o : Int) (w : World) (R : Ending → World → Prop) (h : ∀ W, Below w.heap.size w W → R (.returned (iVal (infoO o))) W) : Calls Try.prog 31 #[.int .i64 o] w R := by
  refine c31 _ _ _ ?_
  unfold vc31
  refine kAlloc_st Try.zeroValue62 (St.start w) fun b W hS => ?_
  have hS : St w [.bx b 62 #[.string ⟨#[]⟩, .int .i64 0, .int .i64 0, .int .i64 0]] W := hS
  have bad : ¬ (1 ≤ o ∧ o ≤ 20) → kBuild (cR Try.prog R) W 62 #[] fun v10 w_7 => kStore (cR Try.prog R) w_7 62 (.pointer (some ⟨b, 0, none⟩)) v10 fun w_8 => RetK Try.prog [.cell (.pointer (some ⟨b, 0, none⟩)) 62] R w_8 := by
    intro hn
    refine kBuild_i (cs := #[.string ⟨#[]⟩, .int .i64 0, .int .i64 0, .int .i64 0]) (by kernel_rfl) (kStoreA_st hS 0 rfl rfl (by simp [Value.oneCell']) Try.sizeOf62 fun W hS => RetK_62 hS 0 rfl rfl ?_)
    have := h W hS.below
    rw [show infoO o = info0 from if_neg hn] at this
    exact this
  refine kJn_inv (fun cs V => V = W ∧ 1 ≤ o ∧ o ≤ 20) ?_ ?_
  · rintro cs V ⟨rfl, h1, h2⟩ ds
    obtain ⟨k, rfl⟩ : ∃ k : Nat, o = (k : Int) := ⟨o.toNat, by omega⟩
    have hi := infoO_name k (by omega) (by omega)
    refine kBS (E119 V) hS (nameT.map Value.string) rfl rfl (by omega) (by omega) (by simp [Value.cells, nameT]) fun x cp W2 hS2 hl => ?_
    have hS2 : St w [.bx b 62 #[.string ⟨#[]⟩, .int .i64 0, .int .i64 0, .int .i64 0], .row (.slice x 21 cp) 9 1 21 (flat (nameT.map Value.string))] W2 := hS2
    have hlen : nameT.length = 21 := rfl
    obtain ⟨pb, po, rfl, hpb, hpr⟩ := hl.elem (i := k) (v := .string (nameT.getD k ⟨#[]⟩)) (by
      rw [List.getElem?_map, List.getD_eq_getElem?_getD, List.getElem?_eq_getElem (by omega)]; rfl)
    generalize nameT.getD k ⟨#[]⟩ = s at hpr hi
    refine kIa119 (i := k) (by omega) (kLdS rfl (hpr 0 (.string s) rfl) (kBuild_i (built62s s) (kAlloc_st Try.zeroValue62 hS2 fun b4 W3 hS3 => kStoreAR hS3 rfl (by simp [Value.oneCell']) Try.sizeOf62 fun W4 hS4 => ?_)))
    have hS4 : St w [.bx b 62 #[.string ⟨#[]⟩, .int .i64 0, .int .i64 0, .int .i64 0], .row (.slice (some ⟨pb, po, none⟩) 21 cp) 9 1 21 (flat (nameT.map Value.string)), .bx b4 62 #[.string s, .int .i64 2, .int .i64 0, .int .i64 1]] W4 := hS4
    have fin : ∀ (m f y : Int) (V : World), St w [.bx b 62 #[.string ⟨#[]⟩, .int .i64 0, .int .i64 0, .int .i64 0], .row (.slice (some ⟨pb, po, none⟩) 21 cp) 9 1 21 (flat (nameT.map Value.string)), .bx b4 62 #[.string s, .int .i64 m, .int .i64 f, .int .i64 y]] V → infoO k = (s, m, f, y) →
        kLoad (cR Try.prog R) V 62 (.pointer (some ⟨b4, 0, none⟩)) fun v63 w_14 => kStore (cR Try.prog R) w_14 62 (.pointer (some ⟨b, 0, none⟩)) v63 fun w_15 => RetK Try.prog [.cell (.pointer (some ⟨b, 0, none⟩)) 62] R w_15 := by
      intro m f y V hV he
      refine kLoadA_st (c := ⟨Try.prog, _, false⟩) hV 2 rfl Try.underlying62 rfl Try.sizeOf62 rfl (kStoreA_st hV 0 rfl rfl (by simp [Value.oneCell']) Try.sizeOf62 fun W hS => RetK_62 hS 0 rfl rfl ?_)
      have := h W hS.below
      rw [he] at this
      exact this
    refine kBin_leq (kIf_d (fun e => ?_) (fun e5 => kEq_int (kIf_eq (fun e => ?_) (fun e6 => ?_))))
    · refine kFa62 2 (by omega) (kSt hS4 2 rfl (by show 2 < 4; omega) rfl rfl rfl fun V5 hV => kFa62 3 (by omega) (kSt hV 2 rfl (by show 3 < 4; omega) rfl rfl rfl fun V hV => fin _ _ _ V hV ?_))
      rw [hi]; have : k ≤ 5 := by omega
      simp [this]; omega
    · refine kFa62 3 (by omega) (kSt hS4 2 rfl (by show 3 < 4; omega) rfl rfl rfl fun V hV => fin _ _ _ V hV ?_)
      have : k = 6 := by omega
      subst this; rw [hi]; rfl
    · refine kJn_inv (fun cs V => V = W4 ∧ cs = [.bool (decide (k = 13 ∨ k = 14))]) ?_ ?_
      · rintro cs V ⟨rfl, rfl⟩ ds
        refine kIf_d (fun e => ?_) (fun e13 => ?_)
        · refine kFa62 2 (by omega) (kSt hS4 2 rfl (by show 2 < 4; omega) rfl rfl rfl fun V hV => fin _ _ _ V hV ?_)
          rcases e with rfl | rfl <;> rw [hi] <;> rfl
        · refine kJn_inv (fun cs V' => V' = V ∧ cs = [.bool (decide (k = 15 ∨ k = 20))]) ?_ ?_
          · rintro cs V' ⟨rfl, rfl⟩ ds
            refine kIf_d (fun e => ?_) (fun e15 => ?_)
            · refine kFa62 1 (by omega) (kSt hS4 2 rfl (by show 1 < 4; omega) rfl rfl rfl fun V hV => kFa62 2 (by omega) (kSt hV 2 rfl (by show 2 < 4; omega) rfl rfl rfl fun V hV => kFa62 3 (by omega) (kSt hV 2 rfl (by show 3 < 4; omega) rfl rfl rfl fun V hV => fin _ _ _ V hV ?_)))
              rcases e with rfl | rfl <;> rw [hi] <;> rfl
            · refine kEq_int (kIf_eq (fun e => ?_) (fun e16 => ?_))
              · refine kFa62 1 (by omega) (kSt hS4 2 rfl (by show 1 < 4; omega) rfl rfl rfl fun V hV => kFa62 2 (by omega) (kSt hV 2 rfl (by show 2 < 4; omega) rfl rfl rfl fun V hV => fin _ _ _ V hV ?_))
                have : k = 16 := by omega
                subst this; rw [hi]; rfl
              · refine kJn_inv (fun cs V'' => V'' = V' ∧ cs = [.bool (decide (k = 17 ∨ k = 18))]) ?_ ?_
                · rintro cs V'' ⟨rfl, rfl⟩ ds
                  refine kIf_d (fun e => ?_) (fun e17 => ?_)
                  · refine kFa62 1 (by omega) (kSt hS4 2 rfl (by show 1 < 4; omega) rfl rfl rfl fun V hV => fin _ _ _ V hV ?_)
                    rcases e with rfl | rfl <;> rw [hi] <;> rfl
                  · refine kEq_int (kIf_eq (fun e => ?_) (fun e19 => ?_))
                    · refine kFa62 1 (by omega) (kSt hS4 2 rfl (by show 1 < 4; omega) rfl rfl rfl fun V hV => kFa62 3 (by omega) (kSt hV 2 rfl (by show 3 < 4; omega) rfl rfl rfl fun V hV => fin _ _ _ V hV ?_))
                      have : k = 19 := by omega
                      subst this; rw [hi]; rfl
                    · refine fin _ _ _ _ hS4 ?_
                      rw [hi]
                      have h1 : k ≤ 14 := by omega
                      have h2 : ¬ (k ≤ 5 ∨ k = 15 ∨ k = 20) := by omega
                      have h3 : ¬ (k = 13 ∨ k = 14 ∨ k = 16) := by omega
                      have h4 : ¬ (k ≤ 5 ∨ k = 15 ∨ k = 20 ∨ k = 19) := by omega
                      have h5 : ¬ k = 6 := by omega
                      rw [if_pos h1, if_neg h2, if_neg h3, if_neg h4, if_neg h5]
                · intro J hJ
                  refine kEq_int (kIf_eq (fun e => kD_i (hJ _ _ ⟨rfl, ?_⟩)) (fun e => kEq_int (kD_i (hJ _ _ ⟨rfl, ?_⟩))))
                  · rw [decide_eq_true (show k = 17 ∨ k = 18 by omega)]
                  · congr 2; rw [Bool.eq_iff_iff]; simp; omega
          · intro J hJ
            refine kEq_int (kIf_eq (fun e => kD_i (hJ _ _ ⟨rfl, ?_⟩)) (fun e => kEq_int (kD_i (hJ _ _ ⟨rfl, ?_⟩))))
            · rw [decide_eq_true (show k = 15 ∨ k = 20 by omega)]
            · congr 2; rw [Bool.eq_iff_iff]; simp; omega
      · intro J hJ
        refine kEq_int (kIf_eq (fun e => kD_i (hJ _ _ ⟨rfl, ?_⟩)) (fun e => kEq_int (kD_i (hJ _ _ ⟨rfl, ?_⟩))))
        · rw [decide_eq_true (show k = 13 ∨ k = 14 by omega)]
        · congr 2; rw [Bool.eq_iff_iff]; simp; omega
  · intro J hJ
    refine kBin_lss (kIf_d (fun e => kIf_t (bad (by omega))) (fun e => kBin_gtr (kIf_d (fun e2 => bad (by omega)) (fun e2 => kD_i (hJ _ _ ⟨rfl, by omega, by omega⟩)))))
end Go.L
namespace Go.L
open Go Go.RowKit Go.Proofs
set_option linter.unusedSimpArgs false
set_option linter.unusedVariables false

def rngT (t : Int) : Bool := decide (0 ≤ t) && decide (t ≤ 4)
def okT (o t : Int) : Bool := (t == 0) || (((infoO o).2.2.1 == 0 || t == (infoO o).2.2.1) && ((o != 6 && o != 19) || decide (t ≥ 3)))
def clash (o a b : Int) : Prop := 6 ≤ o ∧ o ≤ 12 ∧ a ≠ 0 ∧ b ≠ 0 ∧ a ≠ b
instance (o a b : Int) : Decidable (clash o a b) := by unfold clash; infer_instance
def mkE (o : Int) (l : List Int) : Int := if ¬ (1 ≤ o ∧ o ≤ 20 ∧ (l.length : Int) = (infoO o).2.1) then 2 else if l.all rngT = false then 2 else if l.all (okT o) = false then 120 else if clash o (l.headD 0) (l.getLastD 0) then 120 else 0
def mkV (o : Int) (l : List Int) : Int := if o = 6 then max (l.headD 0) (l.getLastD 0) else (infoO o).2.2.2

theorem typed1_91 (t : Int) (w : World) (R : Ending → World → Prop) (h : R (.returned (.bool (rngT t))) w) : Calls Try.prog 91 #[.int .i64 t] w R := by
  refine c91 _ _ _ ?_
  unfold vc91
  refine kBin_geq (kIf_d (fun e => kBin_leq (ret_bool h ?_)) (fun e => ret_bool h ?_))
  · have : decide (0 ≤ t) = true := decide_eq_true e
    simp [rngT, this]
  · have : decide (0 ≤ t) = false := decide_eq_false e
    simp [rngT, this]
theorem typed2_92 (t o : Int) (w : World) (p q : Nat) (hp : w.heap[p]? = some (.cells (iVal (infoO o)).cells 62 (0, 0))) (hq : w.heap[q]? = some (.cells #[.int .i64 o] 53 (0, 0))) (R : Ending → World → Prop) (h : R (.returned (.bool (okT o t))) w) : Calls Try.prog 92 #[.int .i64 t, .pointer (some ⟨p, 0, none⟩), .pointer (some ⟨q, 0, none⟩)] w R := by
  have hpc : w.cell? ⟨p, 0 + 2, none⟩ = some (.int .i64 (infoO o).2.2.1) := by rw [cell_of_row w p _ _ 62 (0, 0) hp]; rfl
  have hqc : w.cell? ⟨q, 0, none⟩ = some (.int .i64 o) := by rw [cell_of_row w q _ _ 53 (0, 0) hq]; rfl
  refine c92 _ _ _ _ _ ?_
  unfold vc92
  refine kJn_inv (fun cs V => V = w ∧ cs = [.bool ((infoO o).2.2.1 == 0 || t == (infoO o).2.2.1)]) ?_ ?_
  · rintro cs V ⟨rfl, rfl⟩ ds
    refine kJn_inv (fun cs V' => V' = V ∧ cs = [.bool ((o != 6 && o != 19) || decide (t ≥ 3))]) ?_ ?_
    · rintro cs V' ⟨rfl, rfl⟩ ds
      refine kEq_int (kIf_eq (fun e => ret_bool h (by simp [okT, e])) (fun e => kIf_b (fun e1 => ret_bool h ?_) (fun e1 => ret_bool h ?_)))
      · simp [okT, e, e1]
      · simp [okT, e, e1]
    · intro J hJ
      refine kLoad_cell (c := ⟨Try.prog, _, false⟩) (fun w => Try.isAgg53 w) hqc (kNe_int (kIf_ne (fun e => kLoad_cell (c := ⟨Try.prog, _, false⟩) (fun w => Try.isAgg53 w) hqc (kNe_int (kIf_ne (fun e2 => kD_i (hJ _ _ ⟨rfl, ?_⟩)) (fun e2 => kBin_geq (kD_i (hJ _ _ ⟨rfl, ?_⟩)))))) (fun e => kBin_geq (kD_i (hJ _ _ ⟨rfl, ?_⟩)))))
      · simp [e, e2]
      · simp [e2]
      · simp [e]
  · intro J hJ
    refine kFa62 2 (by omega) (kLdS rfl hpc (kEq_int (kIf_eq (fun e => kD_i (hJ _ _ ⟨rfl, ?_⟩)) (fun e => kFa62 2 (by omega) (kLdS rfl hpc (kEq_int (kD_i (hJ _ _ ⟨rfl, ?_⟩))))))))
    · simp [e]
    · simp [e]
end Go.L
namespace Go.L
open Go Go.RowKit Go.Proofs
set_option linter.unusedSimpArgs false
set_option linter.unusedVariables false

/-- What a function that makes a number answers, or the error that it raises. -/
structure RetI (w : World) (v : Int) (e : Int) (R : Ending → World → Prop) : Prop where
  ok : e = 0 → ∀ W, Below w.heap.size w W → R (.returned (.int .i64 v)) W
  bad : e ≠ 0 → ∀ W, Below w.heap.size w W → R (.panicked [pe e false]) W
def mostL (l : List Int) (i : Nat) : Int := (l.take i).foldl max 0
theorem many12 (o : Int) (h : 1 ≤ o ∧ o ≤ 20) : (infoO o).2.1 = if o ≤ 14 then 2 else 1 := by
  obtain ⟨k, rfl⟩ : ∃ k : Nat, o = (k : Int) := ⟨o.toNat, by omega⟩
  rw [infoO_name k (by omega) (by omega)]
  show (if k ≤ 14 then (2 : Int) else 1) = if (k : Int) ≤ 14 then (2 : Int) else 1
  by_cases e : k ≤ 14
  · rw [if_pos e, if_pos (by omega)]
  · rw [if_neg e, if_neg (by omega)]
theorem shape12 {o : Int} {l : List Int} (h : 1 ≤ o ∧ o ≤ 20) (hl : (l.length : Int) = (infoO o).2.1) : (∃ a, l = [a] ∧ ¬ o ≤ 14) ∨ (∃ a b, l = [a, b] ∧ o ≤ 14) := by
  rw [many12 o h] at hl
  match l, hl with
  | [], hl => simp at hl; split at hl <;> omega
  | [a], hl => left; refine ⟨a, rfl, ?_⟩; intro q; rw [if_pos q] at hl; simp at hl
  | [a, b], hl => right; refine ⟨a, b, rfl, ?_⟩; by_cases q : o ≤ 14; exact q; rw [if_neg q] at hl; simp at hl
  | a :: b :: c :: l, hl => simp at hl; split at hl <;> omega
theorem tests_at {w : World} {f : FuncId} {caps : Array Value} {l : List Int} {p : Int → Bool} (hcall : ∀ args w, (callFunc f args).run Try.prog w = .ok (.enter f args) w)
    (h : ∀ (t : Int) (W : World) (R : Ending → World → Prop), Below w.heap.size w W → R (.returned (.bool (p t))) W → Calls Try.prog f (#[.int .i64 t] ++ caps) W R) : Tests w f caps (l.map vInt) (fun i => (l[i]?.map p).getD false) := by
  refine ⟨hcall, fun i v hv W R hB hR => ?_⟩
  rw [List.getElem?_map] at hv
  cases e : l[i]? with
  | none => rw [e] at hv; cases hv
  | some t =>
    rw [e] at hv
    cases hv
    have := hR W (Below.refl _ _)
    simp only [e] at this
    exact h t W R hB this
theorem typed58 (o : Int) (l : List Int) (w : World) (lo : Option Addr) (lc : Nat) (hl : Sl w lo 1 (l.map vInt)) (hb : l.length ≤ 1000000) (R : Ending → World → Prop) (h : RetI w (mkV o l) (mkE o l) R) : Calls Try.prog 58 #[.int .i64 o, .slice lo l.length lc] w R := by
  refine c58 _ _ _ _ _ _ ?_
  unfold vc58
  refine kBox_st (St.start w) fun q W hS => ?_
  have hS : St w [.bx q 53 #[.int .i64 o]] W := hS
  refine kLoad_st (c := ⟨Try.prog, _, false⟩) hS 0 rfl rfl (fun w => Try.isAgg53 w) (kCall_i (Try.call28 _ _) (Info28 o _ _ fun W1 hB1 => kExt_0 (kExt_1 (kAlloc_st Try.zeroValue62 (hS.bel hB1) fun p W2 hS2 => ?_))))
  have hS2 : St w ([.bx q 53 #[.int .i64 o]] ++ [.bx p 62 #[.string ⟨#[]⟩, .int .i64 0, .int .i64 0, .int .i64 0]]) W2 := hS2
  refine kStoreAR hS2 rfl (by simp [Value.oneCell']) Try.sizeOf62 fun W3 hS3 => ?_
  have hS3 : St w [.bx q 53 #[.int .i64 o], .bx p 62 (iVal (infoO o)).cells] W3 := hS3
  have bad2 : mkE o l = 2 → ∀ V, St w [.bx q 53 #[.int .i64 o], .bx p 62 (iVal (infoO o)).cells] V → R (.panicked [pe 2 false]) V := by
    intro e V hV
    have := h.bad (by omega) V hV.below
    rwa [e] at this
  have bad120 : mkE o l = 120 → ∀ V, St w [.bx q 53 #[.int .i64 o], .bx p 62 (iVal (infoO o)).cells] V → R (.panicked [pe 120 false]) V := by
    intro e V hV
    have := h.bad (by omega) V hV.below
    rwa [e] at this
  refine kJn_inv (fun cs V => St w [.bx q 53 #[.int .i64 o], .bx p 62 (iVal (infoO o)).cells] V ∧ (1 ≤ o ∧ o ≤ 20) ∧ (l.length : Int) = (infoO o).2.1 ∧ l.all rngT = true) ?_ ?_
  · rintro cs V ⟨hV, ho, hlen, hrng⟩ ds
    have hqh := (hV.get 0 rfl).2
    have hph := (hV.get 1 rfl).2
    have hql : q < V.heap.size := (Array.getElem?_eq_some_iff.1 hqh).1
    have hpl : p < V.heap.size := (Array.getElem?_eq_some_iff.1 hph).1
    refine kCall_i (Try.call90 _ _) (all90 l V lo lc (hl.below hV.below) hb (p := okT o) (caps := #[.pointer (some ⟨p, 0, none⟩), .pointer (some ⟨q, 0, none⟩)]) (tests_at Try.call92 fun t W R hB hR => show Calls Try.prog 92 #[.int .i64 t, .pointer (some ⟨p, 0, none⟩), .pointer (some ⟨q, 0, none⟩)] W R from typed2_92 t o W p q (by rw [hB.block p hpl]; exact hph) (by rw [hB.block q hql]; exact hqh) R hR) _ fun V2 hB2 => ?_)
    have hV2 := hV.bel hB2
    refine kCall_i (Try.call54 _ _) (must54 _ _ _ _ (fun hok => ?_) (fun hbad => bad120 (by unfold mkE; rw [if_neg (by simp [ho, hlen]), if_neg (by simp [hrng]), if_pos hbad]) _ hV2))
    have hE : mkE o l = if clash o (l.headD 0) (l.getLastD 0) then 120 else 0 := by
      unfold mkE; rw [if_neg (by simp [ho, hlen]), if_neg (by simp [hrng]), if_neg (by simp [hok])]
    refine kLen24 ?_
    have hrng' : ∀ t ∈ l, 0 ≤ t ∧ t ≤ 4 := fun t ht => by
      have := List.all_eq_true.1 hrng t ht
      simpa [rngT] using this
    refine ⟨⟨fun cs V => ∃ i : Nat, cs = [.int .i64 (mostL l i), .int .i64 i] ∧ i ≤ l.length ∧ (1 < i → mkE o l = 0) ∧ St w [.bx q 53 #[.int .i64 o], .bx p 62 (iVal (infoO o)).cells] V,
      fun cs _ => l.length - (match cs with | [_, .int _ i] => i.toNat | _ => 0), ⟨0, rfl, Nat.zero_le _, by omega, hV2⟩, ?_⟩⟩
    rintro cs ds V3 ⟨i, rfl, hile, hno, hV3⟩
    dsimp only [List.getD_cons_zero, List.getD_cons_succ]
    refine kBin_lss (kIf_d (fun e => ?_) (fun e => ?_))
    · have hil : i < l.length := by omega
      obtain ⟨pb, po, rfl, hpb, hpr⟩ := (hl.below hV3.below).elem (i := i) (v := vInt l[i]) (by simp [hil])
      refine kIa24 hil (kLdS rfl (hpr 0 (.int .i64 l[i]) rfl) ?_)
      have next : ∀ V, St w [.bx q 53 #[.int .i64 o], .bx p 62 (iVal (infoO o)).cells] V → (1 < i + 1 → mkE o l = 0) → kBlt (cR Try.prog R) V .max #[27, 27] 27 #[false, false] #[.int .i64 (mostL l i), .int .i64 l[i]] fun v57 w_15 =>
          kBin (cR Try.prog R) w_15 .add 3 (.int .i64 i) (.int .i64 1) fun v58 w_16 => kD [] [] ((fun (cs : List Value) (W : World) => (∃ i : Nat, cs = [.int .i64 (mostL l i), .int .i64 i] ∧ i ≤ l.length ∧ (1 < i → mkE o l = 0) ∧ St w [.bx q 53 #[.int .i64 o], .bx p 62 (iVal (infoO o)).cells] W) ∧ l.length - (match cs with | [_, .int _ i] => i.toNat | _ => 0) < l.length - (i : Int).toNat) [v57, v58] w_16) := by
        intro V hV hn
        refine kMax2 (kBin_add (kD_i ⟨⟨i + 1, ?_, hil, hn, hV⟩, ?_⟩))
        · rw [wrap_id (by omega) (by omega)]
          have : mostL l (i + 1) = if l[i] > mostL l i then l[i] else mostL l i := by
            unfold mostL; rw [List.take_succ_eq_append_getElem hil, List.foldl_append]
            show max _ _ = _
            rw [Int.max_def]; split <;> split <;> omega
          rw [this]; rfl
        · rw [wrap_id (by omega) (by omega)]; show l.length - ((i : Int) + 1).toNat < l.length - (i : Int).toNat; omega
      have hcl : (¬ (6 ≤ o ∧ o ≤ 12) ∨ l[i] = 0 ∨ mostL l i = 0 ∨ mostL l i = l[i]) ↔ (1 < i + 1 → mkE o l = 0) := by
        rw [hE]
        rcases shape12 ho hlen with ⟨a, rfl, h14⟩ | ⟨a, b, rfl, h14⟩
        · have : i = 0 := by simp at hil; omega
          subst this
          constructor
          · intro _ q; omega
          · intro _; left; omega
        · have ha := hrng' a (by simp)
          have hmax : max 0 a = a := by omega
          match i, hil with
          | 0, _ => exact ⟨fun _ q => absurd q (by omega), fun _ => .inr (.inr (.inl rfl))⟩
          | 1, _ =>
            show (¬ (6 ≤ o ∧ o ≤ 12) ∨ b = 0 ∨ max 0 a = 0 ∨ max 0 a = b) ↔ (1 < 2 → (if clash o a b then (120 : Int) else 0) = 0)
            rw [hmax]
            constructor
            · intro h _; exact if_neg (by unfold clash; omega)
            · intro h; have := h (by omega)
              by_cases q : clash o a b
              · rw [if_pos q] at this; omega
              · unfold clash at q; omega
          | n + 2, hil => exact absurd (show n + 2 < 2 from hil) (by omega)
      refine kJn_inv (fun cs V => St w [.bx q 53 #[.int .i64 o], .bx p 62 (iVal (infoO o)).cells] V ∧ (1 < i + 1 → mkE o l = 0)) (fun cs V hh ds => next V hh.1 hh.2) ?_
      intro J hJ
      refine kLoad_st (c := ⟨Try.prog, _, false⟩) hV3 0 rfl rfl (fun w => Try.isAgg53 w) (kCall_i (Try.call60 _ _) (within60 _ _ _ _ _ (kUn_not (kIf_nd (fun e1 => ?_) (fun e1 => ?_)))))
      · exact kCall_i (Try.call54 _ _) (must54 _ _ _ _ (fun _ => kD_i (hJ _ _ ⟨hV3, hcl.1 (.inl e1)⟩)) (fun hb => by cases hb))
      · refine kEq_int (kIf_eq (fun e2 => ?_) (fun e2 => kEq_int (kIf_eq (fun e3 => ?_) (fun e3 => kEq_int ?_))))
        · exact kCall_i (Try.call54 _ _) (must54 _ _ _ _ (fun _ => kD_i (hJ _ _ ⟨hV3, hcl.1 (.inr (.inl e2))⟩)) (fun hb => by cases hb))
        · exact kCall_i (Try.call54 _ _) (must54 _ _ _ _ (fun _ => kD_i (hJ _ _ ⟨hV3, hcl.1 (.inr (.inr (.inl e3)))⟩)) (fun hb => by cases hb))
        · refine kCall_i (Try.call54 _ _) (must54 _ _ _ _ (fun hok => kD_i (hJ _ _ ⟨hV3, hcl.1 (.inr (.inr (.inr (by simpa using hok))))⟩)) (fun hbad => bad120 ?_ _ hV3))
          have hb : mostL l i ≠ l[i] := by simpa using hbad
          have hnot : ¬ (1 < i + 1 → mkE o l = 0) := fun q => by
            rcases hcl.2 q with q | q | q | q
            · exact q e1
            · exact e2 q
            · exact e3 q
            · exact hb q
          rw [hE] at hnot ⊢
          split
          · rfl
          · rename_i q; exact absurd (fun _ => if_neg q) hnot
    · have hil : i = l.length := by omega
      subst hil
      have hE0 : mkE o l = 0 := by
        rcases shape12 ho hlen with ⟨a, rfl, h14⟩ | ⟨a, b, rfl, h14⟩
        · rw [hE]; exact if_neg (by show ¬ clash o a a; unfold clash; omega)
        · exact hno (by simp)
      refine kLoad_st (c := ⟨Try.prog, _, false⟩) hV3 0 rfl rfl (fun w => Try.isAgg53 w) (kEq_int (kIf_eq (fun e6 => ?_) (fun e6 => ?_)))
      · refine ret_int (h.ok hE0 _ hV3.below) ?_
        rcases shape12 ho hlen with ⟨a, rfl, h14⟩ | ⟨a, b, rfl, h14⟩
        · exact absurd (by omega) h14
        · have ha := hrng' a (by simp)
          have hbb := hrng' b (by simp)
          show mkV o [a, b] = max (max 0 a) b
          unfold mkV; rw [if_pos e6]
          show max a b = _
          rw [show max 0 a = a by omega]
      · refine kFa62 3 (by omega) (kLd hV3 1 rfl rfl rfl (ret_int (h.ok hE0 _ hV3.below) ?_))
        exact if_neg e6
  · intro J hJ
    refine kIf_d (fun ho => kLen24 (kFa62 1 (by omega) (kLd hS3 1 rfl rfl rfl (kEq_int (kIf_eq (fun e => ?_) (fun e => ?_)))))) (fun ho => ?_)
    · refine kCall_i (Try.call90 _ _) (all90 l W3 lo lc (hl.below hS3.below) hb (p := rngT) (caps := #[]) (tests_at Try.call91 fun t W R hB hR => typed1_91 t W R hR) _ fun V2 hB2 => ?_)
      have hV2 := hS3.bel hB2
      refine kCall_i (Try.call54 _ _) (must54 _ _ _ _ (fun hok => kD_i (hJ _ _ ⟨hV2, ho, e, hok⟩)) (fun hbad => bad2 ?_ _ hV2))
      unfold mkE; rw [if_neg (by simp [ho, e]), if_pos hbad]
    · refine kCall_i (Try.call54 _ _) (must54 _ _ _ _ (fun hok => by cases hok) (fun hbad => bad2 ?_ _ hS3))
      unfold mkE; rw [if_pos (fun q => e q.2.2)]
    · refine kCall_i (Try.call54 _ _) (must54 _ _ _ _ (fun hok => by cases hok) (fun hbad => bad2 ?_ _ hS3))
      unfold mkE; rw [if_pos (fun q => ho ⟨q.1, q.2.1⟩)]
end Go.L
namespace Go.L
open Go Go.RowKit Go.Proofs
set_option linter.unusedSimpArgs false
set_option linter.unusedVariables false

theorem Lv_ret52 {p c : Value} {rs : List RV} {R : Ending → World → Prop} {w : World} (h : RetK Try.prog rs R w) : Lv Try.prog rs R [{ target := .fn (.func 52) #[], args := #[p, c] }] .returning w :=
  ⟨rfl, Try.call52, (caught_idle52 p c w).mono (by rintro e u' w' ⟨rfl, rfl, rfl⟩; exact h)⟩
theorem Lv_pan52 {w0 : World} {L : List Own} {rs : List RV} {R : Ending → World → Prop} {w : World} (hS : St w0 L w) (i : Nat) {b : Nat} {t : TypeId} {x n : Int} (hi : L[i]? = some (.bx b t #[.int .i64 x]))
    {fc : FuncId} {caps : Array Value} (Rc : World → Prop) (hf : ∀ args w, (callFunc fc args).run Try.prog w = .ok (.enter fc args) w)
    (hcl : ∀ W, St w0 (L.set i (.bx b t #[.int .i64 n])) W → Calls Try.prog fc caps W fun e w' => e = .returned unit ∧ Rc w') (h : ∀ W, Rc W → RetK Try.prog rs R W) :
    Lv Try.prog rs R [{ target := .fn (.func 52) #[], args := #[.pointer (some ⟨b, 0, none⟩), .func (.func fc) #[] caps] }] (.panicking [pe n false]) w :=
  ⟨rfl, Try.call52, (caught_panics52 ⟨b, 0, none⟩ x n fc caps Rc w (hS.cell i hi 0 rfl) (hS.unfrozen i hi 0) hf (hcl _ (hS.setCell i hi 0 _))).mono (by rintro e u' w' ⟨rfl, rfl, hR⟩; exact h _ hR)⟩
def makV (o : Int) (l : List Int) : Int := if mkE o l = 0 then mkV o l else 0
theorem Makes26 (o : Int) (l : List Int) (w : World) (lo : Option Addr) (lc : Nat) (hl : Sl w lo 1 (l.map vInt)) (hb : l.length ≤ 1000000) (R : Ending → World → Prop) (h : ∀ W, Below w.heap.size w W → R (.returned (.tuple #[.int .i64 (makV o l), .int .i64 (mkE o l)])) W) : Calls Try.prog 26 #[.int .i64 o, .slice lo l.length lc] w R := by
  refine c26 _ _ _ _ _ _ ?_
  unfold vc26
  refine kAlloc_st Try.zeroValue27 (St.start w) fun b4 W hS => kAlloc_st Try.zeroValue28 hS fun b5 W hS => ?_
  have hS : St w [.bx b4 27 #[.int .i64 0], .bx b5 28 #[.int .i64 0]] W := hS
  refine kCall_i (Try.call58 _ _) (typed58 o l W lo lc (hl.below hS.below) hb _ ⟨fun he W2 hB => ?_, fun he W2 hB => ?_⟩)
  · have hS2 := hS.bel hB
    refine kSt hS2 0 rfl (by simp) rfl rfl rfl fun W3 hS3 => kSt hS3 1 rfl (by simp) rfl rfl rfl fun W4 hS4 => Lv_ret52 (RetK_cell2 rfl rfl (hS4.cell 0 rfl 0 rfl) (hS4.cell 1 rfl 0 rfl) ?_)
    have := h W4 hS4.below
    rw [show makV o l = mkV o l from if_pos he, he] at this
    exact this
  · have hS2 := hS.bel hB
    refine Lv_pan52 hS2 1 rfl (fun W => St w [.bx b4 27 #[.int .i64 0], .bx b5 28 #[.int .i64 (mkE o l)]] W) Try.call73 (fun W hS => ?_) (fun W hS => RetK_cell2 rfl rfl (hS.cell 0 rfl 0 rfl) (hS.cell 1 rfl 0 rfl) ?_)
    · refine c73 _ _ _ ?_
      unfold vc73
      exact kSt hS 0 rfl (by simp) rfl rfl rfl fun W hS => ⟨rfl, hS⟩
    · have := h W hS.below
      rw [show makV o l = 0 from if_neg he] at this
      exact this
end Go.L
