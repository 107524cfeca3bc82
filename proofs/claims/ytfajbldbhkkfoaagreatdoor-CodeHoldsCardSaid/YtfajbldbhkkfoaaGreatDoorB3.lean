/- Contracts of single functions: no condition but those that each states. -/
import Derived.Test.YtfajbldbhkkfoaaGreatDoorB2
import Derived.Lib.Replace
import Derived.Lib.SplitLaws
import Derived.Lib.ConvBytes
import Derived.Shelf.Vars
import Derived.LaidMore
import Derived.Lay
import Derived.Handed
import Derived.Test.YtfajbldbhkkfoaaGreatDoorTie
import Derived.Test.YtfajbldbhkkfoaaGreatDoorCards
set_option linter.unusedVariables false
set_option linter.unusedSimpArgs false
namespace Go.L
open Go Go.RowKit Go.Proofs
set_option linter.unusedSimpArgs false
set_option linter.unusedVariables false

theorem fd84 (j : Nat) (s : ByteArray) (a : Option Addr) (n cp : Nat) (r : Value) (w : World) : ((Instr.field 73 (.agg #[.string s, .slice a n cp, r]) 0).run Tryz.prog w = .ok (.string s) w) ∧ ((Instr.field 73 (.agg #[.string s, .slice a n cp, r]) 1).run Tryz.prog w = .ok (.slice a n cp) w) := by
  constructor
  · simp [Instr.field, run_underlying Tryz.underlying73, part, asAgg, Tryz.isAgg9]
  · simp [Instr.field, run_underlying Tryz.underlying73, part, asAgg, Tryz.isAgg70]
theorem kFd84_0 {X : Chain → World → Prop} {q : Bool} {w : World} {k : Value → World → Prop} {s : ByteArray} {a : Option Addr} {n cp : Nat} {r : Value} (h : k (.string s) w) : kFd ⟨Tryz.prog, X, q⟩ w 73 (.agg #[.string s, .slice a n cp, r]) 0 k := ⟨kVal_pure (c := ⟨Tryz.prog, X, q⟩) (fun w' => (fd84 0 s a n cp r w').1) h⟩
theorem kFd84_1 {X : Chain → World → Prop} {q : Bool} {w : World} {k : Value → World → Prop} {s : ByteArray} {a : Option Addr} {n cp : Nat} {r : Value} (h : k (.slice a n cp) w) : kFd ⟨Tryz.prog, X, q⟩ w 73 (.agg #[.string s, .slice a n cp, r]) 1 k := ⟨kVal_pure (c := ⟨Tryz.prog, X, q⟩) (fun w' => (fd84 0 s a n cp r w').2) h⟩
/-- A builder, used or not, that holds a text. -/
def BuiltP (w0 : World) (p : Nat) (c : ByteArray) (M : List Own) (W : World) : Prop := ∃ q v, (q = none ∨ q = some ⟨p, 0, none⟩) ∧ St w0 (.bx p 67 #[.pointer q, v] :: .row v 5 1 c.size (Lib.strCells c) :: M) W
theorem BuiltP.tell {w0 W : World} {p : Nat} {c : ByteArray} {M : List Own} (h : BuiltP w0 p c M W) (R : Ending → World → Prop)
    (hk : ∀ W', Below w0.heap.size w0 W' → R (.returned (.string c)) W') : Calls Tryz.prog 34 #[.pointer (some ⟨p, 0, none⟩)] W R := by
  obtain ⟨q, v, hq, hS⟩ := h
  have hl : Lib.strCells c = Lib.byteCells c.data.toList := by simp [Lib.strCells, Lib.byteCells]
  have hn : (Lib.byteCells c.data.toList).length = c.size := by rw [Lib.byteCells_length, Array.length_toList]; rfl
  have hrow : W.ownsRow w0.heap.size 5 1 v (Lib.byteCells c.data.toList).length (Lib.byteCells c.data.toList) := by
    rw [hn, ← hl]; exact hS.get 1 rfl
  have hap := hS.apart 1 0 _ _ rfl rfl (by omega)
  have hne : v.ownBlock ≠ some p := by
    rcases hap with e | e
    · intro q; rw [show v.ownBlock = none from e] at q; cases q
    · exact e
  refine (Tryz.Builder_String_any w0.heap.size p c.data.toList W (by
    rcases hq with rfl | rfl
    · exact .inl ⟨(hS.get 0 rfl).1, v, (hS.get 0 rfl).2, hrow, hne⟩
    · exact .inr ⟨(hS.get 0 rfl).1, v, (hS.get 0 rfl).2, hrow, hne⟩) hS.size).mono ?_
  rintro e W5 ⟨rfl, hB5⟩
  exact hk W5 (hS.below.trans hB5)
def spB : ByteArray := ⟨#[32]⟩
def nlB : ByteArray := ⟨#[10]⟩
/-- A line's words. -/
def w0B (i : Nat) (x : IN) : List ByteArray := [itoaB i, kNameB x.k.toNat] ++ (kParts x.k.toNat).map (fun p => itoaB (getF p.1 x))
def w1B (x : IN) : List ByteArray := if 1 ≤ x.o ∧ x.o ≤ 20 then [(infoO x.o).1] else []
def w2B (lit : AV → ByteArray) (x : IN) : List ByteArray := if x.k = 2 then [lit x.v] else []
def w3B (x : IN) : List ByteArray := if x.nm = ⟨#[]⟩ then [] else [x.nm]
def wordsB (lit : AV → ByteArray) (i : Nat) (x : IN) : List ByteArray := w0B i x ++ w1B x ++ w2B lit x ++ w3B x ++ itoas x.ar
def textN (lit : AV → ByteArray) (l : List IN) : Nat → ByteArray
  | 0 => ⟨#[]⟩
  | i + 1 => textN lit l i ++ (joinB spB (wordsB lit i (l.getD i in0)) ++ nlB)
theorem row_cap {W : World} {base : Nat} {e : TypeId} {sz n cp : Nat} {a : Option Addr} {xs : List Value} (h : W.ownsRow base e sz (.slice a n cp) n xs) : n ≤ cp := by
  rcases h.2 with ⟨h, hn⟩ | ⟨g, cap, cur, h, _, _, hcap, _⟩
  · cases h; omega
  · cases h; exact hcap
theorem join_size (sep : ByteArray) (l : List ByteArray) : (joinB sep l).size ≤ sumS l + sep.size * l.length := by
  cases l with
  | nil => simp [joinB]; exact Nat.le_refl _
  | cons x r => simp only [joinB, ByteArray.size_append, catB_size, sumS, List.map_cons, List.sum_cons, List.length_cons, Nat.mul_succ]; omega
/-- What a text tells of an instruction is of bounded size. -/
structure Small (lit : AV → ByteArray) (x : IN) : Prop where
  a : I64 x.a
  b : I64 x.b
  c : I64 x.c
  ar : ∀ n ∈ x.ar, I64 n
  arl : x.ar.length ≤ 10000
  nm : x.nm.size ≤ 10000
  lit : (lit x.v).size ≤ 10000
end Go.L
namespace Go.L
open Go Go.RowKit Go.Proofs
set_option linter.unusedSimpArgs false
set_option linter.unusedVariables false

theorem chkC_all {l : List IN} (h : chkC l = 0) : l.length ≤ 2000 ∧ ∀ x ∈ l, rightC l.length x = true := by
  unfold chkC at h
  split at h
  · omega
  · split at h
    · rename_i h1 h2; exact ⟨by omega, fun x hx => List.all_eq_true.1 h2 x hx⟩
    · omega
theorem rightC_k {n : Nat} {x : IN} (h : rightC n x = true) : 1 ≤ x.k ∧ x.k ≤ 21 ∧ (x.k = 2 → checkE x.v = 0) := by
  unfold rightC at h
  simp only [Bool.and_eq_true, decide_eq_true_eq] at h
  refine ⟨h.1.1, h.1.2, fun h2 => ?_⟩
  have := h.2.1.1
  rw [h2] at this
  simpa [restB] using this
theorem sumS_app (a b : List ByteArray) : sumS (a ++ b) = sumS a + sumS b := by simp [sumS]
theorem sumS_bound {B : Nat} : ∀ {l : List ByteArray}, (∀ s ∈ l, s.size ≤ B) → sumS l ≤ B * l.length
  | [], _ => by simp [sumS]
  | a :: l, h => by
    have h1 := h a (by simp)
    have h2 := sumS_bound (l := l) (fun s hs => h s (by simp [hs]))
    simp only [sumS, List.map_cons, List.sum_cons, List.length_cons, Nat.mul_succ] at h2 ⊢
    omega
theorem infoO_size (o : Int) : (infoO o).1.size ≤ 10000 := by
  have : ∀ k, k < 21 → (infoT.getD k info0).1.size ≤ 10000 := by decide
  unfold infoO
  split
  · exact this _ (by omega)
  · decide
theorem kNameB_size (k : Nat) (h : k < 22) : (kNameB k).size ≤ 10000 := by
  have : ∀ k, k < 22 → (kNameB k).size ≤ 10000 := by decide
  exact this k h
theorem words8 {lit : AV → ByteArray} {i : Nat} {x : IN} (hi : I64 i) (hx : Small lit x) (hk : x.k.toNat < 22) : ∀ s ∈ w0B i x ++ w1B x ++ w2B lit x ++ w3B x, s.size ≤ 10000 := by
  intro s hs
  have big : ∀ n, I64 n → (itoaB n).size ≤ 10000 := fun n hn => Nat.le_trans (itoaB_size n hn) (by omega)
  simp only [List.mem_append] at hs
  rcases hs with ((hs | hs) | hs) | hs
  · unfold w0B at hs
    simp only [List.mem_append, List.mem_cons, List.not_mem_nil, or_false, List.mem_map] at hs
    rcases hs with (rfl | rfl) | ⟨p, hp, rfl⟩
    · exact big _ hi
    · exact kNameB_size _ hk
    · refine big _ ?_
      unfold getF; split
      · exact hx.a
      · split
        · exact hx.b
        · exact hx.c
  · unfold w1B at hs
    split at hs
    · simp at hs; subst hs; exact infoO_size _
    · simp at hs
  · unfold w2B at hs
    split at hs
    · simp at hs; subst hs; exact hx.lit
    · simp at hs
  · unfold w3B at hs
    split at hs
    · simp at hs
    · simp at hs; subst hs; exact hx.nm
theorem Text35 (lit : AV → ByteArray) (l : List IN) (w : World) (hT : Tab w) (lo : Option Addr) (lc : Nat) (hl : InsL w lo l) (hsm : ∀ x ∈ l, Small lit x)
    (hlit : ∀ x ∈ l, x.k = 2 → checkE x.v = 0 → ∀ W, Below w.heap.size w W → ∀ R', (∀ W', Below W.heap.size W W' → R' (.returned (.string (lit x.v))) W') → Calls Tryz.prog (litF x.v.1) #[vVal x.v] W R') (R : Ending → World → Prop)
    (h0 : chkC l = 0 → ∀ W, Below w.heap.size w W → R (.returned (.tuple #[.string (textN lit l l.length), .int .i64 0])) W)
    (h1 : chkC l ≠ 0 → ∀ W, Below w.heap.size w W → R (.returned (.tuple #[.string ⟨#[]⟩, .int .i64 (chkC l)])) W) : Calls Tryz.prog 11 #[.slice lo l.length lc] w R := by
  refine c11 _ _ _ _ _ ?_
  unfold vc11
  refine kCall_i (Tryz.call14 _ _) (Check19 l w lo lc hl (fun x hx => Nat.le_trans (hsm x hx).arl (by omega)) _ fun W hB => kNe_int (kIf_ne (fun q => h1 q W hB) (fun q => ?_)))
  obtain ⟨hlen, hright⟩ := chkC_all q
  have hS := (St.start w).bel hB
  refine kAlloc_st Tryz.zeroValue67 hS fun bo W hS => ?_
  have hS : St w [.bx bo 67 #[.pointer none, .slice none 0 0]] W := hS
  have hS := hS.adopt (o := .row (.slice none 0 0) 5 1 0 []) (World.ownsRow_nil _ _ _ _) (fun p hp => by simp at hp; subst hp; exact .inr (fun e => by cases e))
  refine kCall_i (Tryz.call27 _ _) (kinds38 W _ fun bm es N W2 hSk hK => ?_)
  have hS := hS.join hSk
  have hB0 : BuiltP w bo ⟨#[]⟩ (.ob bm (.map es 21) :: N) W2 := ⟨none, _, .inl rfl, hS⟩
  refine xLen22 ⟨⟨fun cs V => ∃ i : Nat, cs = [.int .i64 i] ∧ i ≤ l.length ∧ (textN lit l i).size ≤ i * 1000000 ∧ BuiltP w bo (textN lit l i) (.ob bm (.map es 21) :: N) V, fun cs _ => l.length - (match cs with | [.int _ i] => i.toNat | _ => 0), ⟨0, rfl, Nat.zero_le _, Nat.le_refl _, hB0⟩, ?_⟩⟩
  rintro cs ds V ⟨i, rfl, hi, hsz, hBP⟩
  dsimp only [List.getD_cons_zero]
  refine kBin_lss (kIf_d (fun e => ?_) (fun e => ?_))
  rotate_left
  · have hie : i = l.length := by omega
    subst hie
    exact kCall_i (Tryz.call34 _ _) (hBP.tell _ fun W' hB => h0 q W' hB)
  have hil : i < l.length := by omega
  have htx : textN lit l (i + 1) = textN lit l i ++ (joinB spB (wordsB lit i l[i]) ++ nlB) := by
    show textN lit l i ++ (joinB spB (wordsB lit i (l.getD i in0)) ++ nlB) = _
    rw [show l.getD i in0 = l[i] by simp [hil]]
  have hxs := hsm l[i] (List.getElem_mem hil)
  have hxr := rightC_k (hright l[i] (List.getElem_mem hil))
  have hxl := hlit l[i] (List.getElem_mem hil)
  obtain ⟨pb, po, p, pc, rfl, hpb, hpr, hpx⟩ := hl.elem hil
  obtain ⟨qo, vo, hqo, hS⟩ := hBP
  have hpr : V.rangeAt pb (po + i * 10) (inV l[i] p pc).cells.toList := fun j v hj => by
    rw [World.cell?_of_block (w := w) (hS.below.block pb hpb)]; exact hpr j v hj
  generalize l[i] = x at *
  obtain ⟨k, hkx⟩ : ∃ k : Nat, x.k = (k : Int) := ⟨x.k.toNat, by omega⟩
  have hk1 : 1 ≤ k := by omega
  have hk2 : k ≤ 21 := by omega
  have hkt : x.k.toNat = k := by omega
  obtain ⟨j, v, hf, a, cp, r, rfl, hrow, hr⟩ := hK.some hk1 hk2
  rw [← hkx] at hf
  obtain ⟨L, hLd⟩ : ∃ L : List Own, L = .bx bo 67 #[.pointer qo, vo] :: .row vo 5 1 (textN lit l i).size (Lib.strCells (textN lit l i)) :: .ob bm (.map es 21) :: N := ⟨_, rfl⟩
  have hS : St w L V := by rw [hLd]; exact hS
  have i2 : L[2]? = some (.ob bm (.map es 21)) := by rw [hLd]; rfl
  have hNL : ∀ o ∈ N, o ∈ L := fun o ho => by rw [hLd]; exact List.mem_cons_of_mem _ (List.mem_cons_of_mem _ (List.mem_cons_of_mem _ ho))
  have h64 : I64 (i : Int) := ⟨by omega, by omega⟩
  refine xIa22 hil (xLdE62 hpr rfl rfl (kAlloc_st Tryz.zeroValue62 hS fun b8 V hS => kStoreAR (cs' := inC x p x.ar.length pc) hS rfl (by simp [inC, Value.oneCell']) Tryz.sizeOf62 fun V hS => kDrawn_i (kDrawn_i ?_)))
  refine xFa62_0 (kLd hS _ at_r rfl rfl (kLook_map (c := ⟨Tryz.prog, _, true⟩) (hS.get 2 (at_l i2)).2 Tryz.underlying68 Tryz.underlying33 rfl hf (kFd84_0 (kDrew_st hS fun W hS => ?_))))
  refine kCall_i (Tryz.call28 _ _) (Itoa53 i h64 W (hT.below hS.below) _ fun W2 hB => ?_)
  have hS := hS.bel hB
  refine xFa62_0 (kSame_i (kLd hS _ at_r rfl rfl (kSame_i (kLook_map (c := ⟨Tryz.prog, _, true⟩) (hS.get 2 (at_l i2)).2 Tryz.underlying68 Tryz.underlying33 rfl hf (kSame_i (kFd84_0 (kSame_i (kDrew_st hS fun W hS => ?_))))))))
  refine kBuildS_st (xE74 W) hS [vStr (itoaB i), vStr (kNameB k)] rfl rfl (by omega) (by omega) (by simp [vStr, Value.cells]) fun y W hS => kDrew_st hS fun W hS => ?_
  refine xFa62_0 (kLd hS L.length (at_l at_r) rfl rfl (kLook_map (c := ⟨Tryz.prog, _, false⟩) (hS.get 2 (at_l (at_l i2))).2 Tryz.underlying68 Tryz.underlying33 rfl hf (kFd84_1 (xLen70 ?_))))
  have hS : St w (L ++ [.bx b8 62 (inC x p x.ar.length pc)] ++ [.row y 9 1 ([itoaB i, kNameB k] ++ ((kParts k).take 0).map (fun p => itoaB (getF p.1 x))).length (([itoaB i, kNameB k] ++ ((kParts k).take 0).map (fun p => itoaB (getF p.1 x))).map vStr)] ) W := hS
  have i8 : ∀ {M : List Own}, (L ++ [Own.bx b8 62 (inC x p x.ar.length pc)] ++ M)[L.length]? = some (.bx b8 62 (inC x p x.ar.length pc)) := fun {M} => at_l at_r
  refine ⟨⟨fun cs V => ∃ (j : Nat) (y : Value), cs = [y, .int .i64 j] ∧ j ≤ (kParts k).length ∧ St w (L ++ [.bx b8 62 (inC x p x.ar.length pc)] ++ [.row y 9 1 ([itoaB i, kNameB k] ++ ((kParts k).take j).map (fun p => itoaB (getF p.1 x))).length (([itoaB i, kNameB k] ++ ((kParts k).take j).map (fun p => itoaB (getF p.1 x))).map vStr)]) V, fun cs _ => (kParts k).length - (match cs with | [_, .int _ i] => i.toNat | _ => 0), ⟨0, y, rfl, Nat.zero_le _, hS⟩, ?_⟩⟩
  have hk3 : (kParts k).length ≤ 3 := by
    have : ∀ k, k < 22 → (kParts k).length ≤ 3 := by decide
    exact this k (by omega)
  rintro cs ds V ⟨j, y, rfl, hj, hS⟩
  dsimp only [List.getD_cons_zero, List.getD_cons_succ]
  refine kBin_lss (kIf_d (fun e => ?_) (fun e => ?_))
  · have hjl : j < (kParts k).length := by omega
    obtain ⟨qb, qo', rfl, hqb, hqr⟩ : ∃ b o, a = some ⟨b, o, none⟩ ∧ b < V.heap.size ∧ V.rangeAt b (o + j * 4) (partV (kParts k)[j]).cells.toList := by
      have := Sl.of_owns (partV_size _) (hS.all _ (List.mem_append_left _ (List.mem_append_left _ (hNL _ hrow)))) (by simp)
      obtain ⟨a', c', he, hs⟩ := this
      cases he
      exact hs.elem (i := j) (by simp [hjl])
    have hf' := kParts_at (List.getElem_mem hjl)
    have hsn : ((kParts k).take (j + 1)).map (fun p => itoaB (getF p.1 x)) = ((kParts k).take j).map (fun p => itoaB (getF p.1 x)) ++ [itoaB (getF (kParts k)[j].1 x)] := by
      rw [List.take_succ_eq_append_getElem hjl, List.map_append]; rfl
    generalize (kParts k)[j] = q at hqr hf' hsn
    have hg : I64 (getF q.1 x) := by
      unfold getF; split
      · exact hxs.a
      · split
        · exact hxs.b
        · exact hxs.c
    refine xIa70 hjl (xLdE77 hqr rfl rfl (kAlloc_st Tryz.zeroValue77 hS fun b11 V hS => kStoreAR (cs' := #[.func (.func q.1) #[] #[], .int .i64 q.2.1, .int .i64 q.2.2.1, .bool q.2.2.2]) hS rfl (by simp [Value.oneCell']) Tryz.sizeOf77 fun V hS => ?_))
    refine xFa77_0 (kLd hS _ at_r rfl rfl (at_call hf' (kNil_p (kLd hS L.length (at_l i8) (inC_get hf' _ _ _ _) rfl ?_))))
    refine kCall_i (Tryz.call28 _ _) (Itoa53 (getF q.1 x) hg V (hT.below hS.below) _ fun W hB => ?_)
    have hS := (hS.bel hB).init
    refine kAppS hS (by simp; omega) fun x' W hS => kBin_add (kD_i ⟨⟨j + 1, x', ?_, hjl, ?_⟩, ?_⟩)
    · rw [wrap_id (by omega) (by omega)]; rfl
    · rw [hsn, ← List.append_assoc]; exact hS
    · rw [wrap_id (by omega) (by omega)]; show (kParts k).length - ((j : Int) + 1).toNat < (kParts k).length - (j : Int).toNat; omega
  have hje : j = (kParts k).length := by omega
  rw [hje, List.take_length] at hS
  have hS : St w (L ++ [.bx b8 62 (inC x p x.ar.length pc)] ++ [.row y 9 1 (w0B i x).length ((w0B i x).map vStr)]) V := by
    unfold w0B; rw [hkt]; exact hS
  have hl0 : (w0B i x).length ≤ 5 := by unfold w0B; rw [hkt]; simp; omega
  refine kJn_inv (fun cs V => ∃ y, cs = [y] ∧ St w (L ++ [.bx b8 62 (inC x p x.ar.length pc)] ++ [.row y 9 1 (w0B i x ++ w1B x).length ((w0B i x ++ w1B x).map vStr)]) V) ?_ ?_
  rotate_left
  · intro J hJ
    refine xFa62_4 (kLd hS L.length i8 rfl rfl (kCall_i (Tryz.call29 _ _) (Info28 x.o V _ fun W hB => kExt_0 (kExt_1 (kAlloc_st Tryz.zeroValue82 (hS.bel hB) fun b12 W hS => kStoreAR hS rfl (by simp [iVal, Value.oneCell']) Tryz.sizeOf82 fun W hS => kIf_d (fun q => ?_) (fun q => ?_))))))
    · refine xFa82_0 (kLd hS _ at_r rfl rfl (kAppS hS.init (by omega) fun x' W hS => kD_i (hJ _ _ ⟨x', rfl, ?_⟩)))
      rw [show w1B x = [(infoO x.o).1] from if_pos q]; exact hS
    · refine kD_i (hJ _ _ ⟨y, rfl, ?_⟩)
      rw [show w1B x = [] from if_neg q, List.append_nil]; exact hS.init
  rintro cs V ⟨y, rfl, hS⟩ ds1
  try dsimp only [List.getD_cons_zero]
  have hl1 : (w0B i x ++ w1B x).length ≤ 6 := by
    rw [List.length_append]
    have : (w1B x).length ≤ 1 := by unfold w1B; split <;> simp
    omega
  refine kJn_inv (fun cs V => ∃ y, cs = [y] ∧ St w (L ++ [.bx b8 62 (inC x p x.ar.length pc)] ++ [.row y 9 1 (w0B i x ++ w1B x ++ w2B lit x).length ((w0B i x ++ w1B x ++ w2B lit x).map vStr)]) V) ?_ ?_
  rotate_left
  · intro J hJ
    refine xFa62_0 (kLd hS L.length i8 rfl rfl (kEq_int (kIf_eq (fun q => ?_) (fun q => ?_))))
    · have q : x.k = 2 := q
      refine xFa62_5 (xLdE59 (bxV hS L.length i8) rfl rfl (kCall_i (Tryz.call30 _ _) (Literal55 x.v (hxr.2.2 q) (lit x.v) V _ (fun W hB => hxl q (hxr.2.2 q) W (hS.bel hB).below) fun W hB => kExt_0 (kExt_1 (kAppS (hS.bel hB) (by omega) fun x' W hS => kD_i (hJ _ _ ⟨x', rfl, ?_⟩))))))
      rw [show w2B lit x = [lit x.v] from if_pos q]; exact hS
    · refine kD_i (hJ _ _ ⟨y, rfl, ?_⟩)
      rw [show w2B lit x = [] from if_neg q, List.append_nil]; exact hS
  rintro cs V ⟨y, rfl, hS⟩ ds2
  try dsimp only [List.getD_cons_zero]
  have hl2 : (w0B i x ++ w1B x ++ w2B lit x).length ≤ 7 := by
    rw [List.length_append]
    have : (w2B lit x).length ≤ 1 := by unfold w2B; split <;> simp
    omega
  refine kJn_inv (fun cs V => ∃ y, cs = [y] ∧ St w (L ++ [.bx b8 62 (inC x p x.ar.length pc)] ++ [.row y 9 1 (w0B i x ++ w1B x ++ w2B lit x ++ w3B x).length ((w0B i x ++ w1B x ++ w2B lit x ++ w3B x).map vStr)]) V) ?_ ?_
  rotate_left
  · intro J hJ
    refine xFa62_6 (kLd hS L.length i8 rfl rfl (kNe_str (kIf_nd (fun q => ?_) (fun q => ?_))))
    · refine xFa62_6 (kLd hS L.length i8 rfl rfl (kAppS hS (by omega) fun x' W hS => kD_i (hJ _ _ ⟨x', rfl, ?_⟩)))
      rw [show w3B x = [x.nm] from if_neg q]; exact hS
    · refine kD_i (hJ _ _ ⟨y, rfl, ?_⟩)
      rw [show w3B x = [] from if_pos q, List.append_nil]; exact hS
  rintro cs V ⟨y, rfl, hS⟩ ds3
  try dsimp only [List.getD_cons_zero]
  have hl3 : (w0B i x ++ w1B x ++ w2B lit x ++ w3B x).length ≤ 8 := by
    rw [List.length_append]
    have : (w3B x).length ≤ 1 := by unfold w3B; split <;> simp
    omega
  have harl := hxs.arl
  refine xFa62_7 (kLd hS L.length i8 rfl rfl ?_)
  refine kCall_i (Tryz.call33 _ _) (some58 x.ar hxs.ar V (hT.below hS.below) p pc (hpx.below hS.below) (by omega) _ fun y2 W hS2 => ?_)
  have hS := hS.join hS2
  generalize hwd : w0B i x ++ w1B x ++ w2B lit x ++ w3B x = wd at hS hl3
  refine kAppRow_st (xE74 W) hS _ _ (at_l at_r) at_r (by
    intro u hu
    obtain ⟨z, _, rfl⟩ := List.mem_map.1 hu
    rfl) (by simp [maxLen]; omega) (by omega) fun x' W hS => ?_
  rw [set_l _ at_r, set_r] at hS
  have hS := hS.init
  have hwl : (wordsB lit i x).length = wd.length + x.ar.length := by unfold wordsB; rw [hwd]; simp [itoas]
  have hS : St w (L ++ [.bx b8 62 (inC x p x.ar.length pc)] ++ [.row x' 9 1 (wordsB lit i x).length ((wordsB lit i x).map vStr)]) W := by
    rw [hwl]; unfold wordsB; rw [hwd, List.map_append]; exact hS
  have hown : W.ownsRow w.heap.size 9 1 x' (wordsB lit i x).length ((wordsB lit i x).map vStr) := hS.get _ at_r
  have hown' : W.ownsRow w.heap.size 9 1 x' (wordsB lit i x).length (flat ((wordsB lit i x).map vStr)) := by rw [flatS]; exact hown
  obtain ⟨wa, wc, rfl, hsl⟩ := Sl.of_owns (vStr_size _) hown' (by simp)
  have hs1 : sumS (wordsB lit i x) ≤ 290000 := by
    have e1 := sumS_bound (words8 h64 hxs (by omega))
    have e2 : sumS (itoas x.ar) ≤ 21 * (itoas x.ar).length := sumS_bound (fun s hs => by
      obtain ⟨n, hn, rfl⟩ := List.mem_map.1 hs
      exact itoaB_size n (hxs.ar n hn))
    rw [show wordsB lit i x = (w0B i x ++ w1B x ++ w2B lit x ++ w3B x) ++ itoas x.ar from rfl, sumS_app]
    rw [hwd] at e1 ⊢
    simp only [itoas, List.length_map] at e2
    simp only [itoas]
    omega
  refine kCall_i (Tryz.call32 _ _) (Join57 (wordsB lit i x) spB W wa wc hsl (row_cap hown) (by omega) (by decide) (by omega) _ fun W2 hB => ?_)
  have hS := hS.bel hB
  have hjs := join_size spB (wordsB lit i x)
  have hsp : spB.size = 1 := rfl
  have hnl : nlB.size = 1 := rfl
  rw [hsp, Nat.one_mul] at hjs
  refine kAdd_str (b := nlB) (by rw [hnl]; omega) ?_
  rw [hLd] at hS
  refine kCall_i (Tryz.call31 _ _) (Write56 hqo hS (by rw [ByteArray.size_append, hnl]; omega) _ fun v' W3 hS3 => kBin_add (kD_i ⟨⟨i + 1, ?_, hil, ?_, some ⟨bo, 0, none⟩, v', .inr rfl, ?_⟩, ?_⟩))
  · rw [wrap_id (by omega) (by omega)]; rfl
  · rw [htx, ByteArray.size_append, ByteArray.size_append, hnl]; omega
  · rw [htx, ByteArray.size_append, strCells_app]
    exact (show St w ((Own.bx bo 67 #[.pointer (some ⟨bo, 0, none⟩), v'] :: Own.row v' 5 1 _ _ :: .ob bm (.map es 21) :: N) ++ [_] ++ [_]) W3 from hS3).init.init
  · rw [wrap_id (by omega) (by omega)]; show l.length - ((i : Int) + 1).toNat < l.length - (i : Int).toNat; omega
end Go.L
namespace Go.L
open Go Go.RowKit Go.Proofs
set_option linter.unusedSimpArgs false
set_option linter.unusedVariables false

def rowI : List IN := [⟨2, 3, 0, 0, 0, (2, 5, ⟨#[]⟩), ⟨#[]⟩, []⟩, ⟨9, 3, 0, 0, 0, (0, 0, ⟨#[]⟩), ⟨#[]⟩, []⟩, ⟨3, 4, 0, 0, 1, (0, 0, ⟨#[]⟩), ⟨#[]⟩, [3, 3]⟩, ⟨1, 0, 0, 0, 0, (0, 0, ⟨#[]⟩), ⟨#[]⟩, []⟩]
theorem built36v (a b : Int) : Tryz.prog.built 59 [(0, .int .i64 a), (1, .int .i64 b)] = some #[.int .i64 a, .int .i64 b, .string ⟨#[]⟩] := by kernel_rfl
theorem built36a (k a : Int) (v : AV) : Tryz.prog.built 62 [(0, .int .i64 k), (1, .int .i64 a), (5, vVal v)] = some (inC ⟨k, a, 0, 0, 0, v, ⟨#[]⟩, []⟩ none 0 0) := by kernel_rfl
theorem built36b (k a : Int) : Tryz.prog.built 62 [(0, .int .i64 k), (1, .int .i64 a)] = some (inC ⟨k, a, 0, 0, 0, (0, 0, ⟨#[]⟩), ⟨#[]⟩, []⟩ none 0 0) := by kernel_rfl
theorem built36c (k a o : Int) (p : Option Addr) (n cp : Nat) : Tryz.prog.built 62 [(0, .int .i64 k), (1, .int .i64 a), (4, .int .i64 o), (7, .slice p n cp)] = some (inC ⟨k, a, 0, 0, o, (0, 0, ⟨#[]⟩), ⟨#[]⟩, []⟩ p n cp) := by kernel_rfl
theorem built36d (k : Int) : Tryz.prog.built 62 [(0, .int .i64 k)] = some (inC ⟨k, 0, 0, 0, 0, (0, 0, ⟨#[]⟩), ⟨#[]⟩, []⟩ none 0 0) := by kernel_rfl
theorem row36 (w : World) (R : Ending → World → Prop) (h : ∀ a cp W, Below w.heap.size w W → InsL W a rowI → 4 ≤ cp → R (.returned (.slice a 4 cp)) W) : Calls Tryz.prog 25 #[] w R := by
  refine c25 _ _ ?_
  unfold vc25
  refine kBuild_i (built36v 2 5) (kBuild_i (built36a 2 3 (2, 5, ⟨#[]⟩)) (kBuild_i (built36b 9 3) ?_))
  refine kBS (xE60 w) (St.start w) [vInt 3, vInt 3] rfl rfl (by omega) (by omega) (by simp [vInt, Value.cells]) fun a cp W hS hsl => ?_
  refine kBuild_i (built36c 3 4 1 a 2 cp) (kBuild_i (built36d 1) ?_)
  refine kBS (xE22 W) hS [inV ⟨2, 3, 0, 0, 0, (2, 5, ⟨#[]⟩), ⟨#[]⟩, []⟩ none 0, inV ⟨9, 3, 0, 0, 0, (0, 0, ⟨#[]⟩), ⟨#[]⟩, []⟩ none 0, inV ⟨3, 4, 0, 0, 1, (0, 0, ⟨#[]⟩), ⟨#[]⟩, [3, 3]⟩ a cp, inV ⟨1, 0, 0, 0, 0, (0, 0, ⟨#[]⟩), ⟨#[]⟩, []⟩ none 0] rfl rfl (by omega) (by omega) (by simp [inV, Value.cells]) fun a2 cp2 W hS hsl2 => ?_
  have hown : W.ownsRow w.heap.size 62 10 (.slice a2 4 cp2) 4 _ := hS.get 1 rfl
  refine h a2 cp2 W hS.below ⟨_, hsl2, rfl, ?_⟩ (row_cap hown)
  have hs3 := hS.sl 0 (vs := [vInt 3, vInt 3]) rfl (by simp [vInt, Value.cells]) rfl
  intro i x hx
  match i, hx with
  | 0, hx => cases hx; exact ⟨_, rfl, none, 0, rfl, Sl.nil _ _⟩
  | 1, hx => cases hx; exact ⟨_, rfl, none, 0, rfl, Sl.nil _ _⟩
  | 2, hx => cases hx; exact ⟨_, rfl, a, cp, rfl, hs3⟩
  | 3, hx => cases hx; exact ⟨_, rfl, none, 0, rfl, Sl.nil _ _⟩
end Go.L
namespace Go.L
open Go Go.RowKit Go.Proofs
set_option linter.unusedSimpArgs false
set_option linter.unusedVariables false

/-- Cells of instructions, and what they read as: args lie in W. -/
def InsV (W : World) (vs : List Value) (l : List IN) : Prop := vs.length = l.length ∧ ∀ (i : Nat) (x : IN), l[i]? = some x → ∃ v, vs[i]? = some v ∧ InsAt W v x
theorem InsV.below {W W' : World} {vs : List Value} {l : List IN} (h : InsV W vs l) (hB : Below W.heap.size W W') : InsV W' vs l :=
  ⟨h.1, fun i x hi => by obtain ⟨v, hv, ha⟩ := h.2 i x hi; exact ⟨v, hv, ha.below hB⟩⟩
theorem InsV.cells {W : World} {vs : List Value} {l : List IN} (h : InsV W vs l) : ∀ v ∈ vs, v.cells.size = 10 ∧ ∀ u ∈ v.cells.toList, u.oneCell' = true := by
  intro v hv
  obtain ⟨i, hi, rfl⟩ := List.mem_iff_getElem.1 hv
  have hil : i < l.length := by rw [← h.1]; exact hi
  obtain ⟨v', hv', p, pc, rfl, _⟩ := h.2 i l[i] (by simp [hil])
  have e : vs[i] = inV l[i] p pc := by
    rw [List.getElem?_eq_getElem hi] at hv'; exact Option.some.inj hv'
  rw [e]
  exact ⟨rfl, by simp [inV, Value.cells, Value.oneCell']⟩
theorem Clone60 (l : List IN) (vs : List Value) (w : World) (lo : Option Addr) (lc : Nat) (hs : Sl w lo 10 vs) (hV : InsV w vs l) (hsm : l.length ≤ 1000000) (R : Ending → World → Prop)
    (h : ∀ x W, Below w.heap.size w W → W.ownsRow w.heap.size 62 10 x l.length (flat vs) → R (.returned x) W) : Calls Tryz.prog 39 #[.slice lo l.length lc] w R := by
  have hlen := hV.1
  refine c39 _ _ _ _ _ ?_
  unfold vc39
  refine kEqNil (c := ⟨Tryz.prog, _, false⟩) Tryz.underlying22 ?_
  cases lo with
  | none =>
    have hvs : vs = [] := by
      rcases hs.at_ with q | ⟨b, o, q, _⟩
      · exact q
      · cases q
    subst hvs
    have : l = [] := List.eq_nil_of_length_eq_zero (by rw [← hlen]; rfl)
    subst this
    exact kIf_t (h _ w (Below.refl _ _) (World.ownsRow_nil _ _ _ _))
  | some ad =>
    refine kIf_f (kBuildS0 (xE22 w) (St.start w) fun x W hS => ?_)
    have hsrc := Src.of_sl (hs.below hS.below) hlen.symm (by simp) (cp := lc) (n := l.length)
    refine kAppSrc_st (xE22 W) hS 0 rfl hsrc (m := l.length) hlen (fun v hv => (hV.cells v hv).2) (by simp only [maxLen]; omega) (by omega) fun x' W hS => ?_
    have hS : St w [.row x' 62 10 (0 + l.length) ([] ++ flat vs)] W := hS
    rw [Nat.zero_add, List.nil_append] at hS
    exact h x' W hS.below (hS.get 0 rfl)
/-- The pairs that are gone over. -/
def tgtI (i : Nat) (x : IN) (j : Nat) : List (Nat × Int) := (((kParts x.k.toNat).take j).filter (fun p => p.2.2.2)).map (fun p => (i, getF p.1 x))
def tgtN (l : List IN) : Nat → List (Nat × Int)
  | 0 => []
  | i + 1 => tgtN l i ++ tgtI i (l.getD i in0) (kParts (l.getD i in0).k.toNat).length
theorem Targets37 (l : List IN) (w : World) (lo : Option Addr) (lc : Nat) (hl : InsL w lo l) (hsm : ∀ x ∈ l, x.ar.length ≤ 1000000) (hlen : l.length ≤ 1000000) (R : Ending → World → Prop)
    (h : ∀ b1 b3 b4 bm x vs es N W, InsV w vs l → KIs es N 21 → St w ([.bx b1 22 #[x], .ob bm (.map es 21)] ++ N ++ [.bx b3 68 #[.map (some bm)]] ++ [.bx b4 4 #[.bool (chkC l == 0)]] ++ [.row x 62 10 l.length (flat vs)]) W → R (.returned (.func (.func 40) #[] #[.pointer (some ⟨b1, 0, none⟩), .pointer (some ⟨b3, 0, none⟩), .pointer (some ⟨b4, 0, none⟩)])) W) : Calls Tryz.prog 16 #[.slice lo l.length lc] w R := by
  refine c16 _ _ _ _ _ ?_
  unfold vc16
  refine kBox_st (St.start w) fun b1 W hS => kCall_i (Tryz.call27 _ _) (kinds38 W _ fun bm es N W2 hSk hK => ?_)
  have hS := hS.join hSk
  have hS : St w ([.bx b1 22 #[.slice lo l.length lc], .ob bm (.map es 21)] ++ N) W2 := hS
  refine kAlloc_st Tryz.zeroValue68 hS fun b3 W hS => kSt hS _ at_r (by simp [Value.cells]) rfl rfl rfl fun W hS => ?_
  rw [set_r] at hS
  have g0 : ∀ {x : Value} {M : List Own}, ([Own.bx b1 22 #[x], .ob bm (.map es 21)] ++ N ++ M)[0]? = some (.bx b1 22 #[x]) := fun {x M} => rfl
  refine kLd hS 0 g0 rfl rfl (kCall_i (Tryz.call14 _ _) (Check19 l W lo lc (hl.below hS.below) hsm _ fun W hB => kEq_int ?_))
  have hS := hS.bel hB
  refine kAlloc_st Tryz.zeroValue4 hS fun b4 W hS => kSt hS _ at_r (by simp [Value.cells]) rfl rfl rfl fun W hS => ?_
  rw [set_r] at hS
  obtain ⟨vs, hs, hvl, hvx⟩ := hl
  have hV : InsV w vs l := ⟨hvl, hvx⟩
  refine kLd hS 0 rfl rfl rfl (kCall_i (Tryz.call39 _ _) (Clone60 l vs W lo lc (hs.below hS.below) (hV.below hS.below) hlen _ fun x W2 hB ho => ?_))
  have hS := hS.made hB ho
  refine kSt hS 0 rfl (by simp) (row_cells ho).1 (row_cells ho).2 rfl fun W hS => ?_
  exact h b1 b3 b4 bm x vs es N W hV hK hS
end Go.L
namespace Go.L
open Go Go.RowKit Go.Proofs
set_option linter.unusedSimpArgs false
set_option linter.unusedVariables false

theorem kLook_none {P : Program} {X : Chain → World → Prop} {q : Bool} {w : World} {k : Value → World → Prop} {t kt et : TypeId} {d : TypeDesc} {key z : Value} {b clock : Nat} {es : Array MapEntry} (hb : w.heap[b]? = some (.map es clock)) (hm : P.underlying t = some (.map kt et)) (hk : P.underlying kt = some d)
    (hkey : MapKept.IsKey d key) (hf : Instr.findNow d key es.toList 0 = some none) (hz : ∀ w, (zeroValue et).run P w = .ok z w) (h : k z w) : kLook ⟨P, X, q⟩ w t (.map (some b)) key false k :=
  ⟨kVal_look (c := ⟨P, X, q⟩) (fun n => by
    have hg : (w.drewN n).heap[b]? = some (.map es clock) := hb
    have hc : ∀ e, (Instr.checkKey e 10000 kt key).run P (w.drewN n) = .ok () (w.drewN n) := fun e => MapKept.run_checkKey hk hkey e 9999
    simp [Instr.lookup, run_underlying hm, MapKept.run_getObj_map hg, hc, MapKept.run_findKey hk hf, Result.andThen, hz]) h⟩
theorem kParts_no {z : Int} (h : ¬ (1 ≤ z ∧ z ≤ 21)) : kParts z.toNat = [] := by
  by_cases h0 : z ≤ 0
  · rw [show z.toNat = 0 by omega]; rfl
  · unfold kParts
    rw [List.getD_eq_getElem?_getD, List.getElem?_eq_none (by simp; omega)]; rfl
/-- The parts of a kind, looked up. -/
theorem look_parts {w0 w : World} {L N : List Own} {bm : Nat} {es : Array MapEntry} (hK : KIs es N 21) (hS : St w0 L w) (j : Nat) (hj : L[j]? = some (.ob bm (.map es 21))) (hN : ∀ o ∈ N, o ∈ L) (z : Int) {X : Chain → World → Prop} {q : Bool} {k : Value → World → Prop}
    (h : ∀ s a cp r, ((kParts z.toNat = [] ∧ a = none ∧ cp = 0) ∨ Own.row (.slice a (kParts z.toNat).length cp) 77 4 (kParts z.toNat).length (flat ((kParts z.toNat).map partV)) ∈ N) → k (.agg #[.string s, .slice a (kParts z.toNat).length cp, r]) w) : kLook ⟨Tryz.prog, X, q⟩ w 68 (.map (some bm)) (.int .i64 z) false k := by
  by_cases hz : 1 ≤ z ∧ z ≤ 21
  · obtain ⟨n, rfl⟩ : ∃ n : Nat, z = (n : Int) := ⟨z.toNat, by omega⟩
    obtain ⟨j', v, hf, a, cp, r, rfl, hrow, hr⟩ := hK.some (z := n) (by omega) (by omega)
    exact kLook_map (c := ⟨Tryz.prog, X, q⟩) (hS.get j hj).2 Tryz.underlying68 Tryz.underlying33 rfl hf (h _ a cp r (.inr hrow))
  · have hp := kParts_no hz
    refine kLook_none (hS.get j hj).2 Tryz.underlying68 Tryz.underlying33 rfl (hK.none hz) Tryz.zeroValue73 ?_
    have := h ⟨#[]⟩ none 0 .nilFunc (.inl ⟨hp, rfl, rfl⟩)
    rw [hp] at this; exact this
def tgF (fine : Bool) (l : List IN) (i : Nat) : List (Nat × Int) := if fine then tgtN l i else []
def tgX (fine : Bool) (l : List IN) (n : Nat) : List Value := [.int .i64 (((tgF fine l l.length).getD n (0, 0)).1 : Nat), .int .i64 ((tgF fine l l.length).getD n (0, 0)).2]
theorem tgtN_pre (l : List IN) : ∀ (m i : Nat), ∃ r, tgtN l (i + m) = tgtN l i ++ r
  | 0, i => ⟨[], by simp⟩
  | m + 1, i => by
    obtain ⟨r, hr⟩ := tgtN_pre l m i
    exact ⟨_, by rw [← Nat.add_assoc, tgtN, hr, List.append_assoc]⟩
theorem tgtI_pre (i : Nat) (x : IN) : ∀ (m j : Nat), ∃ r, tgtI i x (j + m) = tgtI i x j ++ r
  | m, j => by
    refine ⟨(((kParts x.k.toNat).drop j).take m |>.filter (fun p => p.2.2.2)).map (fun p => (i, getF p.1 x)), ?_⟩
    unfold tgtI
    rw [List.take_add, List.filter_append, List.map_append]
theorem tgtI_snoc (i : Nat) (x : IN) {j : Nat} (hj : j < (kParts x.k.toNat).length) : tgtI i x (j + 1) = tgtI i x j ++ (if (kParts x.k.toNat)[j].2.2.2 then [(i, getF (kParts x.k.toNat)[j].1 x)] else []) := by
  unfold tgtI
  rw [List.take_succ_eq_append_getElem hj, List.filter_append, List.map_append]
  congr 1
  by_cases h : (kParts x.k.toNat)[j].2.2.2 = true
  · simp [h]
  · simp [h]
/-- Which pair comes next. -/
theorem tg_at {l : List IN} {i j : Nat} (hi : i < l.length) (hj : j < (kParts l[i].k.toNat).length) (hp : (kParts l[i].k.toNat)[j].2.2.2 = true) : (tgtN l l.length)[(tgtN l i ++ tgtI i l[i] j).length]? = some (i, getF (kParts l[i].k.toNat)[j].1 l[i]) := by
  obtain ⟨r, hr⟩ := tgtN_pre l (l.length - (i + 1)) (i + 1)
  rw [show i + 1 + (l.length - (i + 1)) = l.length by omega] at hr
  obtain ⟨r2, hr2⟩ := tgtI_pre i l[i] ((kParts l[i].k.toNat).length - (j + 1)) (j + 1)
  rw [show j + 1 + ((kParts l[i].k.toNat).length - (j + 1)) = (kParts l[i].k.toNat).length by omega, tgtI_snoc i l[i] hj, if_pos hp] at hr2
  have e : tgtN l (i + 1) = tgtN l i ++ tgtI i l[i] (kParts l[i].k.toNat).length := by
    show tgtN l i ++ tgtI i (l.getD i in0) _ = _
    rw [show l.getD i in0 = l[i] by simp [hi]]
  rw [hr, e, hr2]
  simp only [List.append_assoc]
  rw [← List.append_assoc, List.getElem?_append_right (Nat.le_refl _), Nat.sub_self]
  rfl
end Go.L
namespace Go.L
open Go Go.RowKit Go.Proofs
set_option linter.unusedSimpArgs false
set_option linter.unusedVariables false

/-- What the iterator over targets needs of what its caller holds. -/
structure TgA (b1 b3 b4 bm : Nat) (x : Value) (n : Nat) (vs : List Value) (es : Array MapEntry) (N : List Own) (fine : Bool) (L : List Own) : Prop where
  o1 : ∃ j : Nat, L[j]? = some (.bx b1 22 #[x])
  o3 : ∃ j : Nat, L[j]? = some (.bx b3 68 #[.map (some bm)])
  o4 : ∃ j : Nat, L[j]? = some (.bx b4 4 #[.bool fine])
  om : ∃ j : Nat, L[j]? = some (.ob bm (.map es 21))
  on : ∀ o ∈ N, o ∈ L
  ox : ∃ j : Nat, L[j]? = some (.row x 62 10 n (flat vs))
theorem TgA.app {b1 b3 b4 bm n : Nat} {x : Value} {vs : List Value} {es : Array MapEntry} {N L : List Own} {fine : Bool} (h : TgA b1 b3 b4 bm x n vs es N fine L) (M : List Own) : TgA b1 b3 b4 bm x n vs es N fine (L ++ M) :=
  ⟨h.o1.imp fun _ h => at_l h, h.o3.imp fun _ h => at_l h, h.o4.imp fun _ h => at_l h, h.om.imp fun _ h => at_l h, fun o ho => List.mem_append_left _ (h.on o ho), h.ox.imp fun _ h => at_l h⟩
/-- What is told of an instruction's cells, wherever its args lie. -/
def InsSh (vs : List Value) (l : List IN) : Prop := vs.length = l.length ∧ (∀ v ∈ vs, v.cells.size = 10) ∧ ∀ (i : Nat) (x : IN), l[i]? = some x → ∃ p pc, vs[i]? = some (inV x p pc)
theorem InsV.sh {W : World} {vs : List Value} {l : List IN} (h : InsV W vs l) : InsSh vs l :=
  ⟨h.1, fun v hv => (h.cells v hv).1, fun i x hi => by obtain ⟨v, hv, p, pc, rfl, _⟩ := h.2 i x hi; exact ⟨p, pc, hv⟩⟩
theorem iterS61 {w0 : World} {A : Nat → List Own → Prop} {b1 b3 b4 bm : Nat} {x : Value} {l : List IN} {vs : List Value} {es : Array MapEntry} {N : List Own} {fine : Bool} (hV : InsSh vs l) (hK : KIs es N 21) (hlen : l.length ≤ 1000000)
    (hA : ∀ i L, A i L → TgA b1 b3 b4 bm x l.length vs es N fine L) : IterS Tryz.prog (.func (.func 40) #[] #[.pointer (some ⟨b1, 0, none⟩), .pointer (some ⟨b3, 0, none⟩), .pointer (some ⟨b4, 0, none⟩)]) (tgF fine l l.length).length (fun i => (tgX fine l i).toArray) w0 A := by
  refine ⟨40, #[.pointer (some ⟨b1, 0, none⟩), .pointer (some ⟨b3, 0, none⟩), .pointer (some ⟨b4, 0, none⟩)], rfl, Tryz.call40, ?_⟩
  intro lp A' Z' W hsub h0 hy
  show Calls Tryz.prog 40 #[.func (.yield lp) #[] #[], .pointer (some ⟨b1, 0, none⟩), .pointer (some ⟨b3, 0, none⟩), .pointer (some ⟨b4, 0, none⟩)] W _
  refine c40 _ _ _ _ _ _ ?_
  unfold vc40
  have hAM : ∀ {i : Nat} {M : List Own}, A' i M → TgA b1 b3 b4 bm x l.length vs es N fine M := by
    intro i M h
    obtain ⟨L, N', hL, rfl⟩ := hsub i M h
    exact (hA i L hL).app N'
  obtain ⟨M, hM0, hS⟩ := h0
  obtain ⟨j1, hj1⟩ := (hAM hM0).o1
  obtain ⟨jx, hjx⟩ := (hAM hM0).ox
  have hrx : W.ownsRow w0.heap.size 62 10 x l.length (flat vs) := hS.get jx hjx
  obtain ⟨ax, cx, rfl, _⟩ := Sl.of_owns (hV.2.1) hrx hV.1
  have e00 : (tgF fine l 0).length = 0 := by unfold tgF; split <;> rfl
  refine kLd hS j1 hj1 rfl rfl (xLen22 ?_)
  refine ⟨⟨fun cs V => ∃ (i : Nat) (M E : List Own), cs = [.int .i64 i] ∧ i ≤ l.length ∧ A' (tgF fine l i).length M ∧ St w0 (M ++ E) V, fun cs _ => l.length - (match cs with | [.int _ i] => i.toNat | _ => 0), ⟨0, M, [], rfl, Nat.zero_le _, by rw [e00]; exact hM0, by rw [List.append_nil]; exact hS⟩, ?_⟩⟩
  rintro cs ds V ⟨i, M, E, rfl, hi, hM, hS⟩
  dsimp only [List.getD_cons_zero]
  refine kBin_lss (kIf_d (fun e => ?_) (fun e => ?_))
  rotate_left
  · have hie : i = l.length := by omega
    rw [hie] at hM
    exact .inl ⟨M, E, hM, hS⟩
  have hil : i < l.length := by omega
  have hT := (hAM hM).app E
  obtain ⟨jx, hjx⟩ := hT.ox
  have hrx : V.ownsRow w0.heap.size 62 10 (.slice ax l.length cx) l.length (flat vs) := hS.get jx hjx
  obtain ⟨_, _, he, hslx⟩ := Sl.of_owns (hV.2.1) hrx hV.1
  cases he
  obtain ⟨p, pc, hv⟩ := hV.2.2 i l[i] (by simp [hil])
  obtain ⟨pb, po, rfl, hpb, hpr⟩ := hslx.elem hv
  have htg := tgtN_pre l
  have hstep : tgF fine l (i + 1) = tgF fine l i ++ (if fine then tgtI i l[i] (kParts l[i].k.toNat).length else []) := by
    unfold tgF
    split
    · show tgtN l i ++ tgtI i (l.getD i in0) _ = _
      rw [show l.getD i in0 = l[i] by simp [hil]]
    · rfl
  have hat := fun j (hj : j < (kParts l[i].k.toNat).length) => tg_at (l := l) (i := i) (j := j) hil hj
  generalize l[i] = y at *
  refine xIa22 hil (xLdE62 hpr rfl rfl (kAlloc_st Tryz.zeroValue62 hS fun b6 V hS => kStoreAR (cs' := inC y p y.ar.length pc) hS rfl (by simp [inC, Value.oneCell']) Tryz.sizeOf62 fun V hS => ?_))
  have hT6 := hT.app [.bx b6 62 (inC y p y.ar.length pc)]
  obtain ⟨j3, hj3⟩ := hT6.o3
  obtain ⟨jm, hjm⟩ := hT6.om
  refine kLd hS j3 hj3 rfl rfl (xFa62_0 (kLd hS _ at_r rfl rfl (look_parts hK hS jm hjm hT6.on y.k fun s a cp r hrow => kFd84_1 (xLen70 ?_))))
  have hsnoc := fun j (hj : j < (kParts y.k.toNat).length) => tgtI_snoc i y hj
  have hfs : ∀ q ∈ kParts y.k.toNat, atF q.1 := fun q hq => kParts_at hq
  have hkl : (kParts y.k.toNat).length ≤ 3 := by
    have : ∀ k, k < 22 → (kParts k).length ≤ 3 := by decide
    by_cases hk : y.k.toNat < 22
    · exact this _ hk
    · rw [kParts_no (by omega)]; simp
  refine ⟨⟨fun cs V => ∃ (j : Nat) (M E : List Own), cs = [.int .i64 j] ∧ j ≤ (kParts y.k.toNat).length ∧ A' (tgF fine l i ++ (if fine then tgtI i y j else [])).length M ∧ St w0 (M ++ E ++ [.bx b6 62 (inC y p y.ar.length pc)]) V, fun cs _ => (kParts y.k.toNat).length - (match cs with | [.int _ i] => i.toNat | _ => 0), ⟨0, M, E, rfl, Nat.zero_le _, ?_, hS⟩, ?_⟩⟩
  · have : (if fine then tgtI i y 0 else []) = [] := by split <;> rfl
    rw [this, List.append_nil]; exact hM
  rintro cs ds V ⟨j, M, E, rfl, hj, hM, hS⟩
  dsimp only [List.getD_cons_zero]
  refine kBin_lss (kIf_d (fun e => ?_) (fun e => ?_))
  rotate_left
  · have hje : j = (kParts y.k.toNat).length := by omega
    rw [hje, ← hstep] at hM
    refine kBin_add (kD_i ⟨⟨i + 1, M, E ++ [.bx b6 62 (inC y p y.ar.length pc)], ?_, hil, hM, by rw [← List.append_assoc]; exact hS⟩, ?_⟩)
    · rw [wrap_id (by omega) (by omega)]; rfl
    · rw [wrap_id (by omega) (by omega)]; show l.length - ((i : Int) + 1).toNat < l.length - (i : Int).toNat; omega
  have hjl : j < (kParts y.k.toNat).length := by omega
  have hT6 := ((hAM hM).app E).app [.bx b6 62 (inC y p y.ar.length pc)]
  obtain ⟨qb, qo, rfl, hqb, hqr⟩ : ∃ b o, a = some ⟨b, o, none⟩ ∧ b < V.heap.size ∧ V.rangeAt b (o + j * 4) (partV (kParts y.k.toNat)[j]).cells.toList := by
    rcases hrow with ⟨h, _⟩ | hrow
    · rw [h] at hjl; simp at hjl
    · obtain ⟨a', c', he, hs⟩ := Sl.of_owns (partV_size _) (hS.all _ (hT6.on _ hrow)) (by simp)
      cases he
      exact hs.elem (i := j) (by simp [hjl])
  have hf := hfs _ (List.getElem_mem hjl)
  have hsn := hsnoc j hjl
  have hatj := hat j hjl
  generalize (kParts y.k.toNat)[j] = q at hqr hf hsn hatj
  refine xIa70 hjl (xLdE77 hqr rfl rfl (kAlloc_st Tryz.zeroValue77 hS fun b8 V hS => kStoreAR (cs' := #[.func (.func q.1) #[] #[], .int .i64 q.2.1, .int .i64 q.2.2.1, .bool q.2.2.2]) hS rfl (by simp [Value.oneCell']) Tryz.sizeOf77 fun V hS => ?_))
  obtain ⟨j4, hj4⟩ := (hT6.app [.bx b8 77 #[.func (.func q.1) #[] #[], .int .i64 q.2.1, .int .i64 q.2.2.1, .bool q.2.2.2]]).o4
  have go : ∀ (M' E' : List Own) (W : World), A' (tgF fine l i ++ (if fine then tgtI i y (j + 1) else [])).length M' → St w0 (M' ++ E' ++ [.bx b6 62 (inC y p y.ar.length pc)]) W →
      ∃ (j_1 : Nat) (M E : List Own), [Value.int .i64 (IntKind.i64.wrap ((j : Int) + 1))] = [.int .i64 j_1] ∧ j_1 ≤ (kParts y.k.toNat).length ∧ A' (tgF fine l i ++ (if fine then tgtI i y j_1 else [])).length M ∧ St w0 (M ++ E ++ [.bx b6 62 (inC y p y.ar.length pc)]) W :=
    fun M' E' W hM' hS' => ⟨j + 1, M', E', by rw [wrap_id (by omega) (by omega)]; rfl, hjl, hM', hS'⟩
  have meas : (kParts y.k.toNat).length - (IntKind.i64.wrap ((j : Int) + 1)).toNat < (kParts y.k.toNat).length - (j : Int).toNat := by rw [wrap_id (by omega) (by omega)]; omega
  have noY : ¬ (fine = true ∧ q.2.2.2 = true) → A' (tgF fine l i ++ (if fine then tgtI i y (j + 1) else [])).length M := fun hn => by
    have e : (if fine then tgtI i y (j + 1) else []) = (if fine then tgtI i y j else []) := by
      cases fine with
      | false => rfl
      | true =>
        have : ¬ q.2.2.2 = true := fun q2 => hn ⟨rfl, q2⟩
        simp only [if_true]
        rw [hsn, if_neg this, List.append_nil]
    rw [e]; exact hM
  refine kLd hS j4 hj4 rfl rfl (kIf_b (fun hfine => ?_) (fun hfine => kIf_f (kBin_add (kD_i ⟨go M E _ (noY (fun q => by rw [hfine] at q; cases q.1)) hS.init, meas⟩))))
  refine xFa77_3 (kLd hS _ at_r rfl rfl (kIf_b (fun hjump => ?_) (fun hjump => kIf_f (kBin_add (kD_i ⟨go M E _ (noY (fun q => by rw [hjump] at q; cases q.2)) hS.init, meas⟩)))))
  subst hfine
  refine xFa77_0 (kLd hS _ at_r rfl rfl (at_call hf (kNil_p (kLd hS (M ++ E).length (at_l at_r) (inC_get hf _ _ _ _) rfl ?_))))
  have hat2 := hatj hjump
  have hnl : (tgtN l i ++ tgtI i y j).length < (tgtN l l.length).length := (List.getElem?_eq_some_iff.1 hat2).1
  have hx : tgX true l (tgtN l i ++ tgtI i y j).length = [.int .i64 (i : Nat), .int .i64 (getF q.1 y)] := by
    unfold tgX
    show [Value.int .i64 (((tgtN l l.length).getD _ (0, 0)).1 : Nat), .int .i64 ((tgtN l l.length).getD _ (0, 0)).2] = _
    rw [List.getD_eq_getElem?_getD, hat2]; rfl
  have hS1 := hS
  rw [List.append_assoc, List.append_assoc] at hS1
  have hyy := hy (tgtN l i ++ tgtI i y j).length V M (E ++ ([.bx b6 62 (inC y p y.ar.length pc)] ++ [.bx b8 77 #[.func (.func q.1) #[] #[], .int .i64 q.2.1, .int .i64 q.2.2.1, .bool q.2.2.2]])) hnl hM hS1
  dsimp only at hyy
  rw [hx] at hyy
  refine kCallV_y hyy ?_
  intro en W' hen
  cases en with
  | outgrown => exact hen.elim
  | panicked ch => obtain ⟨M', hz, hS'⟩ := hen; exact ⟨M', _, hz, hS'⟩
  | returned v =>
    rcases hen with ⟨rfl, M', ha, hS'⟩ | ⟨rfl, ex, M', hle, hz, hS'⟩
    · refine kUn_not (kIf_f (kBin_add (kD_i ⟨go M' E _ ?_ ?_, meas⟩)))
      · simp only [if_true]
        rw [hsn, if_pos hjump, ← List.append_assoc, List.length_append]; exact ha
      · rw [← List.append_assoc, ← List.append_assoc] at hS'
        exact hS'.init
    · exact kUn_not (kIf_t (.inr ⟨M', _, ex, hle, hz, hS'⟩))
end Go.L
namespace Go.L
open Go Go.RowKit Go.Proofs
set_option linter.unusedSimpArgs false
set_option linter.unusedVariables false

def litN (v : AV) : ByteArray := itoaB v.2.1
theorem chkRow : chkC rowI = 0 := by decide +kernel
theorem textRow : textN litN rowI 4 = ⟨#[48, 32, 118, 97, 108, 117, 101, 32, 51, 32, 53, 10, 49, 32, 105, 102, 32, 51, 32, 48, 10, 50, 32, 111, 112, 32, 52, 32, 43, 32, 51, 32, 51, 10, 51, 32, 115, 116, 111, 112, 10]⟩ := by decide +kernel
end Go.L
namespace Go.L
open Go Go.RowKit Go.Proofs
set_option linter.unusedSimpArgs false
set_option linter.unusedVariables false

theorem kEq_fn77 {X : Chain → World → Prop} {q : Bool} {w : World} {k : Value → World → Prop} {ox oy : Operand} {f : FuncId} {caps : Array Value} (h : k (.bool false) w) : kEq ⟨Tryz.prog, X, q⟩ w .eql 37 ox oy (.func (.func f) #[] caps) .nilFunc k :=
  ⟨kVal_pure (c := ⟨Tryz.prog, X, q⟩) (v := .bool false) (fun w' => by
    simp only [go_sem]
    show Sem.run Tryz.prog (do pure (.bool (← Op.equal 37 (.func (.func f) #[] caps) .nilFunc)) : Sem Value) w' = _
    have : (Op.equal 37 (.func (.func f) #[] caps) .nilFunc).run Tryz.prog w' = .ok false w' := by
      unfold Op.equal Op.maxDepth Op.equalIn
      simp [run_underlying Tryz.underlying37]
    simp [this]) h⟩
theorem num18 (n : Int) (w : World) (R : Ending → World → Prop) (h : R (.returned (.int .i64 n)) w) : Calls Tryz.prog 13 #[.int .i64 n] w R := by
  refine c13 _ _ _ ?_
  unfold vc13
  exact h
def jmp (n : Int) : IN := ⟨10, 0, n, 0, 0, (0, 0, ⟨#[]⟩), ⟨#[]⟩, []⟩
theorem builtJ (k n : Int) : Tryz.prog.built 62 [(0, .int .i64 k), (2, .int .i64 n)] = some (inC ⟨k, 0, n, 0, 0, (0, 0, ⟨#[]⟩), ⟨#[]⟩, []⟩ none 0 0) := by kernel_rfl
theorem chkJ2 : chkC [jmp 2] = 2 := by decide +kernel
theorem chkJ1 : chkC [jmp 1] = 0 := by decide +kernel
theorem insL1 {W : World} {a : Option Addr} {x : IN} (hsl : Sl W a 10 [inV x none 0]) (h : x.ar = []) : InsL W a [x] := by
  refine ⟨_, hsl, rfl, ?_⟩
  intro i y hy
  match i, hy with
  | 0, hy => cases hy; exact ⟨_, rfl, none, 0, rfl, by rw [h]; exact Sl.nil _ _⟩
theorem tgf17 : tgF (chkC rowI == 0) rowI rowI.length = [(1, 0)] := by decide +kernel
/-- One instruction alone, checked. -/
theorem jump19 {X : Chain → World → Prop} {w0 w : World} {L : List Own} (hS : St w0 L w) (n : Int) {k : Value → World → Prop} (h : ∀ W, St w0 L W → k (.int .i64 (chkC [jmp n])) W) :
    kBuild ⟨Tryz.prog, X, false⟩ w 62 #[(0, .int .i64 10), (2, .int .i64 n)] fun v w => kBuildS ⟨Tryz.prog, X, false⟩ w 22 1 #[(0, v)] fun u w => kCall ⟨Tryz.prog, X, false⟩ w 14 #[u] fun r w => kCall ⟨Tryz.prog, X, false⟩ w 13 #[r] k := by
  refine kBuild_i (builtJ 10 n) ?_
  refine kBS (xE22 w) hS [inV (jmp n) none 0] rfl rfl (by omega) (by omega) (by simp [inV, jmp, Value.cells]) fun a cp W hS hsl => ?_
  refine kCall_i (Tryz.call14 _ _) (Check19 [jmp n] W a cp (insL1 hsl rfl) (by simp [jmp]) _ fun W2 hB => kCall_i (Tryz.call13 _ _) (num18 _ _ _ ?_))
  exact h _ (hS.bel hB).init
theorem works17 (w : World) (hT : Tab w) (R : Ending → World → Prop) (h : ∀ W, Below w.heap.size w W → R (.returned (.bool true)) W) : Calls Tryz.prog 9 #[] w R := by
  refine c9 _ _ ?_
  unfold vc9
  refine kAlloc_st Tryz.zeroValue4 (St.start w) fun b0 W1 hS => ?_
  have hS : St w [.bx b0 4 #[.bool false]] W1 := hS
  refine kCall_i (Tryz.call25 _ _) (row36 W1 _ fun a cp W2 hB2 hl hcp => ?_)
  have hS := hS.bel hB2
  refine kCall_i (Tryz.call11 _ _) (Text35 litN rowI W2 (hT.below hS.below) a cp hl ?_ ?_ _ (fun hc W3 hB3 => ?_) (fun hc => absurd chkRow hc))
  · intro x hx
    simp only [rowI, List.mem_cons, List.not_mem_nil, or_false] at hx
    rcases hx with rfl | rfl | rfl | rfl <;> exact ⟨by simp [I64], by simp [I64], by simp [I64], by simp [I64], by decide, by decide, by decide +kernel⟩
  · intro x hx hk _ W hB R' h'
    simp only [rowI, List.mem_cons, List.not_mem_nil, or_false] at hx
    rcases hx with rfl | rfl | rfl | rfl
    · exact lit110 (2, 5, ⟨#[]⟩) (by simp [I64]) W (hT.below (hS.bel hB).below) R' h'
    all_goals exact absurd hk (by decide)
  rw [show rowI.length = 4 from rfl, textRow]
  have hS := hS.bel hB3
  refine kExt_0 (kExt_1 ?_)
  refine kCall_i (Tryz.call25 _ _) (row36 W3 _ fun a cp W4 hB4 hl hcp => ?_)
  have hS := hS.bel hB4
  refine kCall_i (Tryz.call16 _ _) (Targets37 rowI W4 a cp hl (by decide) (by decide) _ fun b1 b3 b4 bm x vs es N W5 hV hK hSt => ?_)
  have hS := hS.join hSt
  refine kEq_fn77 (kIf_f ?_)
  refine kAlloc_st Tryz.zeroValue3 hS fun b5 W hS => kSt hS _ at_r (by simp [Value.cells]) rfl rfl rfl fun W hS => ?_
  rw [set_r] at hS
  obtain ⟨L, hL⟩ : ∃ L : List Own, L = [Own.bx b0 4 #[.bool false]] ++ ([.bx b1 22 #[x], .ob bm (.map es 21)] ++ N ++ [.bx b3 68 #[.map (some bm)]] ++ [.bx b4 4 #[.bool (chkC rowI == 0)]] ++ [.row x 62 10 rowI.length (flat vs)]) := ⟨_, rfl⟩
  have hS : St w (L ++ [.bx b5 3 #[.int .i64 0]]) W := by rw [hL]; exact hS
  have i0 : L[0]? = some (.bx b0 4 #[.bool false]) := by rw [hL]; rfl
  have hTg : TgA b1 b3 b4 bm x rowI.length vs es N (chkC rowI == 0) L := by
    have mem : ∀ {o : Own}, o ∈ L → ∃ j : Nat, L[j]? = some o := fun ho => List.mem_iff_getElem?.1 ho
    refine ⟨mem (by rw [hL]; simp), mem (by rw [hL]; simp), mem (by rw [hL]; simp), mem (by rw [hL]; simp), fun o ho => by rw [hL]; simp [ho], mem (by rw [hL]; simp)⟩
  clear hL
  have hft : (chkC rowI == 0) = true := by decide +kernel
  have htl := tgf17
  have h1 : (tgF (chkC rowI == 0) rowI rowI.length).length = 1 := by rw [htl]; rfl
  refine kRange_fr (w0 := w) (ds := []) (tgF (chkC rowI == 0) rowI rowI.length).length (fun i => tgX (chkC rowI == 0) rowI i)
    (fun i X => X = L ++ [.bx b5 3 #[.int .i64 (i : Nat)]]) (fun _ _ => False) (fun _ => rfl) ⟨_, rfl, by rw [show marks [] = [] from rfl, List.append_nil]; exact hS⟩ List.nodup_nil (fun D hD => by cases hD) ?_
    (iterS61 (l := rowI) (vs := vs) hV.sh hK (by decide) (fun i X hX => by rw [hX]; exact hTg.app _)) ?_ (fun _ _ _ q => q.elim) (fun _ _ _ _ q => q.elim) (fun _ _ _ _ q => q.elim)
  · rintro i l1 D lo W1 X E hi rfl hS
    have hi0 : i = 0 := by omega
    subst hi0
    have hx : tgX (chkC rowI == 0) rowI 0 = [.int .i64 1, .int .i64 0] := by
      unfold tgX; rw [htl]; rfl
    rw [hx]
    dsimp only [List.getD_cons_zero, List.getD_cons_succ]
    refine rndMid_fr hS (N := []) (by rw [List.append_nil]; exact hS) fun lo2 V hV2 => ?_
    rw [List.append_nil] at hV2
    refine kNe_int (kIf_ne (fun q => absurd rfl q) (fun _ => kNe_int (kIf_ne (fun q => absurd rfl q) (fun _ => ?_))))
    refine kLd hV2 L.length (at_l (at_l (at_l at_r))) rfl rfl (kBin_add (kSt hV2 L.length (at_l (at_l (at_l at_r))) (by simp) rfl rfl rfl fun V3 hV3 => ?_))
    rw [set_l _ (at_l (at_l at_r)), set_l _ (at_l at_r), set_l _ at_r, set_r] at hV3
    exact rndEnd_fr hS (N := []) (by rw [List.append_nil]; exact hV3) fun hV4 => ⟨lo2, _, rfl, hV4⟩
  · rintro D V X rfl m1 m2 m3
    rw [h1] at m3
    refine kCall_i (Tryz.call13 _ _) (num18 _ _ _ (kEq_int (kIf_t (kEq_str ?_))))
    rw [decide_eq_true rfl]
    refine kIf_t (kLd m3 L.length (at_l at_r) rfl rfl (kEq_int (kIf_t ?_)))
    refine jump19 m3 2 fun V m3 => ?_
    rw [chkJ2]
    refine kEq_int (kIf_t (jump19 m3 1 fun V m3 => ?_))
    rw [chkJ1]
    refine kEq_int (kSt m3 0 (at_l (at_l i0)) (by simp) rfl rfl rfl fun V m3 => ?_)
    rw [set_l _ (at_l i0), set_l _ i0] at m3
    have h2 := L.length
    exact Lv_mks (by simp) m1 m3 0 (at_l (by rw [List.getElem?_set_self (by exact (List.getElem?_eq_some_iff.1 i0).1)])) (fun V hB h4 => RetK_cell rfl (by rw [cell_of_row V b0 0 _ 4 (0, 0) h4]; rfl) (h V hB)) rfl
end Go.L
namespace Go.L
open Go Go.RowKit Go.Proofs
set_option linter.unusedSimpArgs false
set_option linter.unusedVariables false

section
variable {c : Cx} {w : World} {k : Value → World → Prop} {t : TypeId}
end
theorem kNeg {c : Cx} {w : World} {k : Value → World → Prop} {q : IntKind} {a : Int} (h : k (.int q (q.wrap (-a))) w) : kUn c w .neg (.int q a) k := ⟨kVal_pure (fun _ => by simp [Op.unary, Op.intArith]) h⟩
section
variable {X : Chain → World → Prop} {q : Bool} {w : World} {k : Value → World → Prop}
end
end Go.L
namespace Go.L
open Go Go.RowKit Go.Proofs
set_option linter.unusedSimpArgs false
set_option linter.unusedVariables false

theorem kIxS {c : Cx} {w : World} {t : TypeId} {q : IntKind} {s : ByteArray} {i : Nat} {k : Value → World → Prop} (ht : c.P.underlying t = some .string) (hi : i < s.size) (h : k (.int .u8 (s[i]).toNat) w) : kIx c w t (.string s) (.int q i) k :=
  kIx_i (fun w' => by rw [run_index_string w' t s q i ht, dif_pos ⟨by omega, by omega⟩]; rfl) h
/-- The byte of a text at a place (a blank behind its end). -/
def fb (s : ByteArray) (i : Nat) : Int := if h : i < s.size then ((s[i]).toNat : Int) else 32
def formT : List ByteArray := [⟨#[32, 32, 32]⟩, ⟨#[114, 32, 32, 118]⟩, ⟨#[114, 32, 32, 111]⟩, ⟨#[114, 32, 32, 112]⟩, ⟨#[108, 32, 32, 116]⟩, ⟨#[108, 106, 32]⟩, ⟨#[108, 106, 32]⟩, ⟨#[114, 108, 110]⟩, ⟨#[114, 106, 32]⟩, ⟨#[32, 106, 32]⟩, ⟨#[108, 32, 32, 97]⟩, ⟨#[108, 108, 32]⟩, ⟨#[115, 32, 32, 117]⟩, ⟨#[115, 114, 32]⟩, ⟨#[114, 115, 32]⟩, ⟨#[108, 32, 110]⟩, ⟨#[108, 108, 106]⟩, ⟨#[108, 110, 32]⟩, ⟨#[108, 110, 32, 100]⟩, ⟨#[108, 99, 110]⟩, ⟨#[108, 32, 32]⟩]
def formB (k : Int) : ByteArray := if 1 ≤ k ∧ k ≤ 21 then formT.getD (k.toNat - 1) ⟨#[]⟩ else ⟨#[]⟩
def fitsB (kd n many : Int) : Bool :=
  if kd = 114 then decide (0 ≤ n) && decide (n ≤ 399) else if kd = 108 then decide (0 ≤ n) && decide (n ≤ 15) else if kd = 115 then decide (0 ≤ n) && decide (n ≤ 31) else if kd = 106 then decide (0 ≤ n) && decide (n ≤ many)
  else if kd = 110 then decide (0 ≤ n) && decide (n ≤ 400) else if kd = 99 then decide (-1 ≤ n) && decide (n ≤ 2147483647) else n == 0
def allB (most : Int) (l : List Int) : Bool := allIn 0 most l && decide (l.length ≤ 200)
end Go.L
namespace Go.L
open Go Go.RowKit Go.Proofs
set_option linter.unusedSimpArgs false
set_option linter.unusedVariables false

def formOk (s : ByteArray) (x : IN) (many : Int) : Bool := fitsB (fb s 0) x.a many && (fitsB (fb s 1) x.b many && fitsB (fb s 2) x.c many)
def restNo (wh : Int) (x : IN) : Bool := (decide (wh ≠ 118) && !decide (x.v = (0, 0, ⟨#[]⟩))) || ((decide (wh ≠ 111) && decide (x.o ≠ 0)) || (decide (wh ≠ 116) && (decide (wh ≠ 117) && !decide (x.nm = ⟨#[]⟩))))
def lastR (wh : Int) (x : IN) : Bool :=
  if wh = 118 then (checkE x.v == 0) && ((x.ar.length : Int) == 0)
  else if wh = 111 then (!decide ((infoO x.o).1 = ⟨#[]⟩)) && (((x.ar.length : Int) == (infoO x.o).2.1) && allB 399 x.ar)
  else if wh = 112 then decide ((x.ar.length : Int) > 0) && allB 399 x.ar
  else if wh = 116 then decide ((x.nm.size : Int) ≥ 1) && (decide ((x.nm.size : Int) ≤ 100) && ((x.ar.length : Int) == 0))
  else if wh = 97 then allB 399 x.ar
  else if wh = 117 then sums4.any (fun t => decide (x.nm = t)) && ((x.ar.length : Int) == 0)
  else if wh = 100 then allB 1 x.ar else ((x.ar.length : Int) == 0)
/-- What the document says of an instruction. -/
def rightR (many : Int) (x : IN) : Bool := !decide (formB x.k = ⟨#[]⟩) && (formOk (formB x.k) x many && (!restNo (fb (formB x.k) 3) x && lastR (fb (formB x.k) 3) x))
end Go.L
namespace Go.L
open Go Go.RowKit Go.Proofs
set_option linter.unusedSimpArgs false
set_option linter.unusedVariables false

theorem argsB_allB (x : IN) : argsB 0 x = allB 399 x.ar := by
  unfold argsB allB
  rw [decide_eq_true (by omega), Bool.true_and, Bool.and_comm]
theorem argsB1 (x : IN) : argsB 1 x = (decide ((x.ar.length : Int) > 0) && allB 399 x.ar) := by
  unfold argsB allB
  rw [show decide ((x.ar.length : Int) ≥ 1) = decide ((x.ar.length : Int) > 0) by congr 1, Bool.and_comm (allIn 0 399 x.ar)]
theorem allIn_one (a b n : Int) : allIn a b [n] = (decide (a ≤ n) && decide (n ≤ b)) := by
  unfold allIn outOf
  by_cases h1 : a ≤ n <;> by_cases h2 : n ≤ b <;> simp [h1, h2] <;> omega
theorem info_name (o : Int) : decide (1 ≤ o ∧ o ≤ 20) = !decide ((infoO o).1 = ⟨#[]⟩) := by
  by_cases h : 1 ≤ o ∧ o ≤ 20
  · obtain ⟨k, rfl⟩ : ∃ k : Nat, o = k := ⟨o.toNat, by omega⟩
    have : ∀ k : Nat, k < 21 → 1 ≤ k → (infoO k).1 ≠ ⟨#[]⟩ := by decide
    rw [decide_eq_true h, decide_eq_false (this k (by omega) (by omega))]; rfl
  · rw [decide_eq_false h, show infoO o = info0 from if_neg h]; rfl
theorem right_1 (n : Nat) (a b c o : Int) (v : AV) (nm : ByteArray) (ar : List Int) : rightR n ⟨1, a, b, c, o, v, nm, ar⟩ = rightC n ⟨1, a, b, c, o, v, nm, ar⟩ := by
  have h0 : fb (formB 1) 0 = 32 := by decide
  have h1 : fb (formB 1) 1 = 32 := by decide
  have h2 : fb (formB 1) 2 = 32 := by decide
  have h3 : fb (formB 1) 3 = 32 := by decide
  have hf : decide (formB 1 = ⟨#[]⟩) = false := by decide
  have hp : kParts 1 = [] := rfl
  unfold rightR rightC formOk
  simp only [hf, h0, h1, h2, h3, hp, show (1 : Int).toNat = 1 from rfl]
  simp only [fitsB, restNo, lastR, restB, argsB_allB, argsB1, info_name, inP, topP, bareP, bareI, preg, plist, ptotal, pnumber, pjump, pbound, getF, setF, in0, allIn_one, List.foldl, List.all_cons, List.all_nil]
  simp (config := { decide := true }) only [IN.mk.injEq]
  rw [Bool.eq_iff_iff]
  simp
  grind
theorem right_2 (n : Nat) (a b c o : Int) (v : AV) (nm : ByteArray) (ar : List Int) : rightR n ⟨2, a, b, c, o, v, nm, ar⟩ = rightC n ⟨2, a, b, c, o, v, nm, ar⟩ := by
  have h0 : fb (formB 2) 0 = 114 := by decide
  have h1 : fb (formB 2) 1 = 32 := by decide
  have h2 : fb (formB 2) 2 = 32 := by decide
  have h3 : fb (formB 2) 3 = 118 := by decide
  have hf : decide (formB 2 = ⟨#[]⟩) = false := by decide
  have hp : kParts 2 = [preg 58] := rfl
  unfold rightR rightC formOk
  simp only [hf, h0, h1, h2, h3, hp, show (2 : Int).toNat = 2 from rfl]
  simp only [fitsB, restNo, lastR, restB, argsB_allB, argsB1, info_name, inP, topP, bareP, bareI, preg, plist, ptotal, pnumber, pjump, pbound, getF, setF, in0, allIn_one, List.foldl, List.all_cons, List.all_nil]
  simp (config := { decide := true }) only [IN.mk.injEq]
  rw [Bool.eq_iff_iff]
  simp
  grind
theorem right_3 (n : Nat) (a b c o : Int) (v : AV) (nm : ByteArray) (ar : List Int) : rightR n ⟨3, a, b, c, o, v, nm, ar⟩ = rightC n ⟨3, a, b, c, o, v, nm, ar⟩ := by
  have h0 : fb (formB 3) 0 = 114 := by decide
  have h1 : fb (formB 3) 1 = 32 := by decide
  have h2 : fb (formB 3) 2 = 32 := by decide
  have h3 : fb (formB 3) 3 = 111 := by decide
  have hf : decide (formB 3 = ⟨#[]⟩) = false := by decide
  have hp : kParts 3 = [preg 58] := rfl
  unfold rightR rightC formOk
  simp only [hf, h0, h1, h2, h3, hp, show (3 : Int).toNat = 3 from rfl]
  simp only [fitsB, restNo, lastR, restB, argsB_allB, argsB1, info_name, inP, topP, bareP, bareI, preg, plist, ptotal, pnumber, pjump, pbound, getF, setF, in0, allIn_one, List.foldl, List.all_cons, List.all_nil]
  simp (config := { decide := true }) only [IN.mk.injEq]
  rw [Bool.eq_iff_iff]
  simp
  grind
theorem right_4 (n : Nat) (a b c o : Int) (v : AV) (nm : ByteArray) (ar : List Int) : rightR n ⟨4, a, b, c, o, v, nm, ar⟩ = rightC n ⟨4, a, b, c, o, v, nm, ar⟩ := by
  have h0 : fb (formB 4) 0 = 114 := by decide
  have h1 : fb (formB 4) 1 = 32 := by decide
  have h2 : fb (formB 4) 2 = 32 := by decide
  have h3 : fb (formB 4) 3 = 112 := by decide
  have hf : decide (formB 4 = ⟨#[]⟩) = false := by decide
  have hp : kParts 4 = [preg 58] := rfl
  unfold rightR rightC formOk
  simp only [hf, h0, h1, h2, h3, hp, show (4 : Int).toNat = 4 from rfl]
  simp only [fitsB, restNo, lastR, restB, argsB_allB, argsB1, info_name, inP, topP, bareP, bareI, preg, plist, ptotal, pnumber, pjump, pbound, getF, setF, in0, allIn_one, List.foldl, List.all_cons, List.all_nil]
  simp (config := { decide := true }) only [IN.mk.injEq]
  rw [Bool.eq_iff_iff]
  simp
  grind
theorem right_5 (n : Nat) (a b c o : Int) (v : AV) (nm : ByteArray) (ar : List Int) : rightR n ⟨5, a, b, c, o, v, nm, ar⟩ = rightC n ⟨5, a, b, c, o, v, nm, ar⟩ := by
  have h0 : fb (formB 5) 0 = 108 := by decide
  have h1 : fb (formB 5) 1 = 32 := by decide
  have h2 : fb (formB 5) 2 = 32 := by decide
  have h3 : fb (formB 5) 3 = 116 := by decide
  have hf : decide (formB 5 = ⟨#[]⟩) = false := by decide
  have hp : kParts 5 = [plist 58] := rfl
  unfold rightR rightC formOk
  simp only [hf, h0, h1, h2, h3, hp, show (5 : Int).toNat = 5 from rfl]
  simp only [fitsB, restNo, lastR, restB, argsB_allB, argsB1, info_name, inP, topP, bareP, bareI, preg, plist, ptotal, pnumber, pjump, pbound, getF, setF, in0, allIn_one, List.foldl, List.all_cons, List.all_nil]
  simp (config := { decide := true }) only [IN.mk.injEq]
  rw [Bool.eq_iff_iff]
  simp
  grind
theorem right_6 (n : Nat) (a b c o : Int) (v : AV) (nm : ByteArray) (ar : List Int) : rightR n ⟨6, a, b, c, o, v, nm, ar⟩ = rightC n ⟨6, a, b, c, o, v, nm, ar⟩ := by
  have h0 : fb (formB 6) 0 = 108 := by decide
  have h1 : fb (formB 6) 1 = 106 := by decide
  have h2 : fb (formB 6) 2 = 32 := by decide
  have h3 : fb (formB 6) 3 = 32 := by decide
  have hf : decide (formB 6 = ⟨#[]⟩) = false := by decide
  have hp : kParts 6 = [plist 58, pjump 59] := rfl
  unfold rightR rightC formOk
  simp only [hf, h0, h1, h2, h3, hp, show (6 : Int).toNat = 6 from rfl]
  simp only [fitsB, restNo, lastR, restB, argsB_allB, argsB1, info_name, inP, topP, bareP, bareI, preg, plist, ptotal, pnumber, pjump, pbound, getF, setF, in0, allIn_one, List.foldl, List.all_cons, List.all_nil]
  simp (config := { decide := true }) only [IN.mk.injEq]
  rw [Bool.eq_iff_iff]
  simp
  grind
theorem right_7 (n : Nat) (a b c o : Int) (v : AV) (nm : ByteArray) (ar : List Int) : rightR n ⟨7, a, b, c, o, v, nm, ar⟩ = rightC n ⟨7, a, b, c, o, v, nm, ar⟩ := by
  have h0 : fb (formB 7) 0 = 108 := by decide
  have h1 : fb (formB 7) 1 = 106 := by decide
  have h2 : fb (formB 7) 2 = 32 := by decide
  have h3 : fb (formB 7) 3 = 32 := by decide
  have hf : decide (formB 7 = ⟨#[]⟩) = false := by decide
  have hp : kParts 7 = [plist 58, pjump 59] := rfl
  unfold rightR rightC formOk
  simp only [hf, h0, h1, h2, h3, hp, show (7 : Int).toNat = 7 from rfl]
  simp only [fitsB, restNo, lastR, restB, argsB_allB, argsB1, info_name, inP, topP, bareP, bareI, preg, plist, ptotal, pnumber, pjump, pbound, getF, setF, in0, allIn_one, List.foldl, List.all_cons, List.all_nil]
  simp (config := { decide := true }) only [IN.mk.injEq]
  rw [Bool.eq_iff_iff]
  simp
  grind
theorem right_8 (n : Nat) (a b c o : Int) (v : AV) (nm : ByteArray) (ar : List Int) : rightR n ⟨8, a, b, c, o, v, nm, ar⟩ = rightC n ⟨8, a, b, c, o, v, nm, ar⟩ := by
  have h0 : fb (formB 8) 0 = 114 := by decide
  have h1 : fb (formB 8) 1 = 108 := by decide
  have h2 : fb (formB 8) 2 = 110 := by decide
  have h3 : fb (formB 8) 3 = 32 := by decide
  have hf : decide (formB 8 = ⟨#[]⟩) = false := by decide
  have hp : kParts 8 = [preg 58, plist 59, pnumber 60] := rfl
  unfold rightR rightC formOk
  simp only [hf, h0, h1, h2, h3, hp, show (8 : Int).toNat = 8 from rfl]
  simp only [fitsB, restNo, lastR, restB, argsB_allB, argsB1, info_name, inP, topP, bareP, bareI, preg, plist, ptotal, pnumber, pjump, pbound, getF, setF, in0, allIn_one, List.foldl, List.all_cons, List.all_nil]
  simp (config := { decide := true }) only [IN.mk.injEq]
  rw [Bool.eq_iff_iff]
  simp
  grind
theorem right_9 (n : Nat) (a b c o : Int) (v : AV) (nm : ByteArray) (ar : List Int) : rightR n ⟨9, a, b, c, o, v, nm, ar⟩ = rightC n ⟨9, a, b, c, o, v, nm, ar⟩ := by
  have h0 : fb (formB 9) 0 = 114 := by decide
  have h1 : fb (formB 9) 1 = 106 := by decide
  have h2 : fb (formB 9) 2 = 32 := by decide
  have h3 : fb (formB 9) 3 = 32 := by decide
  have hf : decide (formB 9 = ⟨#[]⟩) = false := by decide
  have hp : kParts 9 = [preg 58, pjump 59] := rfl
  unfold rightR rightC formOk
  simp only [hf, h0, h1, h2, h3, hp, show (9 : Int).toNat = 9 from rfl]
  simp only [fitsB, restNo, lastR, restB, argsB_allB, argsB1, info_name, inP, topP, bareP, bareI, preg, plist, ptotal, pnumber, pjump, pbound, getF, setF, in0, allIn_one, List.foldl, List.all_cons, List.all_nil]
  simp (config := { decide := true }) only [IN.mk.injEq]
  rw [Bool.eq_iff_iff]
  simp
  grind
theorem right_10 (n : Nat) (a b c o : Int) (v : AV) (nm : ByteArray) (ar : List Int) : rightR n ⟨10, a, b, c, o, v, nm, ar⟩ = rightC n ⟨10, a, b, c, o, v, nm, ar⟩ := by
  have h0 : fb (formB 10) 0 = 32 := by decide
  have h1 : fb (formB 10) 1 = 106 := by decide
  have h2 : fb (formB 10) 2 = 32 := by decide
  have h3 : fb (formB 10) 3 = 32 := by decide
  have hf : decide (formB 10 = ⟨#[]⟩) = false := by decide
  have hp : kParts 10 = [pjump 59] := rfl
  unfold rightR rightC formOk
  simp only [hf, h0, h1, h2, h3, hp, show (10 : Int).toNat = 10 from rfl]
  simp only [fitsB, restNo, lastR, restB, argsB_allB, argsB1, info_name, inP, topP, bareP, bareI, preg, plist, ptotal, pnumber, pjump, pbound, getF, setF, in0, allIn_one, List.foldl, List.all_cons, List.all_nil]
  simp (config := { decide := true }) only [IN.mk.injEq]
  rw [Bool.eq_iff_iff]
  simp
  grind
theorem right_11 (n : Nat) (a b c o : Int) (v : AV) (nm : ByteArray) (ar : List Int) : rightR n ⟨11, a, b, c, o, v, nm, ar⟩ = rightC n ⟨11, a, b, c, o, v, nm, ar⟩ := by
  have h0 : fb (formB 11) 0 = 108 := by decide
  have h1 : fb (formB 11) 1 = 32 := by decide
  have h2 : fb (formB 11) 2 = 32 := by decide
  have h3 : fb (formB 11) 3 = 97 := by decide
  have hf : decide (formB 11 = ⟨#[]⟩) = false := by decide
  have hp : kParts 11 = [plist 58] := rfl
  unfold rightR rightC formOk
  simp only [hf, h0, h1, h2, h3, hp, show (11 : Int).toNat = 11 from rfl]
  simp only [fitsB, restNo, lastR, restB, argsB_allB, argsB1, info_name, inP, topP, bareP, bareI, preg, plist, ptotal, pnumber, pjump, pbound, getF, setF, in0, allIn_one, List.foldl, List.all_cons, List.all_nil]
  simp (config := { decide := true }) only [IN.mk.injEq]
  rw [Bool.eq_iff_iff]
  simp
  grind
theorem right_12 (n : Nat) (a b c o : Int) (v : AV) (nm : ByteArray) (ar : List Int) : rightR n ⟨12, a, b, c, o, v, nm, ar⟩ = rightC n ⟨12, a, b, c, o, v, nm, ar⟩ := by
  have h0 : fb (formB 12) 0 = 108 := by decide
  have h1 : fb (formB 12) 1 = 108 := by decide
  have h2 : fb (formB 12) 2 = 32 := by decide
  have h3 : fb (formB 12) 3 = 32 := by decide
  have hf : decide (formB 12 = ⟨#[]⟩) = false := by decide
  have hp : kParts 12 = [plist 58, plist 59] := rfl
  unfold rightR rightC formOk
  simp only [hf, h0, h1, h2, h3, hp, show (12 : Int).toNat = 12 from rfl]
  simp only [fitsB, restNo, lastR, restB, argsB_allB, argsB1, info_name, inP, topP, bareP, bareI, preg, plist, ptotal, pnumber, pjump, pbound, getF, setF, in0, allIn_one, List.foldl, List.all_cons, List.all_nil]
  simp (config := { decide := true }) only [IN.mk.injEq]
  rw [Bool.eq_iff_iff]
  simp
  grind
theorem right_13 (n : Nat) (a b c o : Int) (v : AV) (nm : ByteArray) (ar : List Int) : rightR n ⟨13, a, b, c, o, v, nm, ar⟩ = rightC n ⟨13, a, b, c, o, v, nm, ar⟩ := by
  have h0 : fb (formB 13) 0 = 115 := by decide
  have h1 : fb (formB 13) 1 = 32 := by decide
  have h2 : fb (formB 13) 2 = 32 := by decide
  have h3 : fb (formB 13) 3 = 117 := by decide
  have hf : decide (formB 13 = ⟨#[]⟩) = false := by decide
  have hp : kParts 13 = [ptotal 58] := rfl
  unfold rightR rightC formOk
  simp only [hf, h0, h1, h2, h3, hp, show (13 : Int).toNat = 13 from rfl]
  simp only [fitsB, restNo, lastR, restB, argsB_allB, argsB1, info_name, inP, topP, bareP, bareI, preg, plist, ptotal, pnumber, pjump, pbound, getF, setF, in0, allIn_one, List.foldl, List.all_cons, List.all_nil]
  simp (config := { decide := true }) only [IN.mk.injEq]
  rw [Bool.eq_iff_iff]
  simp
  grind
theorem right_14 (n : Nat) (a b c o : Int) (v : AV) (nm : ByteArray) (ar : List Int) : rightR n ⟨14, a, b, c, o, v, nm, ar⟩ = rightC n ⟨14, a, b, c, o, v, nm, ar⟩ := by
  have h0 : fb (formB 14) 0 = 115 := by decide
  have h1 : fb (formB 14) 1 = 114 := by decide
  have h2 : fb (formB 14) 2 = 32 := by decide
  have h3 : fb (formB 14) 3 = 32 := by decide
  have hf : decide (formB 14 = ⟨#[]⟩) = false := by decide
  have hp : kParts 14 = [ptotal 58, preg 59] := rfl
  unfold rightR rightC formOk
  simp only [hf, h0, h1, h2, h3, hp, show (14 : Int).toNat = 14 from rfl]
  simp only [fitsB, restNo, lastR, restB, argsB_allB, argsB1, info_name, inP, topP, bareP, bareI, preg, plist, ptotal, pnumber, pjump, pbound, getF, setF, in0, allIn_one, List.foldl, List.all_cons, List.all_nil]
  simp (config := { decide := true }) only [IN.mk.injEq]
  rw [Bool.eq_iff_iff]
  simp
  grind
theorem right_15 (n : Nat) (a b c o : Int) (v : AV) (nm : ByteArray) (ar : List Int) : rightR n ⟨15, a, b, c, o, v, nm, ar⟩ = rightC n ⟨15, a, b, c, o, v, nm, ar⟩ := by
  have h0 : fb (formB 15) 0 = 114 := by decide
  have h1 : fb (formB 15) 1 = 115 := by decide
  have h2 : fb (formB 15) 2 = 32 := by decide
  have h3 : fb (formB 15) 3 = 32 := by decide
  have hf : decide (formB 15 = ⟨#[]⟩) = false := by decide
  have hp : kParts 15 = [preg 58, ptotal 59] := rfl
  unfold rightR rightC formOk
  simp only [hf, h0, h1, h2, h3, hp, show (15 : Int).toNat = 15 from rfl]
  simp only [fitsB, restNo, lastR, restB, argsB_allB, argsB1, info_name, inP, topP, bareP, bareI, preg, plist, ptotal, pnumber, pjump, pbound, getF, setF, in0, allIn_one, List.foldl, List.all_cons, List.all_nil]
  simp (config := { decide := true }) only [IN.mk.injEq]
  rw [Bool.eq_iff_iff]
  simp
  grind
theorem right_16 (n : Nat) (a b c o : Int) (v : AV) (nm : ByteArray) (ar : List Int) : rightR n ⟨16, a, b, c, o, v, nm, ar⟩ = rightC n ⟨16, a, b, c, o, v, nm, ar⟩ := by
  have h0 : fb (formB 16) 0 = 108 := by decide
  have h1 : fb (formB 16) 1 = 32 := by decide
  have h2 : fb (formB 16) 2 = 110 := by decide
  have h3 : fb (formB 16) 3 = 32 := by decide
  have hf : decide (formB 16 = ⟨#[]⟩) = false := by decide
  have hp : kParts 16 = [plist 58, pnumber 60] := rfl
  unfold rightR rightC formOk
  simp only [hf, h0, h1, h2, h3, hp, show (16 : Int).toNat = 16 from rfl]
  simp only [fitsB, restNo, lastR, restB, argsB_allB, argsB1, info_name, inP, topP, bareP, bareI, preg, plist, ptotal, pnumber, pjump, pbound, getF, setF, in0, allIn_one, List.foldl, List.all_cons, List.all_nil]
  simp (config := { decide := true }) only [IN.mk.injEq]
  rw [Bool.eq_iff_iff]
  simp
  grind
theorem right_17 (n : Nat) (a b c o : Int) (v : AV) (nm : ByteArray) (ar : List Int) : rightR n ⟨17, a, b, c, o, v, nm, ar⟩ = rightC n ⟨17, a, b, c, o, v, nm, ar⟩ := by
  have h0 : fb (formB 17) 0 = 108 := by decide
  have h1 : fb (formB 17) 1 = 108 := by decide
  have h2 : fb (formB 17) 2 = 106 := by decide
  have h3 : fb (formB 17) 3 = 32 := by decide
  have hf : decide (formB 17 = ⟨#[]⟩) = false := by decide
  have hp : kParts 17 = [plist 58, plist 59, pjump 60] := rfl
  unfold rightR rightC formOk
  simp only [hf, h0, h1, h2, h3, hp, show (17 : Int).toNat = 17 from rfl]
  simp only [fitsB, restNo, lastR, restB, argsB_allB, argsB1, info_name, inP, topP, bareP, bareI, preg, plist, ptotal, pnumber, pjump, pbound, getF, setF, in0, allIn_one, List.foldl, List.all_cons, List.all_nil]
  simp (config := { decide := true }) only [IN.mk.injEq]
  rw [Bool.eq_iff_iff]
  simp
  grind
theorem right_18 (n : Nat) (a b c o : Int) (v : AV) (nm : ByteArray) (ar : List Int) : rightR n ⟨18, a, b, c, o, v, nm, ar⟩ = rightC n ⟨18, a, b, c, o, v, nm, ar⟩ := by
  have h0 : fb (formB 18) 0 = 108 := by decide
  have h1 : fb (formB 18) 1 = 110 := by decide
  have h2 : fb (formB 18) 2 = 32 := by decide
  have h3 : fb (formB 18) 3 = 32 := by decide
  have hf : decide (formB 18 = ⟨#[]⟩) = false := by decide
  have hp : kParts 18 = [plist 58, pnumber 59] := rfl
  unfold rightR rightC formOk
  simp only [hf, h0, h1, h2, h3, hp, show (18 : Int).toNat = 18 from rfl]
  simp only [fitsB, restNo, lastR, restB, argsB_allB, argsB1, info_name, inP, topP, bareP, bareI, preg, plist, ptotal, pnumber, pjump, pbound, getF, setF, in0, allIn_one, List.foldl, List.all_cons, List.all_nil]
  simp (config := { decide := true }) only [IN.mk.injEq]
  rw [Bool.eq_iff_iff]
  simp
  grind
theorem right_19 (n : Nat) (a b c o : Int) (v : AV) (nm : ByteArray) (ar : List Int) : rightR n ⟨19, a, b, c, o, v, nm, ar⟩ = rightC n ⟨19, a, b, c, o, v, nm, ar⟩ := by
  have h0 : fb (formB 19) 0 = 108 := by decide
  have h1 : fb (formB 19) 1 = 110 := by decide
  have h2 : fb (formB 19) 2 = 32 := by decide
  have h3 : fb (formB 19) 3 = 100 := by decide
  have hf : decide (formB 19 = ⟨#[]⟩) = false := by decide
  have hp : kParts 19 = [plist 58, pnumber 59] := rfl
  unfold rightR rightC formOk
  simp only [hf, h0, h1, h2, h3, hp, show (19 : Int).toNat = 19 from rfl]
  simp only [fitsB, restNo, lastR, restB, argsB_allB, argsB1, info_name, inP, topP, bareP, bareI, preg, plist, ptotal, pnumber, pjump, pbound, getF, setF, in0, allIn_one, List.foldl, List.all_cons, List.all_nil]
  simp (config := { decide := true }) only [IN.mk.injEq]
  rw [Bool.eq_iff_iff]
  simp
  unfold allB
  simp
  grind
theorem right_20 (n : Nat) (a b c o : Int) (v : AV) (nm : ByteArray) (ar : List Int) : rightR n ⟨20, a, b, c, o, v, nm, ar⟩ = rightC n ⟨20, a, b, c, o, v, nm, ar⟩ := by
  have h0 : fb (formB 20) 0 = 108 := by decide
  have h1 : fb (formB 20) 1 = 99 := by decide
  have h2 : fb (formB 20) 2 = 110 := by decide
  have h3 : fb (formB 20) 3 = 32 := by decide
  have hf : decide (formB 20 = ⟨#[]⟩) = false := by decide
  have hp : kParts 20 = [plist 58, pbound 59, pnumber 60] := rfl
  unfold rightR rightC formOk
  simp only [hf, h0, h1, h2, h3, hp, show (20 : Int).toNat = 20 from rfl]
  simp only [fitsB, restNo, lastR, restB, argsB_allB, argsB1, info_name, inP, topP, bareP, bareI, preg, plist, ptotal, pnumber, pjump, pbound, getF, setF, in0, allIn_one, List.foldl, List.all_cons, List.all_nil]
  simp (config := { decide := true }) only [IN.mk.injEq]
  rw [Bool.eq_iff_iff]
  simp
  grind
theorem right_21 (n : Nat) (a b c o : Int) (v : AV) (nm : ByteArray) (ar : List Int) : rightR n ⟨21, a, b, c, o, v, nm, ar⟩ = rightC n ⟨21, a, b, c, o, v, nm, ar⟩ := by
  have h0 : fb (formB 21) 0 = 108 := by decide
  have h1 : fb (formB 21) 1 = 32 := by decide
  have h2 : fb (formB 21) 2 = 32 := by decide
  have h3 : fb (formB 21) 3 = 32 := by decide
  have hf : decide (formB 21 = ⟨#[]⟩) = false := by decide
  have hp : kParts 21 = [plist 58] := rfl
  unfold rightR rightC formOk
  simp only [hf, h0, h1, h2, h3, hp, show (21 : Int).toNat = 21 from rfl]
  simp only [fitsB, restNo, lastR, restB, argsB_allB, argsB1, info_name, inP, topP, bareP, bareI, preg, plist, ptotal, pnumber, pjump, pbound, getF, setF, in0, allIn_one, List.foldl, List.all_cons, List.all_nil]
  simp (config := { decide := true }) only [IN.mk.injEq]
  rw [Bool.eq_iff_iff]
  simp
  grind
theorem rightEq (n : Nat) (x : IN) : rightR n x = rightC n x := by
  obtain ⟨k, a, b, c, o, v, nm, ar⟩ := x
  by_cases hk : 1 ≤ k ∧ k ≤ 21
  · have : k = 1 ∨ k = 2 ∨ k = 3 ∨ k = 4 ∨ k = 5 ∨ k = 6 ∨ k = 7 ∨ k = 8 ∨ k = 9 ∨ k = 10 ∨ k = 11 ∨ k = 12 ∨ k = 13 ∨ k = 14 ∨ k = 15 ∨ k = 16 ∨ k = 17 ∨ k = 18 ∨ k = 19 ∨ k = 20 ∨ k = 21 := by omega
    rcases this with rfl | rfl | rfl | rfl | rfl | rfl | rfl | rfl | rfl | rfl | rfl | rfl | rfl | rfl | rfl | rfl | rfl | rfl | rfl | rfl | rfl
    · exact right_1 ..
    · exact right_2 ..
    · exact right_3 ..
    · exact right_4 ..
    · exact right_5 ..
    · exact right_6 ..
    · exact right_7 ..
    · exact right_8 ..
    · exact right_9 ..
    · exact right_10 ..
    · exact right_11 ..
    · exact right_12 ..
    · exact right_13 ..
    · exact right_14 ..
    · exact right_15 ..
    · exact right_16 ..
    · exact right_17 ..
    · exact right_18 ..
    · exact right_19 ..
    · exact right_20 ..
    · exact right_21 ..
  · have h1 : rightR n ⟨k, a, b, c, o, v, nm, ar⟩ = false := by
      unfold rightR
      rw [show formB (IN.mk k a b c o v nm ar).k = ⟨#[]⟩ from if_neg hk, decide_eq_true rfl]; rfl
    have h2 : rightC n ⟨k, a, b, c, o, v, nm, ar⟩ = false := by
      unfold rightC
      rw [decide_eq_false hk, Bool.false_and]
    rw [h1, h2]
end Go.L
namespace Go.L
open Go Go.RowKit Go.Proofs
set_option linter.unusedSimpArgs false
set_option linter.unusedVariables false

end Go.L
namespace Go.L
open Go Go.RowKit Go.Proofs
set_option linter.unusedSimpArgs false
set_option linter.unusedVariables false

theorem kCv5_3 {X : Chain → World → Prop} {q : Bool} {w : World} {k : Value → World → Prop} {a : Nat} (ha : a < 256) (h : k (.int .i64 (a : Int)) w) : kConv ⟨Tryz.prog, X, q⟩ w 5 3 (.int .u8 a) k :=
  kConv_int (c := ⟨Tryz.prog, X, q⟩) (q' := .i64) (by rw [show (Cx.mk Tryz.prog X q).P.underlying 5 = _ from Tryz.underlying5]; rfl) Tryz.underlying3 (by rw [wrap_id (by omega) (by omega)]; exact h)
theorem flatMap_snoc {α β : Type} (f : α → List β) (l : List α) {i : Nat} (hi : i < l.length) : (l.take (i + 1)).flatMap f = (l.take i).flatMap f ++ f l[i] := by
  rw [List.take_succ_eq_append_getElem hi, List.flatMap_append]; simp
theorem checkE_sz {r : AV} (h : checkE r = 0) : r.2.2.size ≤ 1000 := by
  unfold checkE at h
  split at h
  · cases h
  · omega
end Go.L
namespace Go.L
open Go Go.RowKit Go.Proofs
set_option linter.unusedSimpArgs false
set_option linter.unusedVariables false

end Go.L
namespace Go.L
open Go Go.RowKit Go.Proofs
set_option linter.unusedSimpArgs false
set_option linter.unusedVariables false

def smallI (x : IN) : Bool := decide (x.ar.length ≤ 300) && (decide (x.v.2.2.size ≤ 1100) && decide (x.nm.size ≤ 1100))
theorem few8 (most : Int) (l : List IN) (w : World) (lo : Option Addr) (lc : Nat) (hl : InsL w lo l) (hlen : l.length ≤ 9223372036854775807) (R : Ending → World → Prop)
    (h : R (.returned (.bool (decide ((l.length : Int) ≤ most) && l.all smallI))) w) : Calls Tryz.prog 8 #[.slice lo l.length lc, .int .i64 most] w R := by
  refine c8 _ _ _ _ _ _ ?_
  unfold vc8
  refine ⟨⟨fun cs V => ∃ i : Nat, cs = [.int .i64 i] ∧ i ≤ l.length ∧ V = w ∧ (l.take i).all smallI = true, fun cs _ => l.length - (match cs with | [.int _ i] => i.toNat | _ => 0), ⟨0, rfl, Nat.zero_le _, rfl, rfl⟩, ?_⟩⟩
  rintro cs ds V ⟨i, rfl, hi, rfl, hall⟩
  dsimp only [List.getD_cons_zero]
  refine kJn_i ?_
  have out : (¬ i < l.length ∨ ¬ (i : Int) ≤ most) → R (.returned (.bool (decide ((l.length : Int) ≤ most)))) V := fun q => by
    by_cases hm : (l.length : Int) ≤ most
    · have hie : i = l.length := by omega
      rw [hie, List.take_length] at hall
      rwa [hall, Bool.and_true] at h
    · rwa [decide_eq_false hm, Bool.false_and, ← decide_eq_false hm] at h
  refine xLen22 (kBin_lss (kIf_d (fun e => kBin_leq (kIf_d (fun e2 => kD_i ?_) (fun e2 => xLen22 (kBin_leq (out (.inr e2)))))) (fun e => kIf_f (xLen22 (kBin_leq (out (.inl (by omega))))))))
  intro ds2
  have hil : i < l.length := by omega
  obtain ⟨b, o, p, pc, rfl, hbs, hr, hsl⟩ := hl.elem hil
  have bad : smallI l[i] = false → R (.returned (.bool false)) V := fun q => by
    rwa [List.all_eq_false.2 ⟨l[i], List.getElem_mem hil, by rw [q]; simp⟩, Bool.and_false] at h
  have next : smallI l[i] = true → (l.take (i + 1)).all smallI = true := fun q => by
    rw [List.take_succ_eq_append_getElem hil, List.all_append, hall]; simp [q]
  generalize l[i] = x at *
  have fld : ∀ (j : Nat) (v : Value), (inV x p pc).cells.toList[j]? = some v → V.cell? ⟨b, o + i * 10 + j, none⟩ = some v := fun j v hv => hr j v hv
  refine xIa22 hil (xFa62_7 (kLdS rfl (fld 9 _ rfl) (xLen60 (kBin_gtr (kIf_d (fun q => kIf_t (bad ?_)) (fun q => ?_))))))
  · unfold smallI; rw [decide_eq_false (by omega), Bool.false_and]
  refine xIa22 hil (xFa62_5 (xFa59_2 (kLdS rfl (fld 7 _ rfl) (xLen9 (kBin_gtr (kIf_d (fun q2 => kIf_t (bad ?_)) (fun q2 => ?_)))))))
  · unfold smallI; rw [decide_eq_false (show ¬ x.v.2.2.size ≤ 1100 by omega)]; simp
  refine xIa22 hil (xFa62_6 (kLdS rfl (fld 8 _ rfl) (xLen9 (kBin_gtr (kIf_d (fun q3 => bad ?_) (fun q3 => kBin_add (kD_i ⟨⟨i + 1, ?_, hil, rfl, next ?_⟩, ?_⟩)))))))
  · unfold smallI; rw [decide_eq_false (show ¬ x.nm.size ≤ 1100 by omega)]; simp
  · rw [wrap_id (by omega) (by omega)]; rfl
  · unfold smallI; rw [decide_eq_true (by omega), decide_eq_true (by omega), decide_eq_true (by omega)]; rfl
  · rw [wrap_id (by omega) (by omega)]; show l.length - ((i : Int) + 1).toNat < l.length - (i : Int).toNat; omega
end Go.L
namespace Go.L
open Go Go.RowKit Go.Proofs
set_option linter.unusedSimpArgs false
set_option linter.unusedVariables false

def bl (s : ByteArray) : List Nat := s.data.toList.map (·.toNat)
theorem bl_length (s : ByteArray) : (bl s).length = s.size := by simp [bl]
/-- One thing more. -/
theorem kApp1_st {P : Program} {X : Chain → World → Prop} {w w0 : World} {t e : TypeId} {sz by_ : Nat} (E : Elt P t e sz by_) {L : List Own} (hS : St w0 L w) (i : Nat) {n : Nat} {x v : Value} {xs : List Value} (hi : L[i]? = some (.row x e sz n xs)) {cs : Array Bool} {ty : TypeId} {k : Value → World → Prop}
    (hv : v.cells.size = sz) (h1 : ∀ u ∈ v.cells.toList, u.oneCell' = true) (hmax : n + 1 ≤ maxLen) (hby : (n + 1) * by_ ≤ 140737488355328) (h : ∀ x' W, St w0 (L.set i (.row x' e sz (n + 1) (xs ++ v.cells.toList))) W → k x' W) :
    kBuildS ⟨P, X, false⟩ w t 1 #[(0, v)] fun y W => kBlt ⟨P, X, false⟩ W .append #[t, t] ty cs #[x, y] k := by
  refine kBuildS_st E hS [v] rfl rfl (by omega) (by omega) (by simp [hv]) fun y W hS => ?_
  have e1 : flat [v] = v.cells.toList := by simp [flat]
  rw [e1] at hS
  refine kAppRow_st E hS i L.length (at_l hi) at_r h1 hmax hby fun x' W hS => h x' W ?_
  rw [set_l _ hi] at hS
  exact hS.init
end Go.L
namespace Go.L
open Go Go.RowKit Go.Proofs
set_option linter.unusedSimpArgs false
set_option linter.unusedVariables false

theorem kBin_shr {c : Cx} {w : World} {k : Value → World → Prop} {t : TypeId} {q yk : IntKind} {x y : Int} (h0 : 0 ≤ y) (h1 : y ≤ q.bits) (h : k (.int q (x / 2 ^ y.toNat)) w) : kBin c w .shr t (.int q x) (.int yk y) k := ⟨kVal_pure (fun _ => by rw [binOp_shr, shift_shr q yk x y h0 h1]; rfl) h⟩
theorem Src.sl {w : World} {sz : Nat} {x : Value} {vs : List Value} (h : Src w sz x vs) : ∃ a cp, x = .slice a vs.length cp ∧ Sl w a sz vs := by
  rcases h with ⟨rfl, rfl⟩ | ⟨ad, cp, rfl, hv, h⟩
  · exact ⟨none, 0, rfl, Sl.nil w sz⟩
  · refine ⟨some ad, cp, rfl, hv, ?_⟩
    rcases h with h | ⟨b, o, rfl, hb, hr⟩
    · exact .inl h
    · exact .inr ⟨b, o, rfl, hb, hr⟩
end Go.L
namespace Go.L
open Go Go.RowKit Go.Proofs
set_option linter.unusedSimpArgs false
set_option linter.unusedVariables false

/-- What the numbers of an instruction are. -/
structure InsWf (x : IN) : Prop where
  a : I64 x.a
  b : I64 x.b
  c : I64 x.c
  v : I64 x.v.2.1
  ar : ∀ n ∈ x.ar, I64 n
end Go.L
namespace Go.L
open Go Go.RowKit Go.Proofs Go.ChangeShapes Go.WideShapes Go.ChangeAt
set_option linter.unusedSimpArgs false
set_option linter.unusedVariables false

def RngZ (r : AV) : Prop := -9223372036854775808 ≤ r.2.1 ∧ r.2.1 ≤ 9223372036854775807
theorem laidOutD : laidOutB Tryz.prog = true := by kernel_rfl
theorem cells41 : Tryz.prog.cellsOf 59 = 3 := by kernel_rfl
section
variable {H : Type} {enc : TypeId × Value → H} {W : World}
theorem el41 (n : Nat) (c1 : List Value) (y : DataW H × List MemPlace) (h : DataW.trod enc Tryz.prog W 0 (fun _ => true) true n 59 c1 = some y) : ∃ r : AV, c1 = (vVal r).cells.toList ∧ RngZ r := by
  obtain ⟨xs, m, _, _, hlen, hx, hf⟩ := DataW.trod_struct Tryz.underlying59 h
  rw [cells41] at hlen
  obtain ⟨v0, v1, v2, rfl⟩ : ∃ v0 v1 v2, c1 = [v0, v1, v2] := by
    cases c1 with
    | nil => cases hlen
    | cons v0 l =>
      cases l with
      | nil => simp at hlen
      | cons v1 l =>
        cases l with
        | nil => simp at hlen
        | cons v2 l =>
          cases l with
          | nil => exact ⟨_, _, _, rfl⟩
          | cons v3 l => simp at hlen
  · skip
    have h0 : DataW.trod enc Tryz.prog W 0 (fun _ => true) true m 57 (([v0, v1, v2].drop 0).take (Tryz.prog.cellsOf 57)) = xs[0]? := hf 0 _ rfl
    have h1 : DataW.trod enc Tryz.prog W 0 (fun _ => true) true m 2 (([v0, v1, v2].drop 1).take (Tryz.prog.cellsOf 2)) = xs[1]? := hf 1 _ rfl
    have h2 : DataW.trod enc Tryz.prog W 0 (fun _ => true) true m 9 (([v0, v1, v2].drop 2).take (Tryz.prog.cellsOf 9)) = xs[2]? := hf 2 _ rfl
    have c39 : Tryz.prog.cellsOf 57 = 1 := by kernel_rfl
    have c2 : Tryz.prog.cellsOf 2 = 1 := by kernel_rfl
    have c9 : Tryz.prog.cellsOf 9 = 1 := by kernel_rfl
    simp only [c39, c2, c9, List.drop_zero, List.take_succ_cons, List.take_zero, List.drop_succ_cons] at h0 h1 h2
    have hx3 : xs.length = 3 := hx
    obtain ⟨x0, hx0⟩ : ∃ x, xs[0]? = some x := ⟨xs[0], by simp [hx3]⟩
    obtain ⟨x1, hx1⟩ : ∃ x, xs[1]? = some x := ⟨xs[1], by simp [hx3]⟩
    obtain ⟨x2, hx2⟩ : ∃ x, xs[2]? = some x := ⟨xs[2], by simp [hx3]⟩
    rw [hx0] at h0
    rw [hx1] at h1
    rw [hx2] at h2
    obtain ⟨n0, e0, _, w0⟩ := DataW.trod_int Tryz.underlying57 h0
    obtain ⟨n1, e1, _, w1⟩ := DataW.trod_int Tryz.underlying2 h1
    obtain ⟨s, e2, _, _⟩ := DataW.trod_string Tryz.underlying9 h2
    simp only [List.cons.injEq, and_true] at e0 e1 e2
    subst e0; subst e1; subst e2
    refine ⟨(n0, n1, s), rfl, ?_⟩
    simpa [Lit.wf, IntKind.min, IntKind.max, IntKind.signed, IntKind.bits, RngZ] using w1
theorem el_int {e : TypeId} (he : Tryz.prog.underlying e = some (.int .i64)) (n : Nat) (c1 : List Value) (y : DataW H × List MemPlace) (h : DataW.trod enc Tryz.prog W 0 (fun _ => true) true n e c1 = some y) : ∃ r : Int, c1 = (vInt r).cells.toList ∧ (-9223372036854775808 ≤ r ∧ r ≤ 9223372036854775807) := by
  obtain ⟨n0, rfl, _, w0⟩ := DataW.trod_int he h
  exact ⟨n0, rfl, by simpa [Lit.wf, IntKind.min, IntKind.max, IntKind.signed, IntKind.bits] using w0⟩
end
/-- A contract that is handed what the listed variables hold, and the shape of the world. -/
theorem returnsInHanded_both {H : Type} {enc : TypeId × Value → H} {a : Assume} {C : Checked} {os : Os} {f : FuncId} {fn : Func} {s : ChangeSpec} {conds : List PathCond} {apart fresh handsOn again : Bool} {X : World → Array Value → Prop}
    (hX : ∀ (w w' : World) (args : Array Value), w.heap = w'.heap → X w args → X w' args)
    (own : ownKnob C.prog.godebug = none) (started : os.Started) (noInit : C.prog.inits.idxOf? f = none) (hfn : C.prog.funcs[f]? = some fn)
    (witness : ∃ (w : World) (tape : Tape) (i : Input), w.os = os ∧ (w.forCall tape i).Shaped C.prog ∧ i.vars = [] ∧ Input.okWide C.prog (w.forCall tape i) .any w.heap.size f i ∧
      ((s.pre enc C.prog fn conds apart (w.forCall tape i).memory i.args ∧ X (w.forCall tape i).memory i.args) ∧ sizedMet enc C.prog fn (OpenSpec.ofChange s) apart (w.forCall tape i).memory i.args) ∧ a.holds C.prog (lone (Frame.enter C.prog f i.args .normal) [] (w.forCall tape i)))
    (contract : ∀ (W : World) (base : Nat) (args : Array Value) (ds gs : List (DataW H)) (before : List MemPlace),
      (∀ (j : Nat) t v, fn.params[j]? = some t → args[j]? = some v → Value.okWide C.prog W .any base t v) →
      DataW.Whole enc C.prog fn.params.toList s.vars apart W args.toList ds gs before →
      W.ShapedOpen C.prog → X W args →
      Calls C.prog f args W fun e W' => ∃ v, e = .returned v ∧ s.post enc C.prog fn apart fresh handsOn again W args v W') :
    ReturnsInHanded a C os f .any (fun w args => (s.pre enc C.prog fn conds apart w args ∧ X w args) ∧ sizedMet enc C.prog fn (OpenSpec.ofChange s) apart w args) (s.post enc C.prog fn apart fresh handsOn again) := by
  refine returnsInHanded_of_calls own started noInit witness ?_
  intro w tape i _ hsh _ hok hpre hholds
  obtain ⟨_, _, _, fn', hfn', _, _, _, _, hval⟩ := hok
  have e : fn' = fn := Option.some.inj (hfn'.symm.trans hfn)
  subst e
  obtain ⟨⟨⟨ds, gs, before, hw, hc⟩, hx⟩, hz⟩ := hpre
  have hw' := DataW.Whole.of_heap (w' := w.forCall tape i) (by rfl) hw
  refine (contract (w.forCall tape i) w.heap.size i.args ds gs before hval hw' hsh (hX _ _ _ (by rfl) hx)).mono fun e W' ⟨v, he, hp⟩ => ?_
  subst he
  exact ChangeSpec.post_blind hp
/-- What the shape of the world gives of the variable that strings' own functions look at. -/
theorem glob_of_shaped {W : World} (h : W.ShapedOpen Tryz.prog) : Glob W := by
  refine ⟨cell_of_shapedOpen_int (g := 1) (t := 3) (zero := #[.int .i64 0]) h (of_decide_eq_true (by kernel_rfl)) (by kernel_rfl) rfl (by kernel_rfl) (by kernel_rfl) Tryz.underlying3, ?_⟩
  obtain ⟨cs, hh, _⟩ := h.1 1 _ 3 (of_decide_eq_true (by kernel_rfl)) (by kernel_rfl : _ = some (#[.int .i64 0], 3))
  exact (Array.getElem?_eq_some_iff.1 hh).1
end Go.L
namespace Go.L
open Go Go.RowKit Go.Proofs Go.ChangeShapes Go.WideShapes Go.ChangeAt
set_option linter.unusedSimpArgs false
set_option linter.unusedVariables false

/-- A slice whose cells have been gone through. -/
theorem trod_sl {H : Type} {enc : TypeId × Value → H} {P : Program} {W : World} {α : Type} (mk : α → Value) (ok : α → Prop) {t e : TypeId} {sz : Nat} (ht : P.underlying t = some (.slice e)) (hc : P.cellsOf e = sz) (hsz : 0 < sz) (hmk : ∀ r, (mk r).cells.size = sz)
    (hel : ∀ (n : Nat) (c1 : List Value) (y : DataW H × List MemPlace), DataW.trod enc P W 0 (fun _ => true) true n e c1 = some y → ∃ r, c1 = (mk r).cells.toList ∧ ok r)
    {fuel : Nat} {cs : List Value} {d : DataW H} {p : List MemPlace} (hf : DataW.trod enc P W 0 (fun _ => true) true fuel t cs = some (d, p)) :
    ∃ (a : Option Addr) (l : List α) (cp : Nat), cs = [.slice a l.length cp] ∧ Sl W a sz (l.map mk) ∧ (∀ r ∈ l, ok r) ∧ l.length ≤ cp ∧ cp ≤ 9223372036854775807 := by
  rcases DataW.trod_slice ht hf with ⟨h1, _⟩ | ⟨a, len, cap, elems, rest, n, _, h1, _, _, hl, hm, hlen, hE, _⟩
  · exact ⟨none, [], 0, h1, Sl.nil _ _, by simp, by simp, by omega⟩
  · rw [hc] at hE
    have key : ∀ i, i < len → ∃ r : α, (∀ j u, (mk r).cells.toList[j]? = some u → W.cell? ((a.add (i * sz)).add j) = some u) ∧ ok r := by
      intro i hi
      have h2 := hE i hi
      rw [show elems[i]? = some elems[i] by simp [hlen, hi]] at h2
      simp only [Option.bind_eq_some_iff] at h2
      obtain ⟨c1, hc1, hy⟩ := h2
      obtain ⟨r, rfl, hr⟩ := hel _ _ _ hy
      refine ⟨r, fun j u hj => ?_, hr⟩
      unfold World.cells? at hc1
      split at hc1
      · have hjl := (List.getElem?_eq_some_iff.1 hj).1
        have hjs : j < sz := by simpa [hmk] using hjl
        obtain ⟨b, hb, hb2⟩ := (mapM_get hc1).2 j j (by simp [hjs])
        rw [hj] at hb2; cases hb2; exact hb
      · cases hc1
    obtain ⟨l, hll, hlp⟩ := exists_list key
    refine ⟨some a, l, cap, by rw [hll]; exact h1, ⟨fun v hv => ?_, ?_⟩, fun r hr => ?_, by rw [hll]; exact hl, by simpa [maxLen] using hm⟩
    · obtain ⟨r, _, rfl⟩ := List.mem_map.1 hv; exact hmk r
    · by_cases hl0 : len = 0
      · left; have : l = [] := List.eq_nil_of_length_eq_zero (by omega); rw [this]; rfl
      · right
        obtain ⟨b, off, spot⟩ := a
        have hget : ∀ i (hi : i < l.length), ∀ j u, (mk l[i]).cells.toList[j]? = some u → W.cell? ((Addr.add ⟨b, off, spot⟩ (i * sz)).add j) = some u := fun i hi => (hlp i l[i] (by simp [hi])).1
        have h0 := hget 0 (by omega) 0 _ (List.getElem?_eq_getElem (by simpa [hmk] using hsz))
        have hspot : spot = none := by
          have := World.cell?_spot h0
          simpa [Addr.add] using this
        subst hspot
        have hb : b < W.heap.size := by
          simp only [Nat.zero_mul, Addr.add_mid] at h0
          unfold World.cell? at h0
          cases hh : W.heap[b]? with
          | none => simp [hh] at h0
          | some o => exact (Array.getElem?_eq_some_iff.1 hh).1
        refine ⟨b, off, rfl, hb, rangeAt_flat _ off (fun v hv => by obtain ⟨r, _, rfl⟩ := List.mem_map.1 hv; exact hmk r) fun i v hv j u hj => ?_⟩
        rw [List.getElem?_map] at hv
        cases hr : l[i]? with
        | none => rw [hr] at hv; cases hv
        | some r =>
          rw [hr] at hv; cases hv
          obtain ⟨hi, hr2⟩ := List.getElem?_eq_some_iff.1 hr
          have := hget i hi j u (by rw [hr2]; exact hj)
          simpa [Addr.add_mid] using this
    · obtain ⟨i, hi⟩ := List.mem_iff_getElem?.1 hr
      exact (hlp i r hi).2
abbrev INP := IN × Option Addr × Nat
def inP2 (r : INP) : Value := inV r.1 r.2.1 r.2.2
section
variable {H : Type} {enc : TypeId × Value → H} {W : World}
theorem cells62 : Tryz.prog.cellsOf 62 = 10 := by kernel_rfl
theorem inP2_size (r : INP) : (inP2 r).cells.size = 10 := rfl
end
end Go.L
namespace Go.L
open Go Go.RowKit Go.Proofs
set_option linter.unusedSimpArgs false
set_option linter.unusedVariables false

end Go.L
namespace Go.L
open Go Go.RowKit Go.Proofs
set_option linter.unusedSimpArgs false
set_option linter.unusedVariables false

end Go.L
namespace Go.L
open Go Go.RowKit Go.Proofs
set_option linter.unusedSimpArgs false
set_option linter.unusedVariables false

end Go.L
