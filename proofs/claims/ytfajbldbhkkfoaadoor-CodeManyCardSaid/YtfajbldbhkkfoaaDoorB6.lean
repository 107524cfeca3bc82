/- Contracts of single functions: no condition but those that each states. -/
import Derived.Test.YtfajbldbhkkfoaaDoorB5
import Derived.Shelf.Vars
import Derived.LaidMore
import Derived.Lay
import Derived.Handed
import Derived.Test.YtfajbldbhkkfoaaDoorTie
import Derived.Test.YtfajbldbhkkfoaaDoorCards
set_option linter.unusedVariables false
set_option linter.unusedSimpArgs false
namespace Go.L
open Go Go.RowKit Go.Proofs
set_option linter.unusedSimpArgs false
set_option linter.unusedVariables false

theorem kBin_quoI {c : Cx} {w : World} {k : Value → World → Prop} {t : TypeId} {q : IntKind} {a b : Int} (hb : b ≠ 0) (h : k (.int q (q.wrap (Int.tdiv a b))) w) : kBin c w .quo t (.int q a) (.int q b) k := ⟨kVal_pure (fun _ => by
  rw [binOp_quo]; unfold Op.intDiv
  rw [if_neg (by simpa using hb)]; rfl) h⟩
theorem Sl.dropS {w : World} {a : Option Addr} {cp : Nat} {l : List ByteArray} (h : Sl w a 1 (l.map vStr)) (hc : l.length ≤ cp) (h1 : 1 < l.length) : Sl w (if cp = 1 then a else a.map (·.add (1 * 1))) 1 ((l.drop 1).map vStr) := by
  refine ⟨vStr_size _, .inr ?_⟩
  rcases h.at_ with he | ⟨b, o, ha, hb, hr⟩
  · rw [List.map_eq_nil_iff] at he; subst he; simp at h1
  · refine ⟨b, o + 1, ?_, hb, ?_⟩
    · rw [if_neg (by omega), ha]; simp [Addr.add_mid]
    · have e1 : ∀ l : List ByteArray, (l.map vStr).flatMap (·.cells.toList) = l.map vStr := flatS
      rw [e1] at hr ⊢
      intro j v hj
      have := hr (1 + j) v (by rw [← hj, List.map_drop, List.getElem?_drop])
      rwa [← Nat.add_assoc] at this
def catB (sep : ByteArray) : List ByteArray → ByteArray
  | [] => ⟨#[]⟩
  | x :: r => sep ++ x ++ catB sep r
def joinB (sep : ByteArray) : List ByteArray → ByteArray
  | [] => ⟨#[]⟩
  | x :: r => x ++ catB sep r
theorem app_nil (s : ByteArray) : s ++ (⟨#[]⟩ : ByteArray) = s := ByteArray.append_empty
theorem nil_app (s : ByteArray) : (⟨#[]⟩ : ByteArray) ++ s = s := ByteArray.empty_append
theorem catB_snoc (sep : ByteArray) (r : List ByteArray) (y : ByteArray) : catB sep (r ++ [y]) = catB sep r ++ sep ++ y := by
  induction r with
  | nil => simp [catB, app_nil, nil_app]
  | cons x r ih => simp only [List.cons_append, catB, ih, ByteArray.append_assoc]
def sumS (l : List ByteArray) : Nat := (l.map ByteArray.size).sum
theorem sumS_take (l : List ByteArray) {i : Nat} (hi : i < l.length) : sumS (l.take (i + 1)) = sumS (l.take i) + l[i].size := by
  unfold sumS
  rw [List.take_succ_eq_append_getElem hi, List.map_append, List.sum_append]; rfl
theorem sumS_le (l : List ByteArray) (i : Nat) : sumS (l.take i) ≤ sumS l := by
  induction l generalizing i with
  | nil => simp [sumS]
  | cons a l ih =>
    cases i with
    | zero => simp [sumS]
    | succ i => have := ih i; simp [sumS] at this ⊢; omega
theorem catB_size (sep : ByteArray) (r : List ByteArray) : (catB sep r).size = sumS r + sep.size * r.length := by
  induction r with
  | nil => simp [catB, sumS]; rfl
  | cons x r ih => simp only [catB, ByteArray.size_append, ih, sumS, List.map_cons, List.sum_cons, List.length_cons, Nat.mul_succ]; omega
theorem strCells_app (a b : ByteArray) : Lib.strCells (a ++ b) = Lib.strCells a ++ Lib.strCells b := by simp [Lib.strCells, Lib.byteCells]
/-- A builder that holds a text. -/
def BuiltS (w0 : World) (p : Nat) (c : ByteArray) (M : List Own) (W : World) : Prop := ∃ v, St w0 (.bx p 109 #[.pointer (some ⟨p, 0, none⟩), v] :: .row v 5 1 c.size (Lib.strCells c) :: M) W
theorem BuiltS.write {w0 W : World} {p : Nat} {c s : ByteArray} {M : List Own} (h : BuiltS w0 p c M W) (hm : c.size + s.size ≤ 140737488355328) (R : Ending → World → Prop)
    (hk : ∀ W, BuiltS w0 p (c ++ s) M W → R (.returned (.tuple #[.int .i64 s.size, .nilIface])) W) : Calls Tryd.prog 56 #[.pointer (some ⟨p, 0, none⟩), .string s] W R := by
  obtain ⟨v, hS⟩ := h
  refine Write56 (.inr rfl) hS hm R fun v' W hS => hk W ⟨v', ?_⟩
  rw [strCells_app, ByteArray.size_append]; exact hS
theorem BuiltS.tell {w0 W : World} {p : Nat} {c : ByteArray} {M : List Own} (h : BuiltS w0 p c M W) (R : Ending → World → Prop)
    (hk : ∀ W', Below W.heap.size W W' ∨ Below w0.heap.size w0 W' → Below w0.heap.size w0 W' → R (.returned (.string c)) W') : Calls Tryd.prog 59 #[.pointer (some ⟨p, 0, none⟩)] W R := by
  obtain ⟨v, hS⟩ := h
  have hl : Lib.strCells c = Lib.byteCells c.data.toList := by simp [Lib.strCells, Lib.byteCells]
  have hn : (Lib.byteCells c.data.toList).length = c.size := by rw [Lib.byteCells_length, Array.length_toList]; rfl
  have hrow : W.ownsRow w0.heap.size 5 1 v (Lib.byteCells c.data.toList).length (Lib.byteCells c.data.toList) := by
    rw [hn, ← hl]; exact hS.get 1 rfl
  have hap := hS.apart 1 0 _ _ rfl rfl (by omega)
  have hne : v.ownBlock ≠ some p := by
    rcases hap with e | e
    · intro q; rw [show v.ownBlock = none from e] at q; cases q
    · exact e
  refine (Tryd.Builder_String_any w0.heap.size p c.data.toList W (.inr ⟨(hS.get 0 rfl).1, v, (hS.get 0 rfl).2, hrow, hne⟩) hS.size).mono ?_
  rintro e W5 ⟨rfl, hB5⟩
  exact hk W5 (.inr (hS.below.trans hB5)) (hS.below.trans hB5)
theorem Join57 (l : List ByteArray) (sep : ByteArray) (w : World) (lo : Option Addr) (lc : Nat) (hl : Sl w lo 1 (l.map vStr)) (hlc : l.length ≤ lc) (hn : l.length ≤ 1000000) (hsep : sep.size ≤ 1000) (hsum : sumS l ≤ 1000000000000) (R : Ending → World → Prop)
    (h : ∀ W, Below w.heap.size w W → R (.returned (.string (joinB sep l))) W) : Calls Tryd.prog 57 #[.slice lo l.length lc, .string sep] w R := by
  refine c57 _ _ _ _ _ _ ?_
  unfold vc57
  refine xLen111 (kEq_int (kIf_eq (fun e => ?_) (fun e0 => kEq_int (kIf_eq (fun e => ?_) (fun e1 => ?_)))))
  · have : l = [] := List.eq_nil_of_length_eq_zero (by omega)
    subst this
    exact h w (Below.refl _ _)
  · obtain ⟨x, rfl⟩ : ∃ x, l = [x] := List.length_eq_one_iff.1 (by omega)
    obtain ⟨pb, po, rfl, hpb, hpr⟩ := hl.elem (i := 0) (v := vStr x) rfl
    refine xIa111 (i := 0) (by simp) (kLdS rfl (hpr 0 (.string x) rfl) ?_)
    have := h w (Below.refl _ _)
    rwa [show joinB sep [x] = x from app_nil x] at this
  obtain ⟨x, r, hxr⟩ : ∃ x r, l = x :: r := by
    cases l with
    | nil => simp at e0
    | cons x r => exact ⟨x, r, rfl⟩
  have hlr : l.length = r.length + 1 := by rw [hxr]; simp
  have hsr : sumS l = x.size + sumS r := by rw [hxr]; simp [sumS]
  have hmul : sep.size * r.length ≤ 1000 * 1000000 := Nat.mul_le_mul hsep (by omega)
  refine kJn_inv (fun cs V => V = w ∧ cs = [.int .i64 ((sep.size * r.length : Nat) : Int)]) ?_ ?_
  rotate_left
  · intro J hJ
    refine kLen9 (kBin_gtr (kIf_d (fun q => ?_) (fun q => kD_i (hJ _ _ ⟨rfl, ?_⟩))))
    · refine kJn_inv (fun cs V => V = w) ?_ ?_
      rotate_left
      · intro J2 hJ2
        refine kLen9 (xLen111 (kBin_sub ?_))
        rw [wrap_id (by omega) (by omega)]
        refine kBin_quoI (by omega) (kBin_geq (kIf_d (fun q2 => ?_) (fun q2 => kD_i (hJ2 _ _ rfl))))
        exfalso
        have e2 : ((l.length : Int) - 1) = ((r.length : Nat) : Int) := by omega
        rw [e2, show (9223372036854775807 : Int) = ((9223372036854775807 : Nat) : Int) by rfl, ← Int.ofNat_tdiv] at q2
        have hd : 9223372036854775807 / r.length ≥ 9223372036854775807 / 1000000 := Nat.div_le_div_left (by omega) (by omega)
        have hd2 : 9223372036854775807 / r.length ≤ 9223372036854775807 := Nat.div_le_self _ _
        rw [wrap_id (by omega) (by omega)] at q2
        omega
      rintro cs V rfl ds
      refine kLen9 (xLen111 (kBin_sub ?_))
      rw [wrap_id (by omega) (by omega)]
      have e2 : ((l.length : Int) - 1) = ((r.length : Nat) : Int) := by omega
      rw [e2]
      refine kBin_mul (kBin_add (kD_i (hJ _ _ ⟨rfl, ?_⟩)))
      rw [show ((sep.size : Int) * (r.length : Nat)) = ((sep.size * r.length : Nat) : Int) by simp]
      generalize sep.size * r.length = T at hmul
      rw [wrap_id (a := ((T : Nat) : Int)) (by omega) (by omega), wrap_id (by omega) (by omega), Int.zero_add]
    · have : sep.size = 0 := by omega
      rw [this]; simp
  rintro cs V ⟨rfl, rfl⟩ ds
  try dsimp only [List.getD_cons_zero]
  obtain ⟨T, hT⟩ : ∃ T, T = sep.size * r.length := ⟨_, rfl⟩
  rw [← hT] at hmul ⊢
  have hle := sumS_le l
  refine xLen111 ⟨⟨fun cs W => W = V ∧ ∃ i : Nat, cs = [.int .i64 ((T + sumS (l.take i) : Nat) : Int), .int .i64 i] ∧ i ≤ l.length, fun cs _ => l.length - (match cs with | [_, .int _ i] => i.toNat | _ => 0), ⟨rfl, 0, by simp [sumS], Nat.zero_le _⟩, ?_⟩⟩
  rintro cs ds W ⟨rfl, i, rfl, hi⟩
  dsimp only [List.getD_cons_zero, List.getD_cons_succ]
  have hlei := hle i
  refine kBin_lss (kIf_d (fun e => ?_) (fun e => ?_))
  · have hil : i < l.length := by omega
    obtain ⟨pb, po, rfl, hpb, hpr⟩ := hl.elem (i := i) (v := vStr l[i]) (by simp [hil])
    have hst := sumS_take l hil
    have hlei2 := hle (i + 1)
    refine xIa111 hil (kLdS rfl (hpr 0 (.string l[i]) rfl) ?_)
    refine kJn_inv (fun cs V => V = W) ?_ (fun J hJ => kLen9 (kBin_sub (kBin_gtr (kIf_d (fun e => ?_) (fun e => kD_i (hJ _ _ rfl))))))
    · rintro cs V rfl ds
      refine kLen9 (kBin_add (kBin_add (kD_i ⟨⟨rfl, i + 1, ?_, hil⟩, ?_⟩)))
      · rw [hst, wrap_id (by omega) (by omega), wrap_id (by omega) (by omega), show ((T + (sumS (l.take i) + l[i].size) : Nat) : Int) = ((T + sumS (l.take i) : Nat) : Int) + (l[i].size : Int) by omega]; rfl
      · rw [wrap_id (a := (i : Int) + 1) (by omega) (by omega)]; show l.length - ((i : Int) + 1).toNat < l.length - (i : Int).toNat; omega
    · rw [wrap_id (by omega) (by omega)] at e; omega
  have hie : i = l.length := by omega
  rw [hie, List.take_length]
  refine kAlloc_st Tryd.zeroValue109 (St.start W) fun p V hS => ?_
  have hS : St W [.bx p 109 #[.pointer none, .slice none 0 0]] V := hS
  refine kCall_i (Tryd.call100 _ _) ((Tryd.Builder_Grow_fresh W.heap.size p (T + sumS l) V (hS.get 0 rfl).1 (hS.get 0 rfl).2 hS.size (by omega)).mono ?_)
  rintro e V2 ⟨rfl, ⟨hB, v, hbk, hown, hne⟩, hbel⟩
  have hA : St W [] V2 := ⟨hS.below.trans hbel, by simp, by simp⟩
  have hA := hA.adopt (o := .bx p 109 #[.pointer (some ⟨p, 0, none⟩), v]) ⟨hB, hbk⟩ (by simp)
  have hA := hA.adopt (o := .row v 5 1 0 []) hown (fun q hq => by simp at hq; subst hq; exact .inr (fun e => hne e.symm))
  have hS2 : BuiltS W p ⟨#[]⟩ [] V2 := ⟨v, hA⟩
  have hbl : ∀ {c : ByteArray} {W4 : World}, BuiltS W p c [] W4 → Below W.heap.size W W4 := fun h => by obtain ⟨v, h⟩ := h; exact h.below
  obtain ⟨pb, po, rfl, hpb, hpr⟩ := (hl.below (hbl hS2)).elem (i := 0) (v := vStr x) (by rw [hxr]; rfl)
  refine xIa111 (i := 0) (by omega) (kLdS rfl (hpr 0 (.string x) rfl) (kCall_i (Tryd.call56 _ _) (hS2.write (by show 0 + x.size ≤ _; omega) _ fun W3 hS3 => ?_)))
  rw [nil_app] at hS3
  refine xSl111_l (l := 1) (by omega) hlc (xLen111 ?_)
  have hd := (hl.dropS hlc (by omega))
  have hdr : l.drop 1 = r := by rw [hxr]; rfl
  rw [hdr] at hd
  have hl1 : l.length - 1 = r.length := by omega
  rw [hl1]
  generalize (if lc = 1 then (some ⟨pb, po, none⟩ : Option Addr) else (some ⟨pb, po, none⟩ : Option Addr).map (·.add (1 * 1))) = a1 at hd ⊢
  refine ⟨⟨fun cs W4 => ∃ i : Nat, cs = [.int .i64 i] ∧ i ≤ r.length ∧ BuiltS W p (x ++ catB sep (r.take i)) [] W4, fun cs _ => r.length - (match cs with | [.int _ i] => i.toNat | _ => 0), ⟨0, rfl, Nat.zero_le _, by rw [show catB sep (r.take 0) = ⟨#[]⟩ from rfl, app_nil]; exact hS3⟩, ?_⟩⟩
  rintro cs ds W4 ⟨i, rfl, hi, hS4⟩
  dsimp only [List.getD_cons_zero, List.getD_cons_succ]
  refine kBin_lss (kIf_d (fun e => ?_) (fun e => ?_))
  · have hil : i < r.length := by omega
    obtain ⟨qb, qo, rfl, hqb, hqr⟩ := (hd.below (hbl hS4)).elem (i := i) (v := vStr r[i]) (by simp [hil])
    have hcs := catB_size sep (r.take i)
    have h1 := sumS_le r i
    have h2 := sumS_le r (i + 1)
    rw [sumS_take r hil] at h2
    have h3 : sep.size * (r.take i).length ≤ T := by rw [hT]; exact Nat.mul_le_mul_left _ (by simp; omega)
    refine xIa111 hil (kLdS rfl (hqr 0 (.string r[i]) rfl) (kCall_i (Tryd.call56 _ _) (hS4.write (by rw [ByteArray.size_append]; omega) _ fun W5 hS5 => ?_)))
    refine kCall_i (Tryd.call56 _ _) (hS5.write (by rw [ByteArray.size_append, ByteArray.size_append]; omega) _ fun W6 hS6 => kBin_add (kD_i ⟨⟨i + 1, ?_, hil, ?_⟩, ?_⟩))
    · rw [wrap_id (by omega) (by omega)]; rfl
    · rw [List.take_succ_eq_append_getElem hil, catB_snoc, ← ByteArray.append_assoc, ← ByteArray.append_assoc]; exact hS6
    · rw [wrap_id (by omega) (by omega)]; show r.length - ((i : Int) + 1).toNat < r.length - (i : Int).toNat; omega
  · have hir : i = r.length := by omega
    rw [hir, List.take_length] at hS4
    refine kCall_i (Tryd.call59 _ _) (hS4.tell _ fun W' _ hB => ?_)
    have := h W' hB
    rwa [show joinB sep l = x ++ catB sep r by rw [hxr]; rfl] at this
end Go.L
namespace Go.L
open Go Go.RowKit Go.Proofs
set_option linter.unusedSimpArgs false
set_option linter.unusedVariables false

def laidEs : Array MapEntry := #[{ key := .int .i64 0, val := .func (.func 107) #[] #[], born := 0 }, { key := .int .i64 1, val := .func (.func 108) #[] #[], born := 1 }, { key := .int .i64 2, val := .func (.func 110) #[] #[], born := 2 }, { key := .int .i64 3, val := .func (.func 112) #[] #[], born := 3 }, { key := .int .i64 4, val := .func (.func 114) #[] #[], born := 4 }]
theorem laid98 (w : World) (R : Ending → World → Prop) (h : ∀ b W, St w [.ob b (.map laidEs 5)] W → R (.returned (.map (some b))) W) : Calls Tryd.prog 98 #[] w R := by
  refine c98 _ _ ?_
  unfold vc98
  refine kMkMap_st (St.start w) fun b W hS => ?_
  refine kUpd_st hS 0 rfl Tryd.underlying143 Tryd.underlying39 rfl rfl fun W hS => ?_
  refine kUpd_st hS 0 rfl Tryd.underlying143 Tryd.underlying39 rfl rfl fun W hS => ?_
  refine kUpd_st hS 0 rfl Tryd.underlying143 Tryd.underlying39 rfl rfl fun W hS => ?_
  refine kUpd_st hS 0 rfl Tryd.underlying143 Tryd.underlying39 rfl rfl fun W hS => ?_
  refine kUpd_st hS 0 rfl Tryd.underlying143 Tryd.underlying39 rfl rfl fun W hS => ?_
  exact h b W hS
def litF (t : Int) : Nat := if t = 0 then 107 else if t = 1 then 108 else if t = 2 then 110 else if t = 3 then 112 else 114
theorem laid_find {t : Int} (h0 : 0 ≤ t) (h4 : t ≤ 4) : ∃ j, Instr.findNow (.int .i64) (.int .i64 t) laidEs.toList 0 = some (some (j, .func (.func (litF t)) #[] #[])) := by
  have : t = 0 ∨ t = 1 ∨ t = 2 ∨ t = 3 ∨ t = 4 := by omega
  rcases this with rfl | rfl | rfl | rfl | rfl <;> exact ⟨_, rfl⟩
theorem lit_enter {t : Int} (h0 : 0 ≤ t) (h4 : t ≤ 4) (args : Array Value) (w : World) : (callFunc (litF t) args).run Tryd.prog w = .ok (.enter (litF t) args) w := by
  have : t = 0 ∨ t = 1 ∨ t = 2 ∨ t = 3 ∨ t = 4 := by omega
  rcases this with rfl | rfl | rfl | rfl | rfl
  · exact Tryd.call107 _ _
  · exact Tryd.call108 _ _
  · exact Tryd.call110 _ _
  · exact Tryd.call112 _ _
  · exact Tryd.call114 _ _
theorem checkE_rng {r : AV} (h : checkE r = 0) : 0 ≤ r.1 ∧ r.1 ≤ 4 := by
  unfold checkE at h
  split at h
  · omega
  · split at h
    · omega
    · omega
theorem Lv_ret82 {p c : Value} {rs : List RV} {R : Ending → World → Prop} {w : World} (h : RetK Tryd.prog rs R w) : Lv Tryd.prog rs R [{ target := .fn (.func 82) #[], args := #[p, c] }] .returning w :=
  ⟨rfl, Tryd.call82, (caught_idle87 p c w).mono (by rintro e u' w' ⟨rfl, rfl, rfl⟩; exact h)⟩
/-- value.Literal, of what may be, by what its kind's function tells. -/
theorem Literal55 (r : AV) (hc : checkE r = 0) (s : ByteArray) (w : World) (R : Ending → World → Prop)
    (hcall : ∀ W, Below w.heap.size w W → ∀ R', (∀ W', Below W.heap.size W W' → R' (.returned (.string s)) W') → Calls Tryd.prog (litF r.1) #[vVal r] W R')
    (h : ∀ W, Below w.heap.size w W → R (.returned (.tuple #[.string s, .int .i64 0])) W) : Calls Tryd.prog 55 #[vVal r] w R := by
  have hr := checkE_rng hc
  refine c55 _ _ _ _ _ ?_
  unfold vc55
  refine kBox_st (St.start w) fun b1 W hS => kAlloc_st Tryd.zeroValue9 hS fun b2 W hS => kAlloc_st Tryd.zeroValue26 hS fun b3 W hS => ?_
  have hS : St w [.bx b1 41 (vVal r).cells, .bx b2 9 #[.string ⟨#[]⟩], .bx b3 26 #[.int .i64 0]] W := hS
  refine xLdB41 hS 0 rfl rfl (kCall_i (Tryd.call84 _ _) (right89 r W _ (fun _ W2 hB => ?_) (fun hne => absurd hc hne)))
  have hS := hS.bel hB
  refine kDrawn_i (kDrawn_i (xFa41_0 (kLd hS 0 rfl rfl rfl (xLdB41 hS 0 rfl rfl (kDrew_st hS fun W hS => kCall_i (Tryd.call98 _ _) (laid98 W _ fun bm W2 hSm => ?_))))))
  have hS := hS.join hSm
  have hS : St w [.bx b1 41 (vVal r).cells, .bx b2 9 #[.string ⟨#[]⟩], .bx b3 26 #[.int .i64 0], .ob bm (.map laidEs 5)] W2 := hS
  obtain ⟨j, hj⟩ := laid_find hr.1 hr.2
  refine xFa41_0 (kSame_i (kLd hS 0 rfl rfl rfl (kSame_i (xLdB41 hS 0 rfl rfl (kSame_i (kLook_map (c := ⟨Tryd.prog, _, true⟩) (hS.get 3 rfl).2 Tryd.underlying143 Tryd.underlying39 rfl hj (kDrew_st hS fun W hS => ?_)))))))
  refine kCallV_i (lit_enter hr.1 hr.2 _ _) (hcall W hS.below _ fun W' hB => ?_)
  have hS := hS.bel hB
  refine kDrew_st hS fun W hS => kSt hS 1 rfl (by simp) rfl rfl rfl fun W hS => kSt hS 2 rfl (by simp) rfl rfl rfl fun W hS => Lv_ret82 (RetK_cell2 rfl rfl (hS.cell 1 rfl 0 rfl) (hS.cell 2 rfl 0 rfl) (h W hS.below))
theorem lit107 (r : AV) (w : World) (R : Ending → World → Prop) (h : ∀ W, Below w.heap.size w W → R (.returned (.string ⟨#[110, 117, 108, 108]⟩)) W) : Calls Tryd.prog 107 #[vVal r] w R := by
  refine c107 _ _ _ _ _ ?_
  unfold vc107
  exact kBox_st (St.start w) fun b W hS => h W hS.below
def boolB (b : Bool) : ByteArray := if b then ⟨#[116, 114, 117, 101]⟩ else ⟨#[102, 97, 108, 115, 101]⟩
theorem lit108 (r : AV) (w : World) (R : Ending → World → Prop) (h : ∀ W, Below w.heap.size w W → R (.returned (.string (boolB (r.2.1 == 1)))) W) : Calls Tryd.prog 108 #[vVal r] w R := by
  refine c108 _ _ _ _ _ ?_
  unfold vc108
  refine kBox_st (St.start w) fun b W hS => xFa41_1 (kLd hS 0 rfl rfl rfl (kEq_int (kCall_i (Tryd.call109 _ _) ?_)))
  refine c109 _ _ _ ?_
  unfold vc109
  refine kCall_i (Tryd.call126 _ _) (c126 _ _ _ ?_)
  unfold vc126
  have := h W hS.below
  unfold boolB at this
  exact kIf_b (fun q => by rw [if_pos q] at this; exact this) (fun q => by rw [if_neg (by rw [q]; simp)] at this; exact this)
theorem lit110 (r : AV) (hr : I64 r.2.1) (w : World) (hT : Tab w) (R : Ending → World → Prop) (h : ∀ W, Below w.heap.size w W → R (.returned (.string (itoaB r.2.1))) W) : Calls Tryd.prog 110 #[vVal r] w R := by
  refine c110 _ _ _ _ _ ?_
  unfold vc110
  exact kBox_st (St.start w) fun b W hS => xFa41_1 (kLd hS 0 rfl rfl rfl (kCall_i (Tryd.call111 _ _) (Format111 r.2.1 hr W (hT.below hS.below) _ fun W2 hB => h W2 (hS.bel hB).below)))
end Go.L
namespace Go.L
open Go Go.RowKit Go.Proofs
set_option linter.unusedSimpArgs false
set_option linter.unusedVariables false

theorem fd84 (j : Nat) (s : ByteArray) (a : Option Addr) (n cp : Nat) (r : Value) (w : World) : ((Instr.field 84 (.agg #[.string s, .slice a n cp, r]) 0).run Tryd.prog w = .ok (.string s) w) ∧ ((Instr.field 84 (.agg #[.string s, .slice a n cp, r]) 1).run Tryd.prog w = .ok (.slice a n cp) w) := by
  constructor
  · simp [Instr.field, run_underlying Tryd.underlying84, part, asAgg, Tryd.isAgg9]
  · simp [Instr.field, run_underlying Tryd.underlying84, part, asAgg, Tryd.isAgg81]
theorem kFd84_0 {X : Chain → World → Prop} {q : Bool} {w : World} {k : Value → World → Prop} {s : ByteArray} {a : Option Addr} {n cp : Nat} {r : Value} (h : k (.string s) w) : kFd ⟨Tryd.prog, X, q⟩ w 84 (.agg #[.string s, .slice a n cp, r]) 0 k := ⟨kVal_pure (c := ⟨Tryd.prog, X, q⟩) (fun w' => (fd84 0 s a n cp r w').1) h⟩
theorem kFd84_1 {X : Chain → World → Prop} {q : Bool} {w : World} {k : Value → World → Prop} {s : ByteArray} {a : Option Addr} {n cp : Nat} {r : Value} (h : k (.slice a n cp) w) : kFd ⟨Tryd.prog, X, q⟩ w 84 (.agg #[.string s, .slice a n cp, r]) 1 k := ⟨kVal_pure (c := ⟨Tryd.prog, X, q⟩) (fun w' => (fd84 0 s a n cp r w').2) h⟩
/-- A builder, used or not, that holds a text. -/
def BuiltP (w0 : World) (p : Nat) (c : ByteArray) (M : List Own) (W : World) : Prop := ∃ q v, (q = none ∨ q = some ⟨p, 0, none⟩) ∧ St w0 (.bx p 109 #[.pointer q, v] :: .row v 5 1 c.size (Lib.strCells c) :: M) W
theorem BuiltP.tell {w0 W : World} {p : Nat} {c : ByteArray} {M : List Own} (h : BuiltP w0 p c M W) (R : Ending → World → Prop)
    (hk : ∀ W', Below w0.heap.size w0 W' → R (.returned (.string c)) W') : Calls Tryd.prog 59 #[.pointer (some ⟨p, 0, none⟩)] W R := by
  obtain ⟨q, v, hq, hS⟩ := h
  have hl : Lib.strCells c = Lib.byteCells c.data.toList := by simp [Lib.strCells, Lib.byteCells]
  have hn : (Lib.byteCells c.data.toList).length = c.size := by rw [Lib.byteCells_length, Array.length_toList]; rfl
  have hrow : W.ownsRow w0.heap.size 5 1 v (Lib.byteCells c.data.toList).length (Lib.byteCells c.data.toList) := by
    rw [hn, ← hl]; exact hS.get 1 rfl
  have hap := hS.apart 1 0 _ _ rfl rfl (by omega)
  have hne : v.ownBlock ≠ some p := by
    rcases hap with e | e
    · intro q; rw [show v.ownBlock = none from e] at q; cases q
    · exact e
  refine (Tryd.Builder_String_any w0.heap.size p c.data.toList W (by
    rcases hq with rfl | rfl
    · exact .inl ⟨(hS.get 0 rfl).1, v, (hS.get 0 rfl).2, hrow, hne⟩
    · exact .inr ⟨(hS.get 0 rfl).1, v, (hS.get 0 rfl).2, hrow, hne⟩) hS.size).mono ?_
  rintro e W5 ⟨rfl, hB5⟩
  exact hk W5 (hS.below.trans hB5)
def spB : ByteArray := ⟨#[32]⟩
def nlB : ByteArray := ⟨#[10]⟩
/-- A line's words. -/
def w0B (i : Nat) (x : IN) : List ByteArray := [itoaB i, kNameB x.k.toNat] ++ (kParts x.k.toNat).map (fun p => itoaB (getF p.1 x))
def w1B (x : IN) : List ByteArray := if 1 ≤ x.o ∧ x.o ≤ 20 then [(infoO x.o).1] else []
def w2B (lit : AV → ByteArray) (x : IN) : List ByteArray := if x.k = 2 then [lit x.v] else []
def w3B (x : IN) : List ByteArray := if x.nm = ⟨#[]⟩ then [] else [x.nm]
def wordsB (lit : AV → ByteArray) (i : Nat) (x : IN) : List ByteArray := w0B i x ++ w1B x ++ w2B lit x ++ w3B x ++ itoas x.ar
def textN (lit : AV → ByteArray) (l : List IN) : Nat → ByteArray
  | 0 => ⟨#[]⟩
  | i + 1 => textN lit l i ++ (joinB spB (wordsB lit i (l.getD i in0)) ++ nlB)
theorem row_cap {W : World} {base : Nat} {e : TypeId} {sz n cp : Nat} {a : Option Addr} {xs : List Value} (h : W.ownsRow base e sz (.slice a n cp) n xs) : n ≤ cp := by
  rcases h.2 with ⟨h, hn⟩ | ⟨g, cap, cur, h, _, _, hcap, _⟩
  · cases h; omega
  · cases h; exact hcap
theorem join_size (sep : ByteArray) (l : List ByteArray) : (joinB sep l).size ≤ sumS l + sep.size * l.length := by
  cases l with
  | nil => simp [joinB]; exact Nat.le_refl _
  | cons x r => simp only [joinB, ByteArray.size_append, catB_size, sumS, List.map_cons, List.sum_cons, List.length_cons, Nat.mul_succ]; omega
/-- What a text tells of an instruction is of bounded size. -/
structure Small (lit : AV → ByteArray) (x : IN) : Prop where
  a : I64 x.a
  b : I64 x.b
  c : I64 x.c
  ar : ∀ n ∈ x.ar, I64 n
  arl : x.ar.length ≤ 10000
  nm : x.nm.size ≤ 10000
  lit : (lit x.v).size ≤ 10000
end Go.L
namespace Go.L
open Go Go.RowKit Go.Proofs
set_option linter.unusedSimpArgs false
set_option linter.unusedVariables false

theorem chkC_all {l : List IN} (h : chkC l = 0) : l.length ≤ 2000 ∧ ∀ x ∈ l, rightC l.length x = true := by
  unfold chkC at h
  split at h
  · omega
  · split at h
    · rename_i h1 h2; exact ⟨by omega, fun x hx => List.all_eq_true.1 h2 x hx⟩
    · omega
theorem rightC_k {n : Nat} {x : IN} (h : rightC n x = true) : 1 ≤ x.k ∧ x.k ≤ 21 ∧ (x.k = 2 → checkE x.v = 0) := by
  unfold rightC at h
  simp only [Bool.and_eq_true, decide_eq_true_eq] at h
  refine ⟨h.1.1, h.1.2, fun h2 => ?_⟩
  have := h.2.1.1
  rw [h2] at this
  simpa [restB] using this
theorem sumS_app (a b : List ByteArray) : sumS (a ++ b) = sumS a + sumS b := by simp [sumS]
theorem sumS_bound {B : Nat} : ∀ {l : List ByteArray}, (∀ s ∈ l, s.size ≤ B) → sumS l ≤ B * l.length
  | [], _ => by simp [sumS]
  | a :: l, h => by
    have h1 := h a (by simp)
    have h2 := sumS_bound (l := l) (fun s hs => h s (by simp [hs]))
    simp only [sumS, List.map_cons, List.sum_cons, List.length_cons, Nat.mul_succ] at h2 ⊢
    omega
theorem infoO_size (o : Int) : (infoO o).1.size ≤ 10000 := by
  have : ∀ k, k < 21 → (infoT.getD k info0).1.size ≤ 10000 := by decide
  unfold infoO
  split
  · exact this _ (by omega)
  · decide
theorem kNameB_size (k : Nat) (h : k < 22) : (kNameB k).size ≤ 10000 := by
  have : ∀ k, k < 22 → (kNameB k).size ≤ 10000 := by decide
  exact this k h
theorem words8 {lit : AV → ByteArray} {i : Nat} {x : IN} (hi : I64 i) (hx : Small lit x) (hk : x.k.toNat < 22) : ∀ s ∈ w0B i x ++ w1B x ++ w2B lit x ++ w3B x, s.size ≤ 10000 := by
  intro s hs
  have big : ∀ n, I64 n → (itoaB n).size ≤ 10000 := fun n hn => Nat.le_trans (itoaB_size n hn) (by omega)
  simp only [List.mem_append] at hs
  rcases hs with ((hs | hs) | hs) | hs
  · unfold w0B at hs
    simp only [List.mem_append, List.mem_cons, List.not_mem_nil, or_false, List.mem_map] at hs
    rcases hs with (rfl | rfl) | ⟨p, hp, rfl⟩
    · exact big _ hi
    · exact kNameB_size _ hk
    · refine big _ ?_
      unfold getF; split
      · exact hx.a
      · split
        · exact hx.b
        · exact hx.c
  · unfold w1B at hs
    split at hs
    · simp at hs; subst hs; exact infoO_size _
    · simp at hs
  · unfold w2B at hs
    split at hs
    · simp at hs; subst hs; exact hx.lit
    · simp at hs
  · unfold w3B at hs
    split at hs
    · simp at hs
    · simp at hs; subst hs; exact hx.nm
theorem Text35 (lit : AV → ByteArray) (l : List IN) (w : World) (hT : Tab w) (lo : Option Addr) (lc : Nat) (hl : InsL w lo l) (hsm : ∀ x ∈ l, Small lit x)
    (hlit : ∀ x ∈ l, x.k = 2 → checkE x.v = 0 → ∀ W, Below w.heap.size w W → ∀ R', (∀ W', Below W.heap.size W W' → R' (.returned (.string (lit x.v))) W') → Calls Tryd.prog (litF x.v.1) #[vVal x.v] W R') (R : Ending → World → Prop)
    (h0 : chkC l = 0 → ∀ W, Below w.heap.size w W → R (.returned (.tuple #[.string (textN lit l l.length), .int .i64 0])) W)
    (h1 : chkC l ≠ 0 → ∀ W, Below w.heap.size w W → R (.returned (.tuple #[.string ⟨#[]⟩, .int .i64 (chkC l)])) W) : Calls Tryd.prog 35 #[.slice lo l.length lc] w R := by
  refine c35 _ _ _ _ _ ?_
  unfold vc35
  refine kCall_i (Tryd.call19 _ _) (Check19 l w lo lc hl (fun x hx => Nat.le_trans (hsm x hx).arl (by omega)) _ fun W hB => kNe_int (kIf_ne (fun q => h1 q W hB) (fun q => ?_)))
  obtain ⟨hlen, hright⟩ := chkC_all q
  have hS := (St.start w).bel hB
  refine kAlloc_st Tryd.zeroValue109 hS fun bo W hS => ?_
  have hS : St w [.bx bo 109 #[.pointer none, .slice none 0 0]] W := hS
  have hS := hS.adopt (o := .row (.slice none 0 0) 5 1 0 []) (World.ownsRow_nil _ _ _ _) (fun p hp => by simp at hp; subst hp; exact .inr (fun e => by cases e))
  refine kCall_i (Tryd.call38 _ _) (kinds38 W _ fun bm es N W2 hSk hK => ?_)
  have hS := hS.join hSk
  have hB0 : BuiltP w bo ⟨#[]⟩ (.ob bm (.map es 21) :: N) W2 := ⟨none, _, .inl rfl, hS⟩
  refine xLen45 ⟨⟨fun cs V => ∃ i : Nat, cs = [.int .i64 i] ∧ i ≤ l.length ∧ (textN lit l i).size ≤ i * 1000000 ∧ BuiltP w bo (textN lit l i) (.ob bm (.map es 21) :: N) V, fun cs _ => l.length - (match cs with | [.int _ i] => i.toNat | _ => 0), ⟨0, rfl, Nat.zero_le _, Nat.le_refl _, hB0⟩, ?_⟩⟩
  rintro cs ds V ⟨i, rfl, hi, hsz, hBP⟩
  dsimp only [List.getD_cons_zero]
  refine kBin_lss (kIf_d (fun e => ?_) (fun e => ?_))
  rotate_left
  · have hie : i = l.length := by omega
    subst hie
    exact kCall_i (Tryd.call59 _ _) (hBP.tell _ fun W' hB => h0 q W' hB)
  have hil : i < l.length := by omega
  have htx : textN lit l (i + 1) = textN lit l i ++ (joinB spB (wordsB lit i l[i]) ++ nlB) := by
    show textN lit l i ++ (joinB spB (wordsB lit i (l.getD i in0)) ++ nlB) = _
    rw [show l.getD i in0 = l[i] by simp [hil]]
  have hxs := hsm l[i] (List.getElem_mem hil)
  have hxr := rightC_k (hright l[i] (List.getElem_mem hil))
  have hxl := hlit l[i] (List.getElem_mem hil)
  obtain ⟨pb, po, p, pc, rfl, hpb, hpr, hpx⟩ := hl.elem hil
  obtain ⟨qo, vo, hqo, hS⟩ := hBP
  have hpr : V.rangeAt pb (po + i * 10) (inV l[i] p pc).cells.toList := fun j v hj => by
    rw [World.cell?_of_block (w := w) (hS.below.block pb hpb)]; exact hpr j v hj
  generalize l[i] = x at *
  obtain ⟨k, hkx⟩ : ∃ k : Nat, x.k = (k : Int) := ⟨x.k.toNat, by omega⟩
  have hk1 : 1 ≤ k := by omega
  have hk2 : k ≤ 21 := by omega
  have hkt : x.k.toNat = k := by omega
  obtain ⟨j, v, hf, a, cp, r, rfl, hrow, hr⟩ := hK.some hk1 hk2
  rw [← hkx] at hf
  obtain ⟨L, hLd⟩ : ∃ L : List Own, L = .bx bo 109 #[.pointer qo, vo] :: .row vo 5 1 (textN lit l i).size (Lib.strCells (textN lit l i)) :: .ob bm (.map es 21) :: N := ⟨_, rfl⟩
  have hS : St w L V := by rw [hLd]; exact hS
  have i2 : L[2]? = some (.ob bm (.map es 21)) := by rw [hLd]; rfl
  have hNL : ∀ o ∈ N, o ∈ L := fun o ho => by rw [hLd]; exact List.mem_cons_of_mem _ (List.mem_cons_of_mem _ (List.mem_cons_of_mem _ ho))
  have h64 : I64 (i : Int) := ⟨by omega, by omega⟩
  refine xIa45 hil (xLdE50 hpr rfl rfl (kAlloc_st Tryd.zeroValue50 hS fun b8 V hS => kStoreAR (cs' := inC x p x.ar.length pc) hS rfl (by simp [inC, Value.oneCell']) Tryd.sizeOf50 fun V hS => kDrawn_i (kDrawn_i ?_)))
  refine xFa50_0 (kLd hS _ at_r rfl rfl (kLook_map (c := ⟨Tryd.prog, _, true⟩) (hS.get 2 (at_l i2)).2 Tryd.underlying79 Tryd.underlying46 rfl hf (kFd84_0 (kDrew_st hS fun W hS => ?_))))
  refine kCall_i (Tryd.call53 _ _) (Itoa53 i h64 W (hT.below hS.below) _ fun W2 hB => ?_)
  have hS := hS.bel hB
  refine xFa50_0 (kSame_i (kLd hS _ at_r rfl rfl (kSame_i (kLook_map (c := ⟨Tryd.prog, _, true⟩) (hS.get 2 (at_l i2)).2 Tryd.underlying79 Tryd.underlying46 rfl hf (kSame_i (kFd84_0 (kSame_i (kDrew_st hS fun W hS => ?_))))))))
  refine kBuildS_st (xE111 W) hS [vStr (itoaB i), vStr (kNameB k)] rfl rfl (by omega) (by omega) (by simp [vStr, Value.cells]) fun y W hS => kDrew_st hS fun W hS => ?_
  refine xFa50_0 (kLd hS L.length (at_l at_r) rfl rfl (kLook_map (c := ⟨Tryd.prog, _, false⟩) (hS.get 2 (at_l (at_l i2))).2 Tryd.underlying79 Tryd.underlying46 rfl hf (kFd84_1 (xLen81 ?_))))
  have hS : St w (L ++ [.bx b8 50 (inC x p x.ar.length pc)] ++ [.row y 9 1 ([itoaB i, kNameB k] ++ ((kParts k).take 0).map (fun p => itoaB (getF p.1 x))).length (([itoaB i, kNameB k] ++ ((kParts k).take 0).map (fun p => itoaB (getF p.1 x))).map vStr)] ) W := hS
  have i8 : ∀ {M : List Own}, (L ++ [Own.bx b8 50 (inC x p x.ar.length pc)] ++ M)[L.length]? = some (.bx b8 50 (inC x p x.ar.length pc)) := fun {M} => at_l at_r
  refine ⟨⟨fun cs V => ∃ (j : Nat) (y : Value), cs = [y, .int .i64 j] ∧ j ≤ (kParts k).length ∧ St w (L ++ [.bx b8 50 (inC x p x.ar.length pc)] ++ [.row y 9 1 ([itoaB i, kNameB k] ++ ((kParts k).take j).map (fun p => itoaB (getF p.1 x))).length (([itoaB i, kNameB k] ++ ((kParts k).take j).map (fun p => itoaB (getF p.1 x))).map vStr)]) V, fun cs _ => (kParts k).length - (match cs with | [_, .int _ i] => i.toNat | _ => 0), ⟨0, y, rfl, Nat.zero_le _, hS⟩, ?_⟩⟩
  have hk3 : (kParts k).length ≤ 3 := by
    have : ∀ k, k < 22 → (kParts k).length ≤ 3 := by decide
    exact this k (by omega)
  rintro cs ds V ⟨j, y, rfl, hj, hS⟩
  dsimp only [List.getD_cons_zero, List.getD_cons_succ]
  refine kBin_lss (kIf_d (fun e => ?_) (fun e => ?_))
  · have hjl : j < (kParts k).length := by omega
    obtain ⟨qb, qo', rfl, hqb, hqr⟩ : ∃ b o, a = some ⟨b, o, none⟩ ∧ b < V.heap.size ∧ V.rangeAt b (o + j * 4) (partV (kParts k)[j]).cells.toList := by
      have := Sl.of_owns (partV_size _) (hS.all _ (List.mem_append_left _ (List.mem_append_left _ (hNL _ hrow)))) (by simp)
      obtain ⟨a', c', he, hs⟩ := this
      cases he
      exact hs.elem (i := j) (by simp [hjl])
    have hf' := kParts_at (List.getElem_mem hjl)
    have hsn : ((kParts k).take (j + 1)).map (fun p => itoaB (getF p.1 x)) = ((kParts k).take j).map (fun p => itoaB (getF p.1 x)) ++ [itoaB (getF (kParts k)[j].1 x)] := by
      rw [List.take_succ_eq_append_getElem hjl, List.map_append]; rfl
    generalize (kParts k)[j] = q at hqr hf' hsn
    have hg : I64 (getF q.1 x) := by
      unfold getF; split
      · exact hxs.a
      · split
        · exact hxs.b
        · exact hxs.c
    refine xIa81 hjl (xLdE89 hqr rfl rfl (kAlloc_st Tryd.zeroValue89 hS fun b11 V hS => kStoreAR (cs' := #[.func (.func q.1) #[] #[], .int .i64 q.2.1, .int .i64 q.2.2.1, .bool q.2.2.2]) hS rfl (by simp [Value.oneCell']) Tryd.sizeOf89 fun V hS => ?_))
    refine xFa89_0 (kLd hS _ at_r rfl rfl (at_call hf' (kNil_p (kLd hS L.length (at_l i8) (inC_get hf' _ _ _ _) rfl ?_))))
    refine kCall_i (Tryd.call53 _ _) (Itoa53 (getF q.1 x) hg V (hT.below hS.below) _ fun W hB => ?_)
    have hS := (hS.bel hB).init
    refine kAppS hS (by simp; omega) fun x' W hS => kBin_add (kD_i ⟨⟨j + 1, x', ?_, hjl, ?_⟩, ?_⟩)
    · rw [wrap_id (by omega) (by omega)]; rfl
    · rw [hsn, ← List.append_assoc]; exact hS
    · rw [wrap_id (by omega) (by omega)]; show (kParts k).length - ((j : Int) + 1).toNat < (kParts k).length - (j : Int).toNat; omega
  have hje : j = (kParts k).length := by omega
  rw [hje, List.take_length] at hS
  have hS : St w (L ++ [.bx b8 50 (inC x p x.ar.length pc)] ++ [.row y 9 1 (w0B i x).length ((w0B i x).map vStr)]) V := by
    unfold w0B; rw [hkt]; exact hS
  have hl0 : (w0B i x).length ≤ 5 := by unfold w0B; rw [hkt]; simp; omega
  refine kJn_inv (fun cs V => ∃ y, cs = [y] ∧ St w (L ++ [.bx b8 50 (inC x p x.ar.length pc)] ++ [.row y 9 1 (w0B i x ++ w1B x).length ((w0B i x ++ w1B x).map vStr)]) V) ?_ ?_
  rotate_left
  · intro J hJ
    refine xFa50_4 (kLd hS L.length i8 rfl rfl (kCall_i (Tryd.call54 _ _) (Info28 x.o V _ fun W hB => kExt_0 (kExt_1 (kAlloc_st Tryd.zeroValue114 (hS.bel hB) fun b12 W hS => kStoreAR hS rfl (by simp [iVal, Value.oneCell']) Tryd.sizeOf114 fun W hS => kIf_d (fun q => ?_) (fun q => ?_))))))
    · refine xFa114_0 (kLd hS _ at_r rfl rfl (kAppS hS.init (by omega) fun x' W hS => kD_i (hJ _ _ ⟨x', rfl, ?_⟩)))
      rw [show w1B x = [(infoO x.o).1] from if_pos q]; exact hS
    · refine kD_i (hJ _ _ ⟨y, rfl, ?_⟩)
      rw [show w1B x = [] from if_neg q, List.append_nil]; exact hS.init
  rintro cs V ⟨y, rfl, hS⟩ ds1
  try dsimp only [List.getD_cons_zero]
  have hl1 : (w0B i x ++ w1B x).length ≤ 6 := by
    rw [List.length_append]
    have : (w1B x).length ≤ 1 := by unfold w1B; split <;> simp
    omega
  refine kJn_inv (fun cs V => ∃ y, cs = [y] ∧ St w (L ++ [.bx b8 50 (inC x p x.ar.length pc)] ++ [.row y 9 1 (w0B i x ++ w1B x ++ w2B lit x).length ((w0B i x ++ w1B x ++ w2B lit x).map vStr)]) V) ?_ ?_
  rotate_left
  · intro J hJ
    refine xFa50_0 (kLd hS L.length i8 rfl rfl (kEq_int (kIf_eq (fun q => ?_) (fun q => ?_))))
    · have q : x.k = 2 := q
      refine xFa50_5 (xLdE41 (bxV hS L.length i8) rfl rfl (kCall_i (Tryd.call55 _ _) (Literal55 x.v (hxr.2.2 q) (lit x.v) V _ (fun W hB => hxl q (hxr.2.2 q) W (hS.bel hB).below) fun W hB => kExt_0 (kExt_1 (kAppS (hS.bel hB) (by omega) fun x' W hS => kD_i (hJ _ _ ⟨x', rfl, ?_⟩))))))
      rw [show w2B lit x = [lit x.v] from if_pos q]; exact hS
    · refine kD_i (hJ _ _ ⟨y, rfl, ?_⟩)
      rw [show w2B lit x = [] from if_neg q, List.append_nil]; exact hS
  rintro cs V ⟨y, rfl, hS⟩ ds2
  try dsimp only [List.getD_cons_zero]
  have hl2 : (w0B i x ++ w1B x ++ w2B lit x).length ≤ 7 := by
    rw [List.length_append]
    have : (w2B lit x).length ≤ 1 := by unfold w2B; split <;> simp
    omega
  refine kJn_inv (fun cs V => ∃ y, cs = [y] ∧ St w (L ++ [.bx b8 50 (inC x p x.ar.length pc)] ++ [.row y 9 1 (w0B i x ++ w1B x ++ w2B lit x ++ w3B x).length ((w0B i x ++ w1B x ++ w2B lit x ++ w3B x).map vStr)]) V) ?_ ?_
  rotate_left
  · intro J hJ
    refine xFa50_6 (kLd hS L.length i8 rfl rfl (kNe_str (kIf_nd (fun q => ?_) (fun q => ?_))))
    · refine xFa50_6 (kLd hS L.length i8 rfl rfl (kAppS hS (by omega) fun x' W hS => kD_i (hJ _ _ ⟨x', rfl, ?_⟩)))
      rw [show w3B x = [x.nm] from if_neg q]; exact hS
    · refine kD_i (hJ _ _ ⟨y, rfl, ?_⟩)
      rw [show w3B x = [] from if_pos q, List.append_nil]; exact hS
  rintro cs V ⟨y, rfl, hS⟩ ds3
  try dsimp only [List.getD_cons_zero]
  have hl3 : (w0B i x ++ w1B x ++ w2B lit x ++ w3B x).length ≤ 8 := by
    rw [List.length_append]
    have : (w3B x).length ≤ 1 := by unfold w3B; split <;> simp
    omega
  have harl := hxs.arl
  refine xFa50_7 (kLd hS L.length i8 rfl rfl ?_)
  refine kCall_i (Tryd.call58 _ _) (some58 x.ar hxs.ar V (hT.below hS.below) p pc (hpx.below hS.below) (by omega) _ fun y2 W hS2 => ?_)
  have hS := hS.join hS2
  generalize hwd : w0B i x ++ w1B x ++ w2B lit x ++ w3B x = wd at hS hl3
  refine kAppRow_st (xE111 W) hS _ _ (at_l at_r) at_r (by
    intro u hu
    obtain ⟨z, _, rfl⟩ := List.mem_map.1 hu
    rfl) (by simp [maxLen]; omega) (by omega) fun x' W hS => ?_
  rw [set_l _ at_r, set_r] at hS
  have hS := hS.init
  have hwl : (wordsB lit i x).length = wd.length + x.ar.length := by unfold wordsB; rw [hwd]; simp [itoas]
  have hS : St w (L ++ [.bx b8 50 (inC x p x.ar.length pc)] ++ [.row x' 9 1 (wordsB lit i x).length ((wordsB lit i x).map vStr)]) W := by
    rw [hwl]; unfold wordsB; rw [hwd, List.map_append]; exact hS
  have hown : W.ownsRow w.heap.size 9 1 x' (wordsB lit i x).length ((wordsB lit i x).map vStr) := hS.get _ at_r
  have hown' : W.ownsRow w.heap.size 9 1 x' (wordsB lit i x).length (flat ((wordsB lit i x).map vStr)) := by rw [flatS]; exact hown
  obtain ⟨wa, wc, rfl, hsl⟩ := Sl.of_owns (vStr_size _) hown' (by simp)
  have hs1 : sumS (wordsB lit i x) ≤ 290000 := by
    have e1 := sumS_bound (words8 h64 hxs (by omega))
    have e2 : sumS (itoas x.ar) ≤ 21 * (itoas x.ar).length := sumS_bound (fun s hs => by
      obtain ⟨n, hn, rfl⟩ := List.mem_map.1 hs
      exact itoaB_size n (hxs.ar n hn))
    rw [show wordsB lit i x = (w0B i x ++ w1B x ++ w2B lit x ++ w3B x) ++ itoas x.ar from rfl, sumS_app]
    rw [hwd] at e1 ⊢
    simp only [itoas, List.length_map] at e2
    simp only [itoas]
    omega
  refine kCall_i (Tryd.call57 _ _) (Join57 (wordsB lit i x) spB W wa wc hsl (row_cap hown) (by omega) (by decide) (by omega) _ fun W2 hB => ?_)
  have hS := hS.bel hB
  have hjs := join_size spB (wordsB lit i x)
  have hsp : spB.size = 1 := rfl
  have hnl : nlB.size = 1 := rfl
  rw [hsp, Nat.one_mul] at hjs
  refine kAdd_str (b := nlB) (by rw [hnl]; omega) ?_
  rw [hLd] at hS
  refine kCall_i (Tryd.call56 _ _) (Write56 hqo hS (by rw [ByteArray.size_append, hnl]; omega) _ fun v' W3 hS3 => kBin_add (kD_i ⟨⟨i + 1, ?_, hil, ?_, some ⟨bo, 0, none⟩, v', .inr rfl, ?_⟩, ?_⟩))
  · rw [wrap_id (by omega) (by omega)]; rfl
  · rw [htx, ByteArray.size_append, ByteArray.size_append, hnl]; omega
  · rw [htx, ByteArray.size_append, strCells_app]
    exact (show St w ((Own.bx bo 109 #[.pointer (some ⟨bo, 0, none⟩), v'] :: Own.row v' 5 1 _ _ :: .ob bm (.map es 21) :: N) ++ [_] ++ [_]) W3 from hS3).init.init
  · rw [wrap_id (by omega) (by omega)]; show l.length - ((i : Int) + 1).toNat < l.length - (i : Int).toNat; omega
end Go.L
namespace Go.L
open Go Go.RowKit Go.Proofs
set_option linter.unusedSimpArgs false
set_option linter.unusedVariables false

def rowI : List IN := [⟨2, 3, 0, 0, 0, (2, 5, ⟨#[]⟩), ⟨#[]⟩, []⟩, ⟨9, 3, 0, 0, 0, (0, 0, ⟨#[]⟩), ⟨#[]⟩, []⟩, ⟨3, 4, 0, 0, 1, (0, 0, ⟨#[]⟩), ⟨#[]⟩, [3, 3]⟩, ⟨1, 0, 0, 0, 0, (0, 0, ⟨#[]⟩), ⟨#[]⟩, []⟩]
theorem built36v (a b : Int) : Tryd.prog.built 41 [(0, .int .i64 a), (1, .int .i64 b)] = some #[.int .i64 a, .int .i64 b, .string ⟨#[]⟩] := by kernel_rfl
theorem built36a (k a : Int) (v : AV) : Tryd.prog.built 50 [(0, .int .i64 k), (1, .int .i64 a), (5, vVal v)] = some (inC ⟨k, a, 0, 0, 0, v, ⟨#[]⟩, []⟩ none 0 0) := by kernel_rfl
theorem built36b (k a : Int) : Tryd.prog.built 50 [(0, .int .i64 k), (1, .int .i64 a)] = some (inC ⟨k, a, 0, 0, 0, (0, 0, ⟨#[]⟩), ⟨#[]⟩, []⟩ none 0 0) := by kernel_rfl
theorem built36c (k a o : Int) (p : Option Addr) (n cp : Nat) : Tryd.prog.built 50 [(0, .int .i64 k), (1, .int .i64 a), (4, .int .i64 o), (7, .slice p n cp)] = some (inC ⟨k, a, 0, 0, o, (0, 0, ⟨#[]⟩), ⟨#[]⟩, []⟩ p n cp) := by kernel_rfl
theorem built36d (k : Int) : Tryd.prog.built 50 [(0, .int .i64 k)] = some (inC ⟨k, 0, 0, 0, 0, (0, 0, ⟨#[]⟩), ⟨#[]⟩, []⟩ none 0 0) := by kernel_rfl
theorem row36 (w : World) (R : Ending → World → Prop) (h : ∀ a cp W, Below w.heap.size w W → InsL W a rowI → 4 ≤ cp → R (.returned (.slice a 4 cp)) W) : Calls Tryd.prog 36 #[] w R := by
  refine c36 _ _ ?_
  unfold vc36
  refine kBuild_i (built36v 2 5) (kBuild_i (built36a 2 3 (2, 5, ⟨#[]⟩)) (kBuild_i (built36b 9 3) ?_))
  refine kBS (xE48 w) (St.start w) [vInt 3, vInt 3] rfl rfl (by omega) (by omega) (by simp [vInt, Value.cells]) fun a cp W hS hsl => ?_
  refine kBuild_i (built36c 3 4 1 a 2 cp) (kBuild_i (built36d 1) ?_)
  refine kBS (xE45 W) hS [inV ⟨2, 3, 0, 0, 0, (2, 5, ⟨#[]⟩), ⟨#[]⟩, []⟩ none 0, inV ⟨9, 3, 0, 0, 0, (0, 0, ⟨#[]⟩), ⟨#[]⟩, []⟩ none 0, inV ⟨3, 4, 0, 0, 1, (0, 0, ⟨#[]⟩), ⟨#[]⟩, [3, 3]⟩ a cp, inV ⟨1, 0, 0, 0, 0, (0, 0, ⟨#[]⟩), ⟨#[]⟩, []⟩ none 0] rfl rfl (by omega) (by omega) (by simp [inV, Value.cells]) fun a2 cp2 W hS hsl2 => ?_
  have hown : W.ownsRow w.heap.size 50 10 (.slice a2 4 cp2) 4 _ := hS.get 1 rfl
  refine h a2 cp2 W hS.below ⟨_, hsl2, rfl, ?_⟩ (row_cap hown)
  have hs3 := hS.sl 0 (vs := [vInt 3, vInt 3]) rfl (by simp [vInt, Value.cells]) rfl
  intro i x hx
  match i, hx with
  | 0, hx => cases hx; exact ⟨_, rfl, none, 0, rfl, Sl.nil _ _⟩
  | 1, hx => cases hx; exact ⟨_, rfl, none, 0, rfl, Sl.nil _ _⟩
  | 2, hx => cases hx; exact ⟨_, rfl, a, cp, rfl, hs3⟩
  | 3, hx => cases hx; exact ⟨_, rfl, none, 0, rfl, Sl.nil _ _⟩
end Go.L
namespace Go.L
open Go Go.RowKit Go.Proofs
set_option linter.unusedSimpArgs false
set_option linter.unusedVariables false

/-- Cells of instructions, and what they read as: args lie in W. -/
def InsV (W : World) (vs : List Value) (l : List IN) : Prop := vs.length = l.length ∧ ∀ (i : Nat) (x : IN), l[i]? = some x → ∃ v, vs[i]? = some v ∧ InsAt W v x
theorem InsV.below {W W' : World} {vs : List Value} {l : List IN} (h : InsV W vs l) (hB : Below W.heap.size W W') : InsV W' vs l :=
  ⟨h.1, fun i x hi => by obtain ⟨v, hv, ha⟩ := h.2 i x hi; exact ⟨v, hv, ha.below hB⟩⟩
theorem InsV.cells {W : World} {vs : List Value} {l : List IN} (h : InsV W vs l) : ∀ v ∈ vs, v.cells.size = 10 ∧ ∀ u ∈ v.cells.toList, u.oneCell' = true := by
  intro v hv
  obtain ⟨i, hi, rfl⟩ := List.mem_iff_getElem.1 hv
  have hil : i < l.length := by rw [← h.1]; exact hi
  obtain ⟨v', hv', p, pc, rfl, _⟩ := h.2 i l[i] (by simp [hil])
  have e : vs[i] = inV l[i] p pc := by
    rw [List.getElem?_eq_getElem hi] at hv'; exact Option.some.inj hv'
  rw [e]
  exact ⟨rfl, by simp [inV, Value.cells, Value.oneCell']⟩
theorem Clone60 (l : List IN) (vs : List Value) (w : World) (lo : Option Addr) (lc : Nat) (hs : Sl w lo 10 vs) (hV : InsV w vs l) (hsm : l.length ≤ 1000000) (R : Ending → World → Prop)
    (h : ∀ x W, Below w.heap.size w W → W.ownsRow w.heap.size 50 10 x l.length (flat vs) → R (.returned x) W) : Calls Tryd.prog 60 #[.slice lo l.length lc] w R := by
  have hlen := hV.1
  refine c60 _ _ _ _ _ ?_
  unfold vc60
  refine kEqNil (c := ⟨Tryd.prog, _, false⟩) Tryd.underlying45 ?_
  cases lo with
  | none =>
    have hvs : vs = [] := by
      rcases hs.at_ with q | ⟨b, o, q, _⟩
      · exact q
      · cases q
    subst hvs
    have : l = [] := List.eq_nil_of_length_eq_zero (by rw [← hlen]; rfl)
    subst this
    exact kIf_t (h _ w (Below.refl _ _) (World.ownsRow_nil _ _ _ _))
  | some ad =>
    refine kIf_f (kBuildS0 (xE45 w) (St.start w) fun x W hS => ?_)
    have hsrc := Src.of_sl (hs.below hS.below) hlen.symm (by simp) (cp := lc) (n := l.length)
    refine kAppSrc_st (xE45 W) hS 0 rfl hsrc (m := l.length) hlen (fun v hv => (hV.cells v hv).2) (by simp only [maxLen]; omega) (by omega) fun x' W hS => ?_
    have hS : St w [.row x' 50 10 (0 + l.length) ([] ++ flat vs)] W := hS
    rw [Nat.zero_add, List.nil_append] at hS
    exact h x' W hS.below (hS.get 0 rfl)
/-- The pairs that are gone over. -/
def tgtI (i : Nat) (x : IN) (j : Nat) : List (Nat × Int) := (((kParts x.k.toNat).take j).filter (fun p => p.2.2.2)).map (fun p => (i, getF p.1 x))
def tgtN (l : List IN) : Nat → List (Nat × Int)
  | 0 => []
  | i + 1 => tgtN l i ++ tgtI i (l.getD i in0) (kParts (l.getD i in0).k.toNat).length
def tgtC (l : List IN) : List (Nat × Int) := if chkC l = 0 then tgtN l l.length else []
theorem Targets37 (l : List IN) (w : World) (lo : Option Addr) (lc : Nat) (hl : InsL w lo l) (hsm : ∀ x ∈ l, x.ar.length ≤ 1000000) (hlen : l.length ≤ 1000000) (R : Ending → World → Prop)
    (h : ∀ b1 b3 b4 bm x vs es N W, InsV w vs l → KIs es N 21 → St w ([.bx b1 45 #[x], .ob bm (.map es 21)] ++ N ++ [.bx b3 79 #[.map (some bm)]] ++ [.bx b4 4 #[.bool (chkC l == 0)]] ++ [.row x 50 10 l.length (flat vs)]) W → R (.returned (.func (.func 61) #[] #[.pointer (some ⟨b1, 0, none⟩), .pointer (some ⟨b3, 0, none⟩), .pointer (some ⟨b4, 0, none⟩)])) W) : Calls Tryd.prog 37 #[.slice lo l.length lc] w R := by
  refine c37 _ _ _ _ _ ?_
  unfold vc37
  refine kBox_st (St.start w) fun b1 W hS => kCall_i (Tryd.call38 _ _) (kinds38 W _ fun bm es N W2 hSk hK => ?_)
  have hS := hS.join hSk
  have hS : St w ([.bx b1 45 #[.slice lo l.length lc], .ob bm (.map es 21)] ++ N) W2 := hS
  refine kAlloc_st Tryd.zeroValue79 hS fun b3 W hS => kSt hS _ at_r (by simp [Value.cells]) rfl rfl rfl fun W hS => ?_
  rw [set_r] at hS
  have g0 : ∀ {x : Value} {M : List Own}, ([Own.bx b1 45 #[x], .ob bm (.map es 21)] ++ N ++ M)[0]? = some (.bx b1 45 #[x]) := fun {x M} => rfl
  refine kLd hS 0 g0 rfl rfl (kCall_i (Tryd.call19 _ _) (Check19 l W lo lc (hl.below hS.below) hsm _ fun W hB => kEq_int ?_))
  have hS := hS.bel hB
  refine kAlloc_st Tryd.zeroValue4 hS fun b4 W hS => kSt hS _ at_r (by simp [Value.cells]) rfl rfl rfl fun W hS => ?_
  rw [set_r] at hS
  obtain ⟨vs, hs, hvl, hvx⟩ := hl
  have hV : InsV w vs l := ⟨hvl, hvx⟩
  refine kLd hS 0 rfl rfl rfl (kCall_i (Tryd.call60 _ _) (Clone60 l vs W lo lc (hs.below hS.below) (hV.below hS.below) hlen _ fun x W2 hB ho => ?_))
  have hS := hS.made hB ho
  refine kSt hS 0 rfl (by simp) (row_cells ho).1 (row_cells ho).2 rfl fun W hS => ?_
  exact h b1 b3 b4 bm x vs es N W hV hK hS
end Go.L
namespace Go.L
open Go Go.RowKit Go.Proofs
set_option linter.unusedSimpArgs false
set_option linter.unusedVariables false

theorem kLook_none {P : Program} {X : Chain → World → Prop} {q : Bool} {w : World} {k : Value → World → Prop} {t kt et : TypeId} {d : TypeDesc} {key z : Value} {b clock : Nat} {es : Array MapEntry} (hb : w.heap[b]? = some (.map es clock)) (hm : P.underlying t = some (.map kt et)) (hk : P.underlying kt = some d)
    (hkey : MapKept.IsKey d key) (hf : Instr.findNow d key es.toList 0 = some none) (hz : ∀ w, (zeroValue et).run P w = .ok z w) (h : k z w) : kLook ⟨P, X, q⟩ w t (.map (some b)) key false k :=
  ⟨kVal_look (c := ⟨P, X, q⟩) (fun n => by
    have hg : (w.drewN n).heap[b]? = some (.map es clock) := hb
    have hc : ∀ e, (Instr.checkKey e 10000 kt key).run P (w.drewN n) = .ok () (w.drewN n) := fun e => MapKept.run_checkKey hk hkey e 9999
    simp [Instr.lookup, run_underlying hm, MapKept.run_getObj_map hg, hc, MapKept.run_findKey hk hf, Result.andThen, hz]) h⟩
theorem kParts_no {z : Int} (h : ¬ (1 ≤ z ∧ z ≤ 21)) : kParts z.toNat = [] := by
  by_cases h0 : z ≤ 0
  · rw [show z.toNat = 0 by omega]; rfl
  · unfold kParts
    rw [List.getD_eq_getElem?_getD, List.getElem?_eq_none (by simp; omega)]; rfl
/-- The parts of a kind, looked up. -/
theorem look_parts {w0 w : World} {L N : List Own} {bm : Nat} {es : Array MapEntry} (hK : KIs es N 21) (hS : St w0 L w) (j : Nat) (hj : L[j]? = some (.ob bm (.map es 21))) (hN : ∀ o ∈ N, o ∈ L) (z : Int) {X : Chain → World → Prop} {q : Bool} {k : Value → World → Prop}
    (h : ∀ s a cp r, ((kParts z.toNat = [] ∧ a = none ∧ cp = 0) ∨ Own.row (.slice a (kParts z.toNat).length cp) 89 4 (kParts z.toNat).length (flat ((kParts z.toNat).map partV)) ∈ N) → k (.agg #[.string s, .slice a (kParts z.toNat).length cp, r]) w) : kLook ⟨Tryd.prog, X, q⟩ w 79 (.map (some bm)) (.int .i64 z) false k := by
  by_cases hz : 1 ≤ z ∧ z ≤ 21
  · obtain ⟨n, rfl⟩ : ∃ n : Nat, z = (n : Int) := ⟨z.toNat, by omega⟩
    obtain ⟨j', v, hf, a, cp, r, rfl, hrow, hr⟩ := hK.some (z := n) (by omega) (by omega)
    exact kLook_map (c := ⟨Tryd.prog, X, q⟩) (hS.get j hj).2 Tryd.underlying79 Tryd.underlying46 rfl hf (h _ a cp r (.inr hrow))
  · have hp := kParts_no hz
    refine kLook_none (hS.get j hj).2 Tryd.underlying79 Tryd.underlying46 rfl (hK.none hz) Tryd.zeroValue84 ?_
    have := h ⟨#[]⟩ none 0 .nilFunc (.inl ⟨hp, rfl, rfl⟩)
    rw [hp] at this; exact this
def tgF (fine : Bool) (l : List IN) (i : Nat) : List (Nat × Int) := if fine then tgtN l i else []
def tgX (fine : Bool) (l : List IN) (n : Nat) : List Value := [.int .i64 (((tgF fine l l.length).getD n (0, 0)).1 : Nat), .int .i64 ((tgF fine l l.length).getD n (0, 0)).2]
theorem tgtN_pre (l : List IN) : ∀ (m i : Nat), ∃ r, tgtN l (i + m) = tgtN l i ++ r
  | 0, i => ⟨[], by simp⟩
  | m + 1, i => by
    obtain ⟨r, hr⟩ := tgtN_pre l m i
    exact ⟨_, by rw [← Nat.add_assoc, tgtN, hr, List.append_assoc]⟩
theorem tgtI_pre (i : Nat) (x : IN) : ∀ (m j : Nat), ∃ r, tgtI i x (j + m) = tgtI i x j ++ r
  | m, j => by
    refine ⟨(((kParts x.k.toNat).drop j).take m |>.filter (fun p => p.2.2.2)).map (fun p => (i, getF p.1 x)), ?_⟩
    unfold tgtI
    rw [List.take_add, List.filter_append, List.map_append]
theorem tgtI_snoc (i : Nat) (x : IN) {j : Nat} (hj : j < (kParts x.k.toNat).length) : tgtI i x (j + 1) = tgtI i x j ++ (if (kParts x.k.toNat)[j].2.2.2 then [(i, getF (kParts x.k.toNat)[j].1 x)] else []) := by
  unfold tgtI
  rw [List.take_succ_eq_append_getElem hj, List.filter_append, List.map_append]
  congr 1
  by_cases h : (kParts x.k.toNat)[j].2.2.2 = true
  · simp [h]
  · simp [h]
/-- Which pair comes next. -/
theorem tg_at {l : List IN} {i j : Nat} (hi : i < l.length) (hj : j < (kParts l[i].k.toNat).length) (hp : (kParts l[i].k.toNat)[j].2.2.2 = true) : (tgtN l l.length)[(tgtN l i ++ tgtI i l[i] j).length]? = some (i, getF (kParts l[i].k.toNat)[j].1 l[i]) := by
  obtain ⟨r, hr⟩ := tgtN_pre l (l.length - (i + 1)) (i + 1)
  rw [show i + 1 + (l.length - (i + 1)) = l.length by omega] at hr
  obtain ⟨r2, hr2⟩ := tgtI_pre i l[i] ((kParts l[i].k.toNat).length - (j + 1)) (j + 1)
  rw [show j + 1 + ((kParts l[i].k.toNat).length - (j + 1)) = (kParts l[i].k.toNat).length by omega, tgtI_snoc i l[i] hj, if_pos hp] at hr2
  have e : tgtN l (i + 1) = tgtN l i ++ tgtI i l[i] (kParts l[i].k.toNat).length := by
    show tgtN l i ++ tgtI i (l.getD i in0) _ = _
    rw [show l.getD i in0 = l[i] by simp [hi]]
  rw [hr, e, hr2]
  simp only [List.append_assoc]
  rw [← List.append_assoc, List.getElem?_append_right (Nat.le_refl _), Nat.sub_self]
  rfl
end Go.L
namespace Go.L
open Go Go.RowKit Go.Proofs
set_option linter.unusedSimpArgs false
set_option linter.unusedVariables false

/-- What the iterator over targets needs of what its caller holds. -/
structure TgA (b1 b3 b4 bm : Nat) (x : Value) (n : Nat) (vs : List Value) (es : Array MapEntry) (N : List Own) (fine : Bool) (L : List Own) : Prop where
  o1 : ∃ j : Nat, L[j]? = some (.bx b1 45 #[x])
  o3 : ∃ j : Nat, L[j]? = some (.bx b3 79 #[.map (some bm)])
  o4 : ∃ j : Nat, L[j]? = some (.bx b4 4 #[.bool fine])
  om : ∃ j : Nat, L[j]? = some (.ob bm (.map es 21))
  on : ∀ o ∈ N, o ∈ L
  ox : ∃ j : Nat, L[j]? = some (.row x 50 10 n (flat vs))
theorem TgA.app {b1 b3 b4 bm n : Nat} {x : Value} {vs : List Value} {es : Array MapEntry} {N L : List Own} {fine : Bool} (h : TgA b1 b3 b4 bm x n vs es N fine L) (M : List Own) : TgA b1 b3 b4 bm x n vs es N fine (L ++ M) :=
  ⟨h.o1.imp fun _ h => at_l h, h.o3.imp fun _ h => at_l h, h.o4.imp fun _ h => at_l h, h.om.imp fun _ h => at_l h, fun o ho => List.mem_append_left _ (h.on o ho), h.ox.imp fun _ h => at_l h⟩
/-- What is told of an instruction's cells, wherever its args lie. -/
def InsSh (vs : List Value) (l : List IN) : Prop := vs.length = l.length ∧ (∀ v ∈ vs, v.cells.size = 10) ∧ ∀ (i : Nat) (x : IN), l[i]? = some x → ∃ p pc, vs[i]? = some (inV x p pc)
theorem InsV.sh {W : World} {vs : List Value} {l : List IN} (h : InsV W vs l) : InsSh vs l :=
  ⟨h.1, fun v hv => (h.cells v hv).1, fun i x hi => by obtain ⟨v, hv, p, pc, rfl, _⟩ := h.2 i x hi; exact ⟨p, pc, hv⟩⟩
theorem iterS61 {w0 : World} {A : Nat → List Own → Prop} {b1 b3 b4 bm : Nat} {x : Value} {l : List IN} {vs : List Value} {es : Array MapEntry} {N : List Own} {fine : Bool} (hV : InsSh vs l) (hK : KIs es N 21) (hlen : l.length ≤ 1000000)
    (hA : ∀ i L, A i L → TgA b1 b3 b4 bm x l.length vs es N fine L) : IterS Tryd.prog (.func (.func 61) #[] #[.pointer (some ⟨b1, 0, none⟩), .pointer (some ⟨b3, 0, none⟩), .pointer (some ⟨b4, 0, none⟩)]) (tgF fine l l.length).length (fun i => (tgX fine l i).toArray) w0 A := by
  refine ⟨61, #[.pointer (some ⟨b1, 0, none⟩), .pointer (some ⟨b3, 0, none⟩), .pointer (some ⟨b4, 0, none⟩)], rfl, Tryd.call61, ?_⟩
  intro lp A' Z' W hsub h0 hy
  show Calls Tryd.prog 61 #[.func (.yield lp) #[] #[], .pointer (some ⟨b1, 0, none⟩), .pointer (some ⟨b3, 0, none⟩), .pointer (some ⟨b4, 0, none⟩)] W _
  refine c61 _ _ _ _ _ _ ?_
  unfold vc61
  have hAM : ∀ {i : Nat} {M : List Own}, A' i M → TgA b1 b3 b4 bm x l.length vs es N fine M := by
    intro i M h
    obtain ⟨L, N', hL, rfl⟩ := hsub i M h
    exact (hA i L hL).app N'
  obtain ⟨M, hM0, hS⟩ := h0
  obtain ⟨j1, hj1⟩ := (hAM hM0).o1
  obtain ⟨jx, hjx⟩ := (hAM hM0).ox
  have hrx : W.ownsRow w0.heap.size 50 10 x l.length (flat vs) := hS.get jx hjx
  obtain ⟨ax, cx, rfl, _⟩ := Sl.of_owns (hV.2.1) hrx hV.1
  have e00 : (tgF fine l 0).length = 0 := by unfold tgF; split <;> rfl
  refine kLd hS j1 hj1 rfl rfl (xLen45 ?_)
  refine ⟨⟨fun cs V => ∃ (i : Nat) (M E : List Own), cs = [.int .i64 i] ∧ i ≤ l.length ∧ A' (tgF fine l i).length M ∧ St w0 (M ++ E) V, fun cs _ => l.length - (match cs with | [.int _ i] => i.toNat | _ => 0), ⟨0, M, [], rfl, Nat.zero_le _, by rw [e00]; exact hM0, by rw [List.append_nil]; exact hS⟩, ?_⟩⟩
  rintro cs ds V ⟨i, M, E, rfl, hi, hM, hS⟩
  dsimp only [List.getD_cons_zero]
  refine kBin_lss (kIf_d (fun e => ?_) (fun e => ?_))
  rotate_left
  · have hie : i = l.length := by omega
    rw [hie] at hM
    exact .inl ⟨M, E, hM, hS⟩
  have hil : i < l.length := by omega
  have hT := (hAM hM).app E
  obtain ⟨jx, hjx⟩ := hT.ox
  have hrx : V.ownsRow w0.heap.size 50 10 (.slice ax l.length cx) l.length (flat vs) := hS.get jx hjx
  obtain ⟨_, _, he, hslx⟩ := Sl.of_owns (hV.2.1) hrx hV.1
  cases he
  obtain ⟨p, pc, hv⟩ := hV.2.2 i l[i] (by simp [hil])
  obtain ⟨pb, po, rfl, hpb, hpr⟩ := hslx.elem hv
  have htg := tgtN_pre l
  have hstep : tgF fine l (i + 1) = tgF fine l i ++ (if fine then tgtI i l[i] (kParts l[i].k.toNat).length else []) := by
    unfold tgF
    split
    · show tgtN l i ++ tgtI i (l.getD i in0) _ = _
      rw [show l.getD i in0 = l[i] by simp [hil]]
    · rfl
  have hat := fun j (hj : j < (kParts l[i].k.toNat).length) => tg_at (l := l) (i := i) (j := j) hil hj
  generalize l[i] = y at *
  refine xIa45 hil (xLdE50 hpr rfl rfl (kAlloc_st Tryd.zeroValue50 hS fun b6 V hS => kStoreAR (cs' := inC y p y.ar.length pc) hS rfl (by simp [inC, Value.oneCell']) Tryd.sizeOf50 fun V hS => ?_))
  have hT6 := hT.app [.bx b6 50 (inC y p y.ar.length pc)]
  obtain ⟨j3, hj3⟩ := hT6.o3
  obtain ⟨jm, hjm⟩ := hT6.om
  refine kLd hS j3 hj3 rfl rfl (xFa50_0 (kLd hS _ at_r rfl rfl (look_parts hK hS jm hjm hT6.on y.k fun s a cp r hrow => kFd84_1 (xLen81 ?_))))
  have hsnoc := fun j (hj : j < (kParts y.k.toNat).length) => tgtI_snoc i y hj
  have hfs : ∀ q ∈ kParts y.k.toNat, atF q.1 := fun q hq => kParts_at hq
  have hkl : (kParts y.k.toNat).length ≤ 3 := by
    have : ∀ k, k < 22 → (kParts k).length ≤ 3 := by decide
    by_cases hk : y.k.toNat < 22
    · exact this _ hk
    · rw [kParts_no (by omega)]; simp
  refine ⟨⟨fun cs V => ∃ (j : Nat) (M E : List Own), cs = [.int .i64 j] ∧ j ≤ (kParts y.k.toNat).length ∧ A' (tgF fine l i ++ (if fine then tgtI i y j else [])).length M ∧ St w0 (M ++ E ++ [.bx b6 50 (inC y p y.ar.length pc)]) V, fun cs _ => (kParts y.k.toNat).length - (match cs with | [.int _ i] => i.toNat | _ => 0), ⟨0, M, E, rfl, Nat.zero_le _, ?_, hS⟩, ?_⟩⟩
  · have : (if fine then tgtI i y 0 else []) = [] := by split <;> rfl
    rw [this, List.append_nil]; exact hM
  rintro cs ds V ⟨j, M, E, rfl, hj, hM, hS⟩
  dsimp only [List.getD_cons_zero]
  refine kBin_lss (kIf_d (fun e => ?_) (fun e => ?_))
  rotate_left
  · have hje : j = (kParts y.k.toNat).length := by omega
    rw [hje, ← hstep] at hM
    refine kBin_add (kD_i ⟨⟨i + 1, M, E ++ [.bx b6 50 (inC y p y.ar.length pc)], ?_, hil, hM, by rw [← List.append_assoc]; exact hS⟩, ?_⟩)
    · rw [wrap_id (by omega) (by omega)]; rfl
    · rw [wrap_id (by omega) (by omega)]; show l.length - ((i : Int) + 1).toNat < l.length - (i : Int).toNat; omega
  have hjl : j < (kParts y.k.toNat).length := by omega
  have hT6 := ((hAM hM).app E).app [.bx b6 50 (inC y p y.ar.length pc)]
  obtain ⟨qb, qo, rfl, hqb, hqr⟩ : ∃ b o, a = some ⟨b, o, none⟩ ∧ b < V.heap.size ∧ V.rangeAt b (o + j * 4) (partV (kParts y.k.toNat)[j]).cells.toList := by
    rcases hrow with ⟨h, _⟩ | hrow
    · rw [h] at hjl; simp at hjl
    · obtain ⟨a', c', he, hs⟩ := Sl.of_owns (partV_size _) (hS.all _ (hT6.on _ hrow)) (by simp)
      cases he
      exact hs.elem (i := j) (by simp [hjl])
  have hf := hfs _ (List.getElem_mem hjl)
  have hsn := hsnoc j hjl
  have hatj := hat j hjl
  generalize (kParts y.k.toNat)[j] = q at hqr hf hsn hatj
  refine xIa81 hjl (xLdE89 hqr rfl rfl (kAlloc_st Tryd.zeroValue89 hS fun b8 V hS => kStoreAR (cs' := #[.func (.func q.1) #[] #[], .int .i64 q.2.1, .int .i64 q.2.2.1, .bool q.2.2.2]) hS rfl (by simp [Value.oneCell']) Tryd.sizeOf89 fun V hS => ?_))
  obtain ⟨j4, hj4⟩ := (hT6.app [.bx b8 89 #[.func (.func q.1) #[] #[], .int .i64 q.2.1, .int .i64 q.2.2.1, .bool q.2.2.2]]).o4
  have go : ∀ (M' E' : List Own) (W : World), A' (tgF fine l i ++ (if fine then tgtI i y (j + 1) else [])).length M' → St w0 (M' ++ E' ++ [.bx b6 50 (inC y p y.ar.length pc)]) W →
      ∃ (j_1 : Nat) (M E : List Own), [Value.int .i64 (IntKind.i64.wrap ((j : Int) + 1))] = [.int .i64 j_1] ∧ j_1 ≤ (kParts y.k.toNat).length ∧ A' (tgF fine l i ++ (if fine then tgtI i y j_1 else [])).length M ∧ St w0 (M ++ E ++ [.bx b6 50 (inC y p y.ar.length pc)]) W :=
    fun M' E' W hM' hS' => ⟨j + 1, M', E', by rw [wrap_id (by omega) (by omega)]; rfl, hjl, hM', hS'⟩
  have meas : (kParts y.k.toNat).length - (IntKind.i64.wrap ((j : Int) + 1)).toNat < (kParts y.k.toNat).length - (j : Int).toNat := by rw [wrap_id (by omega) (by omega)]; omega
  have noY : ¬ (fine = true ∧ q.2.2.2 = true) → A' (tgF fine l i ++ (if fine then tgtI i y (j + 1) else [])).length M := fun hn => by
    have e : (if fine then tgtI i y (j + 1) else []) = (if fine then tgtI i y j else []) := by
      cases fine with
      | false => rfl
      | true =>
        have : ¬ q.2.2.2 = true := fun q2 => hn ⟨rfl, q2⟩
        simp only [if_true]
        rw [hsn, if_neg this, List.append_nil]
    rw [e]; exact hM
  refine kLd hS j4 hj4 rfl rfl (kIf_b (fun hfine => ?_) (fun hfine => kIf_f (kBin_add (kD_i ⟨go M E _ (noY (fun q => by rw [hfine] at q; cases q.1)) hS.init, meas⟩))))
  refine xFa89_3 (kLd hS _ at_r rfl rfl (kIf_b (fun hjump => ?_) (fun hjump => kIf_f (kBin_add (kD_i ⟨go M E _ (noY (fun q => by rw [hjump] at q; cases q.2)) hS.init, meas⟩)))))
  subst hfine
  refine xFa89_0 (kLd hS _ at_r rfl rfl (at_call hf (kNil_p (kLd hS (M ++ E).length (at_l at_r) (inC_get hf _ _ _ _) rfl ?_))))
  have hat2 := hatj hjump
  have hnl : (tgtN l i ++ tgtI i y j).length < (tgtN l l.length).length := (List.getElem?_eq_some_iff.1 hat2).1
  have hx : tgX true l (tgtN l i ++ tgtI i y j).length = [.int .i64 (i : Nat), .int .i64 (getF q.1 y)] := by
    unfold tgX
    show [Value.int .i64 (((tgtN l l.length).getD _ (0, 0)).1 : Nat), .int .i64 ((tgtN l l.length).getD _ (0, 0)).2] = _
    rw [List.getD_eq_getElem?_getD, hat2]; rfl
  have hS1 := hS
  rw [List.append_assoc, List.append_assoc] at hS1
  have hyy := hy (tgtN l i ++ tgtI i y j).length V M (E ++ ([.bx b6 50 (inC y p y.ar.length pc)] ++ [.bx b8 89 #[.func (.func q.1) #[] #[], .int .i64 q.2.1, .int .i64 q.2.2.1, .bool q.2.2.2]])) hnl hM hS1
  dsimp only at hyy
  rw [hx] at hyy
  refine kCallV_y hyy ?_
  intro en W' hen
  cases en with
  | outgrown => exact hen.elim
  | panicked ch => obtain ⟨M', hz, hS'⟩ := hen; exact ⟨M', _, hz, hS'⟩
  | returned v =>
    rcases hen with ⟨rfl, M', ha, hS'⟩ | ⟨rfl, ex, M', hle, hz, hS'⟩
    · refine kUn_not (kIf_f (kBin_add (kD_i ⟨go M' E _ ?_ ?_, meas⟩)))
      · simp only [if_true]
        rw [hsn, if_pos hjump, ← List.append_assoc, List.length_append]; exact ha
      · rw [← List.append_assoc, ← List.append_assoc] at hS'
        exact hS'.init
    · exact kUn_not (kIf_t (.inr ⟨M', _, ex, hle, hz, hS'⟩))
end Go.L
namespace Go.L
open Go Go.RowKit Go.Proofs
set_option linter.unusedSimpArgs false
set_option linter.unusedVariables false

theorem itoa_small (n : Nat) (h : n < 10) : itoaB n = ⟨#[UInt8.ofNat (48 + n)]⟩ := by
  unfold itoaB Lib.itoa
  rw [if_neg (by omega), Lib.decDigits, dif_pos (by omega)]; rfl
def litN (v : AV) : ByteArray := itoaB v.2.1
theorem chkRow : chkC rowI = 0 := by decide +kernel
theorem textRow : textN litN rowI 4 = ⟨#[48, 32, 118, 97, 108, 117, 101, 32, 51, 32, 53, 10, 49, 32, 105, 102, 32, 51, 32, 48, 10, 50, 32, 111, 112, 32, 52, 32, 43, 32, 51, 32, 51, 10, 51, 32, 115, 116, 111, 112, 10]⟩ := by decide +kernel
theorem tgRow : tgtC rowI = [(1, 0)] := by decide +kernel
end Go.L
namespace Go.L
open Go Go.RowKit Go.Proofs
set_option linter.unusedSimpArgs false
set_option linter.unusedVariables false

theorem kEq_fn77 {X : Chain → World → Prop} {q : Bool} {w : World} {k : Value → World → Prop} {ox oy : Operand} {f : FuncId} {caps : Array Value} (h : k (.bool false) w) : kEq ⟨Tryd.prog, X, q⟩ w .eql 77 ox oy (.func (.func f) #[] caps) .nilFunc k :=
  ⟨kVal_pure (c := ⟨Tryd.prog, X, q⟩) (v := .bool false) (fun w' => by
    simp only [go_sem]
    show Sem.run Tryd.prog (do pure (.bool (← Op.equal 77 (.func (.func f) #[] caps) .nilFunc)) : Sem Value) w' = _
    have : (Op.equal 77 (.func (.func f) #[] caps) .nilFunc).run Tryd.prog w' = .ok false w' := by
      unfold Op.equal Op.maxDepth Op.equalIn
      simp [run_underlying Tryd.underlying77]
    simp [this]) h⟩
theorem num18 (n : Int) (w : World) (R : Ending → World → Prop) (h : R (.returned (.int .i64 n)) w) : Calls Tryd.prog 18 #[.int .i64 n] w R := by
  refine c18 _ _ _ ?_
  unfold vc18
  exact h
def jmp (n : Int) : IN := ⟨10, 0, n, 0, 0, (0, 0, ⟨#[]⟩), ⟨#[]⟩, []⟩
theorem builtJ (k n : Int) : Tryd.prog.built 50 [(0, .int .i64 k), (2, .int .i64 n)] = some (inC ⟨k, 0, n, 0, 0, (0, 0, ⟨#[]⟩), ⟨#[]⟩, []⟩ none 0 0) := by kernel_rfl
theorem chkJ2 : chkC [jmp 2] = 2 := by decide +kernel
theorem chkJ1 : chkC [jmp 1] = 0 := by decide +kernel
theorem insL1 {W : World} {a : Option Addr} {x : IN} (hsl : Sl W a 10 [inV x none 0]) (h : x.ar = []) : InsL W a [x] := by
  refine ⟨_, hsl, rfl, ?_⟩
  intro i y hy
  match i, hy with
  | 0, hy => cases hy; exact ⟨_, rfl, none, 0, rfl, by rw [h]; exact Sl.nil _ _⟩
theorem tgf17 : tgF (chkC rowI == 0) rowI rowI.length = [(1, 0)] := by decide +kernel
/-- One instruction alone, checked. -/
theorem jump19 {X : Chain → World → Prop} {w0 w : World} {L : List Own} (hS : St w0 L w) (n : Int) {k : Value → World → Prop} (h : ∀ W, St w0 L W → k (.int .i64 (chkC [jmp n])) W) :
    kBuild ⟨Tryd.prog, X, false⟩ w 50 #[(0, .int .i64 10), (2, .int .i64 n)] fun v w => kBuildS ⟨Tryd.prog, X, false⟩ w 45 1 #[(0, v)] fun u w => kCall ⟨Tryd.prog, X, false⟩ w 19 #[u] fun r w => kCall ⟨Tryd.prog, X, false⟩ w 18 #[r] k := by
  refine kBuild_i (builtJ 10 n) ?_
  refine kBS (xE45 w) hS [inV (jmp n) none 0] rfl rfl (by omega) (by omega) (by simp [inV, jmp, Value.cells]) fun a cp W hS hsl => ?_
  refine kCall_i (Tryd.call19 _ _) (Check19 [jmp n] W a cp (insL1 hsl rfl) (by simp [jmp]) _ fun W2 hB => kCall_i (Tryd.call18 _ _) (num18 _ _ _ ?_))
  exact h _ (hS.bel hB).init
theorem works17 (w : World) (hT : Tab w) (R : Ending → World → Prop) (h : ∀ W, Below w.heap.size w W → R (.returned (.bool true)) W) : Calls Tryd.prog 17 #[] w R := by
  refine c17 _ _ ?_
  unfold vc17
  refine kAlloc_st Tryd.zeroValue4 (St.start w) fun b0 W1 hS => ?_
  have hS : St w [.bx b0 4 #[.bool false]] W1 := hS
  refine kCall_i (Tryd.call36 _ _) (row36 W1 _ fun a cp W2 hB2 hl hcp => ?_)
  have hS := hS.bel hB2
  refine kCall_i (Tryd.call35 _ _) (Text35 litN rowI W2 (hT.below hS.below) a cp hl ?_ ?_ _ (fun hc W3 hB3 => ?_) (fun hc => absurd chkRow hc))
  · intro x hx
    simp only [rowI, List.mem_cons, List.not_mem_nil, or_false] at hx
    rcases hx with rfl | rfl | rfl | rfl <;> exact ⟨by simp [I64], by simp [I64], by simp [I64], by simp [I64], by decide, by decide, by decide +kernel⟩
  · intro x hx hk _ W hB R' h'
    simp only [rowI, List.mem_cons, List.not_mem_nil, or_false] at hx
    rcases hx with rfl | rfl | rfl | rfl
    · exact lit110 (2, 5, ⟨#[]⟩) (by simp [I64]) W (hT.below (hS.bel hB).below) R' h'
    all_goals exact absurd hk (by decide)
  rw [show rowI.length = 4 from rfl, textRow]
  have hS := hS.bel hB3
  refine kExt_0 (kExt_1 ?_)
  refine kCall_i (Tryd.call36 _ _) (row36 W3 _ fun a cp W4 hB4 hl hcp => ?_)
  have hS := hS.bel hB4
  refine kCall_i (Tryd.call37 _ _) (Targets37 rowI W4 a cp hl (by decide) (by decide) _ fun b1 b3 b4 bm x vs es N W5 hV hK hSt => ?_)
  have hS := hS.join hSt
  refine kEq_fn77 (kIf_f ?_)
  refine kAlloc_st Tryd.zeroValue3 hS fun b5 W hS => kSt hS _ at_r (by simp [Value.cells]) rfl rfl rfl fun W hS => ?_
  rw [set_r] at hS
  obtain ⟨L, hL⟩ : ∃ L : List Own, L = [Own.bx b0 4 #[.bool false]] ++ ([.bx b1 45 #[x], .ob bm (.map es 21)] ++ N ++ [.bx b3 79 #[.map (some bm)]] ++ [.bx b4 4 #[.bool (chkC rowI == 0)]] ++ [.row x 50 10 rowI.length (flat vs)]) := ⟨_, rfl⟩
  have hS : St w (L ++ [.bx b5 3 #[.int .i64 0]]) W := by rw [hL]; exact hS
  have i0 : L[0]? = some (.bx b0 4 #[.bool false]) := by rw [hL]; rfl
  have hTg : TgA b1 b3 b4 bm x rowI.length vs es N (chkC rowI == 0) L := by
    have mem : ∀ {o : Own}, o ∈ L → ∃ j : Nat, L[j]? = some o := fun ho => List.mem_iff_getElem?.1 ho
    refine ⟨mem (by rw [hL]; simp), mem (by rw [hL]; simp), mem (by rw [hL]; simp), mem (by rw [hL]; simp), fun o ho => by rw [hL]; simp [ho], mem (by rw [hL]; simp)⟩
  clear hL
  have hft : (chkC rowI == 0) = true := by decide +kernel
  have htl := tgf17
  have h1 : (tgF (chkC rowI == 0) rowI rowI.length).length = 1 := by rw [htl]; rfl
  refine kRange_fr (w0 := w) (ds := []) (tgF (chkC rowI == 0) rowI rowI.length).length (fun i => tgX (chkC rowI == 0) rowI i)
    (fun i X => X = L ++ [.bx b5 3 #[.int .i64 (i : Nat)]]) (fun _ _ => False) (fun _ => rfl) ⟨_, rfl, by rw [show marks [] = [] from rfl, List.append_nil]; exact hS⟩ List.nodup_nil (fun D hD => by cases hD) ?_
    (iterS61 (l := rowI) (vs := vs) hV.sh hK (by decide) (fun i X hX => by rw [hX]; exact hTg.app _)) ?_ (fun _ _ _ q => q.elim) (fun _ _ _ _ q => q.elim) (fun _ _ _ _ q => q.elim)
  · rintro i l1 D lo W1 X E hi rfl hS
    have hi0 : i = 0 := by omega
    subst hi0
    have hx : tgX (chkC rowI == 0) rowI 0 = [.int .i64 1, .int .i64 0] := by
      unfold tgX; rw [htl]; rfl
    rw [hx]
    dsimp only [List.getD_cons_zero, List.getD_cons_succ]
    refine rndMid_fr hS (N := []) (by rw [List.append_nil]; exact hS) fun lo2 V hV2 => ?_
    rw [List.append_nil] at hV2
    refine kNe_int (kIf_ne (fun q => absurd rfl q) (fun _ => kNe_int (kIf_ne (fun q => absurd rfl q) (fun _ => ?_))))
    refine kLd hV2 L.length (at_l (at_l (at_l at_r))) rfl rfl (kBin_add (kSt hV2 L.length (at_l (at_l (at_l at_r))) (by simp) rfl rfl rfl fun V3 hV3 => ?_))
    rw [set_l _ (at_l (at_l at_r)), set_l _ (at_l at_r), set_l _ at_r, set_r] at hV3
    exact rndEnd_fr hS (N := []) (by rw [List.append_nil]; exact hV3) fun hV4 => ⟨lo2, _, rfl, hV4⟩
  · rintro D V X rfl m1 m2 m3
    rw [h1] at m3
    refine kCall_i (Tryd.call18 _ _) (num18 _ _ _ (kEq_int (kIf_t (kEq_str ?_))))
    rw [decide_eq_true rfl]
    refine kIf_t (kLd m3 L.length (at_l at_r) rfl rfl (kEq_int (kIf_t ?_)))
    refine jump19 m3 2 fun V m3 => ?_
    rw [chkJ2]
    refine kEq_int (kIf_t (jump19 m3 1 fun V m3 => ?_))
    rw [chkJ1]
    refine kEq_int (kSt m3 0 (at_l (at_l i0)) (by simp) rfl rfl rfl fun V m3 => ?_)
    rw [set_l _ (at_l i0), set_l _ i0] at m3
    have h2 := L.length
    exact Lv_mks (by simp) m1 m3 0 (at_l (by rw [List.getElem?_set_self (by exact (List.getElem?_eq_some_iff.1 i0).1)])) (fun V hB h4 => RetK_cell rfl (by rw [cell_of_row V b0 0 _ 4 (0, 0) h4]; rfl) (h V hB)) rfl
end Go.L
namespace Go.L
open Go Go.RowKit Go.Proofs
set_option linter.unusedSimpArgs false
set_option linter.unusedVariables false

def jmps (n : Nat) : List IN := (List.range n).map fun (i : Nat) => jmp (i : Int)
def jmpV (i : Nat) : Value := inV (jmp (i : Int)) none 0
def zV : Value := inV in0 none 0
def pickI (n : Nat) : IN := ⟨4, 0, 0, 0, 0, (0, 0, ⟨#[]⟩), ⟨#[]⟩, List.replicate n 0⟩
theorem right_jmp (n : Nat) (z : Int) (h0 : 0 ≤ z) (h1 : z ≤ n) : rightC n (jmp z) = true := by
  have e : (jmp z).k.toNat = 10 := rfl
  unfold rightC
  rw [e]
  have h2 : restB 10 (jmp z) = true := rfl
  have h3 : kParts 10 = [pjump 63] := rfl
  have h4 : bareI 10 (jmp z) = in0 := rfl
  have hk : (jmp z).k = 10 := rfl
  rw [h2, h3, h4, hk]
  have h5 : inP n (jmp z) (pjump 63) = true := by
    unfold inP
    rw [show topP n (pjump 63) = n from rfl, show getF (pjump 63).1 (jmp z) = z from rfl, show (pjump 63).2.1 = 0 from rfl]
    simp [allIn, outOf, h0, h1]
  have h6 : bareP (jmp z) [pjump 63] { in0 with k := 10 } = jmp z := by
    simp [bareP, pjump, setF, getF, jmp, in0]
  simp [h5, h6]
theorem chk_jmps (n : Nat) : (chkC (jmps n) == 0) = decide ((n : Int) ≤ 2000) := by
  unfold chkC
  have hl : (jmps n).length = n := by simp [jmps]
  have ha : (jmps n).all (rightC (jmps n).length) = true := by
    rw [hl, List.all_eq_true]
    intro x hx
    obtain ⟨i, hi, rfl⟩ := List.mem_map.1 hx
    have := List.mem_range.1 hi
    exact right_jmp n i (by omega) (by omega)
  rw [ha, hl]
  by_cases h : n > 2000
  · rw [if_pos h, decide_eq_false (by omega)]; rfl
  · rw [if_neg h, decide_eq_true (by omega)]; rfl
theorem allIn_rep (n : Nat) : allIn 0 399 (List.replicate n 0) = true := by
  unfold allIn
  rw [List.all_eq_true]
  intro x hx
  rw [(List.mem_replicate.1 hx).2]; rfl
theorem chk_pick (n : Nat) (h1 : 1 ≤ n) : (chkC [pickI n] == 0) = decide ((n : Int) ≤ 200) := by
  have hk : (pickI n).k = 4 := rfl
  have hl : (pickI n).ar.length = n := by simp [pickI]
  have ha : argsB 1 (pickI n) = decide (n ≤ 200) := by
    unfold argsB
    rw [hl, show (pickI n).ar = List.replicate n 0 from rfl, allIn_rep, decide_eq_true (by omega)]; simp
  have h2 : restB 4 (pickI n) = decide (n ≤ 200) := by rw [← ha]; rfl
  have h3 : kParts 4 = [preg 62] := rfl
  have h5 : inP 1 (pickI n) (preg 62) = true := rfl
  have h6 : bareP (pickI n) [preg 62] { bareI 4 (pickI n) with k := 4 } = pickI n := rfl
  have hr : rightC 1 (pickI n) = decide (n ≤ 200) := by
    unfold rightC
    rw [hk, show (4 : Int).toNat = 4 from rfl, h2, h3, h6]
    simp [h5]
  unfold chkC
  rw [show ([pickI n] : List IN).length = 1 from rfl, if_neg (by omega), show [pickI n].all (rightC 1) = rightC 1 (pickI n) by simp, hr]
  by_cases h : n ≤ 200
  · rw [decide_eq_true h, decide_eq_true (by omega)]; rfl
  · rw [decide_eq_false h, decide_eq_false (by omega)]; rfl
theorem bx_sl {w0 W : World} {L : List Own} (hS : St w0 L W) (i : Nat) {b sz : Nat} {e : TypeId} {vs : List Value} (hi : L[i]? = some (.bx b e (flat vs).toArray)) (hv : ∀ v ∈ vs, v.cells.size = sz) : Sl W (some ⟨b, 0, none⟩) sz vs :=
  ⟨hv, .inr ⟨b, 0, rfl, (Array.getElem?_eq_some_iff.1 (hS.get i hi).2).1, hS.range i hi fun j v hj => by rw [Nat.zero_add, List.getElem?_toArray]; exact hj⟩⟩
theorem built36p (p : Option Addr) (n cp : Nat) : Tryd.prog.built 50 [(0, .int .i64 4), (7, .slice p n cp)] = some (inC ⟨4, 0, 0, 0, 0, (0, 0, ⟨#[]⟩), ⟨#[]⟩, []⟩ p n cp) := by kernel_rfl
theorem CodeMany5 (many args : Int) (hm : I64 many) (ha : I64 args) (w : World) (hT : Tab w) (R : Ending → World → Prop) (h : ∀ W, Below w.heap.size w W → R (.returned (.bool true)) W) : Calls Tryd.prog 5 #[.int .i64 many, .int .i64 args] w R := by
  refine c5 _ _ _ _ ?_
  unfold vc5
  have fin : ∀ {X : Chain → World → Prop} {W : World}, Below w.heap.size w W → kCall ⟨Tryd.prog, X, false⟩ W 17 #[] fun v w_27 => R (.returned v) w_27 := fun hB =>
    kCall_i (Tryd.call17 _ _) (works17 _ (hT.below hB) _ fun W' hB' => h _ (((St.start w).bel hB).bel hB').below)
  refine kJn_i ?_
  refine kBin_lss (kIf_d (fun _ => kIf_t (fin (Below.refl _ _))) (fun h1 => ?_))
  refine kBin_gtr (kIf_d (fun _ => kIf_t (fin (Below.refl _ _))) (fun h2 => ?_))
  refine kBin_lss (kIf_d (fun _ => kIf_t (fin (Below.refl _ _))) (fun h3 => ?_))
  refine kBin_gtr (kIf_d (fun _ => fin (Below.refl _ _)) (fun h4 => ?_))
  refine kD_i ?_
  intro ds
  obtain ⟨m, rfl⟩ : ∃ m : Nat, many = m := ⟨many.toNat, by omega⟩
  obtain ⟨a, rfl⟩ : ∃ a : Nat, args = a := ⟨args.toNat, by omega⟩
  refine kMkSl_bx (xE45 w) (z := zV) Tryd.zeroValue50 (St.start w) (n := m) (by omega) (by omega) fun b W hS => ?_
  have hz : ∀ n, (List.replicate n zV.cells.toList).flatten = flat (List.replicate n zV) := fun n => by
    unfold flat; rw [List.flatMap_def]; simp
  refine ⟨⟨fun cs V => ∃ i : Nat, cs = [.int .i64 i] ∧ i ≤ m ∧ St w [.bx b 50 (flat ((List.range i).map jmpV) ++ flat (List.replicate (m - i) zV)).toArray] V, fun cs _ => m - (match cs with | [.int _ i] => i.toNat | _ => 0), ⟨0, rfl, by omega, ?_⟩, ?_⟩⟩
  · rw [hz] at hS; exact hS
  rintro cs ds V ⟨i, rfl, him, hS⟩
  dsimp only [List.getD_cons_zero]
  have hfl : ∀ n, (flat ((List.range n).map jmpV)).length = n * 10 := fun n => by
    induction n with
    | zero => rfl
    | succ n ih => rw [List.range_succ, List.map_append]; unfold flat at ih ⊢; rw [List.flatMap_append, List.length_append, ih]; simp [jmpV, inV, Value.cells]; omega
  refine kBin_lss (kIf_d (fun e => ?_) (fun e => ?_))
  · refine kBuild_i (builtJ 10 i) ?_
    refine xIa45 (by omega) ?_
    have hrep : List.replicate (m - i) zV = zV :: List.replicate (m - (i + 1)) zV := by
      rw [show m - i = (m - (i + 1)) + 1 by omega]; rfl
    rw [hrep] at hS
    have hS : St w [.bx b 50 (flat ((List.range i).map jmpV) ++ zV.cells.toList ++ flat (List.replicate (m - (i + 1)) zV)).toArray] V := by
      rw [List.append_assoc]; exact hS
    refine kStoreM hS 0 rfl (by rw [hfl]; omega) rfl (by simp [inC, Value.oneCell']) Tryd.sizeOf50 fun V hS => ?_
    refine kBin_add (kD_i ⟨⟨i + 1, ?_, by omega, ?_⟩, ?_⟩)
    · rw [wrap_id (by omega) (by omega)]; rfl
    · have e2 : flat ((List.range (i + 1)).map jmpV) = flat ((List.range i).map jmpV) ++ (inC (jmp i) none 0 0).toList := by
        rw [List.range_succ, List.map_append]; unfold flat; rw [List.flatMap_append]; simp [jmpV, inV, Value.cells, inC, jmp]
      rw [e2]; exact hS
    · rw [wrap_id (by omega) (by omega)]; show m - ((i : Int) + 1).toNat < m - (i : Int).toNat; omega
  have hie : i = m := by omega
  subst hie
  have hS : St w [.bx b 50 (flat ((List.range i).map jmpV)).toArray] V := by
    rw [Nat.sub_self] at hS; simpa [flat] using hS
  have hll : (jmps i).length = i := by simp [jmps]
  have hcells : ∀ v ∈ (List.range i).map jmpV, v.cells.size = 10 := by
    intro v hv; obtain ⟨j, _, rfl⟩ := List.mem_map.1 hv; rfl
  refine kMkSl_bx (xE48 V) (z := .int .i64 0) Tryd.zeroValue3 hS (n := a) (by omega) (by omega) fun b2 V hS => ?_
  have hS : St w [.bx b 50 (flat ((List.range i).map jmpV)).toArray, .bx b2 3 (flat (List.replicate a (vInt 0))).toArray] V := by
    have e : (List.replicate a (Value.int IntKind.i64 0).cells.toList).flatten = flat (List.replicate a (vInt 0)) := by
      unfold flat; rw [List.flatMap_def]; simp [vInt]
    rw [e] at hS; exact hS
  refine kBuild_i (built36p (some ⟨b2, 0, none⟩) a a) ?_
  refine kAlloc_st Tryd.zeroValue50 hS fun b3 V hS => kStoreAR hS rfl (by simp [inC, Value.oneCell']) Tryd.sizeOf50 fun V hS => ?_
  have hS : St w [.bx b 50 (flat ((List.range i).map jmpV)).toArray, .bx b2 3 (flat (List.replicate a (vInt 0))).toArray, .bx b3 50 (inC ⟨4, 0, 0, 0, 0, (0, 0, ⟨#[]⟩), ⟨#[]⟩, []⟩ (some ⟨b2, 0, none⟩) a a)] V := hS
  have hI : ∀ {V : World}, St w [.bx b 50 (flat ((List.range i).map jmpV)).toArray, .bx b2 3 (flat (List.replicate a (vInt 0))).toArray, .bx b3 50 (inC ⟨4, 0, 0, 0, 0, (0, 0, ⟨#[]⟩), ⟨#[]⟩, []⟩ (some ⟨b2, 0, none⟩) a a)] V → InsL V (some ⟨b, 0, none⟩) (jmps i) := fun hS => by
    refine ⟨_, bx_sl hS 0 rfl hcells, by simp [jmps], ?_⟩
    intro j x hx
    have hj : j < i := by rw [← hll]; exact (List.getElem?_eq_some_iff.1 hx).1
    have hx' : x = jmp j := by simpa [jmps, hj] using hx.symm
    subst hx'
    exact ⟨jmpV j, by simp [hj], none, 0, rfl, Sl.nil _ _⟩
  have hc1 := Check19 (jmps i) V (some ⟨b, 0, none⟩) i (hI hS) (by intro x hx; obtain ⟨j, _, rfl⟩ := List.mem_map.1 hx; simp [jmp])
  rw [hll] at hc1
  refine kCall_i (Tryd.call19 _ _) (hc1 _ fun W2 hB => kCall_i (Tryd.call18 _ _) (num18 _ _ _ ?_))
  have hS := hS.bel hB
  refine kEq_int (kBin_leq (kEq_bool Tryd.underlying4 ?_))
  rw [chk_jmps, beq_self_eq_true]
  refine kIf_t (xLdB50 hS 2 rfl rfl ?_)
  refine kBS (xE45 W2) hS [.agg (inC ⟨4, 0, 0, 0, 0, (0, 0, ⟨#[]⟩), ⟨#[]⟩, []⟩ (some ⟨b2, 0, none⟩) a a)] rfl rfl (by omega) (by omega) (by simp [Value.cells, inC]) fun a3 cp W hS hsl => ?_
  have hI2 : InsL W a3 [pickI a] := by
    refine ⟨_, hsl, rfl, ?_⟩
    intro j x hx
    match j, hx with
    | 0, hx =>
      cases hx
      refine ⟨_, rfl, some ⟨b2, 0, none⟩, a, ?_, ?_⟩
      · simp [inV, inC, pickI]
      · have e : (pickI a).ar.map vInt = List.replicate a (vInt 0) := by simp [pickI]
        rw [e]
        exact bx_sl hS 1 rfl (by intro v hv; rw [(List.mem_replicate.1 hv).2]; rfl)
  refine kCall_i (Tryd.call19 _ _) (Check19 [pickI a] W a3 cp hI2 (by intro x hx; rw [List.mem_singleton.1 hx]; simp [pickI]; omega) _ fun W3 hB => kCall_i (Tryd.call18 _ _) (num18 _ _ _ ?_))
  have hS := hS.bel hB
  refine kEq_int (kBin_leq (kEq_bool Tryd.underlying4 ?_))
  rw [chk_pick a (by omega), beq_self_eq_true]
  exact kIf_t (fin hS.below)
end Go.L
namespace Go.L
open Go Go.RowKit Go.Proofs Go.ChangeShapes Go.WideShapes Go.ChangeAt
set_option linter.unusedSimpArgs false
set_option linter.unusedVariables false

theorem laidOutD : laidOutB Tryd.prog = true := by kernel_rfl
theorem cells41 : Tryd.prog.cellsOf 41 = 3 := by kernel_rfl
theorem cells5 : Tryd.prog.cellsOf 5 = 1 := by kernel_rfl
section
variable {H : Type} {enc : TypeId × Value → H} {W : World}
theorem el41 (n : Nat) (c1 : List Value) (y : DataW H × List MemPlace) (h : DataW.trod enc Tryd.prog W 0 (fun _ => true) true n 41 c1 = some y) : ∃ r : AV, c1 = (vVal r).cells.toList ∧ Rng r := by
  obtain ⟨xs, m, _, _, hlen, hx, hf⟩ := DataW.trod_struct Tryd.underlying41 h
  rw [cells41] at hlen
  obtain ⟨v0, v1, v2, rfl⟩ : ∃ v0 v1 v2, c1 = [v0, v1, v2] := by
    cases c1 with
    | nil => cases hlen
    | cons v0 l =>
      cases l with
      | nil => simp at hlen
      | cons v1 l =>
        cases l with
        | nil => simp at hlen
        | cons v2 l =>
          cases l with
          | nil => exact ⟨_, _, _, rfl⟩
          | cons v3 l => simp at hlen
  · skip
    have h0 : DataW.trod enc Tryd.prog W 0 (fun _ => true) true m 39 (([v0, v1, v2].drop 0).take (Tryd.prog.cellsOf 39)) = xs[0]? := hf 0 _ rfl
    have h1 : DataW.trod enc Tryd.prog W 0 (fun _ => true) true m 2 (([v0, v1, v2].drop 1).take (Tryd.prog.cellsOf 2)) = xs[1]? := hf 1 _ rfl
    have h2 : DataW.trod enc Tryd.prog W 0 (fun _ => true) true m 9 (([v0, v1, v2].drop 2).take (Tryd.prog.cellsOf 9)) = xs[2]? := hf 2 _ rfl
    have c39 : Tryd.prog.cellsOf 39 = 1 := by kernel_rfl
    have c2 : Tryd.prog.cellsOf 2 = 1 := by kernel_rfl
    have c9 : Tryd.prog.cellsOf 9 = 1 := by kernel_rfl
    simp only [c39, c2, c9, List.drop_zero, List.take_succ_cons, List.take_zero, List.drop_succ_cons] at h0 h1 h2
    have hx3 : xs.length = 3 := hx
    obtain ⟨x0, hx0⟩ : ∃ x, xs[0]? = some x := ⟨xs[0], by simp [hx3]⟩
    obtain ⟨x1, hx1⟩ : ∃ x, xs[1]? = some x := ⟨xs[1], by simp [hx3]⟩
    obtain ⟨x2, hx2⟩ : ∃ x, xs[2]? = some x := ⟨xs[2], by simp [hx3]⟩
    rw [hx0] at h0
    rw [hx1] at h1
    rw [hx2] at h2
    obtain ⟨n0, e0, _, w0⟩ := DataW.trod_int Tryd.underlying39 h0
    obtain ⟨n1, e1, _, w1⟩ := DataW.trod_int Tryd.underlying2 h1
    obtain ⟨s, e2, _, _⟩ := DataW.trod_string Tryd.underlying9 h2
    simp only [List.cons.injEq, and_true] at e0 e1 e2
    subst e0; subst e1; subst e2
    refine ⟨(n0, n1, s), rfl, ?_⟩
    simpa [Lit.wf, IntKind.min, IntKind.max, IntKind.signed, IntKind.bits, Rng] using w1
theorem el_int {e : TypeId} (he : Tryd.prog.underlying e = some (.int .i64)) (n : Nat) (c1 : List Value) (y : DataW H × List MemPlace) (h : DataW.trod enc Tryd.prog W 0 (fun _ => true) true n e c1 = some y) : ∃ r : Int, c1 = (vInt r).cells.toList ∧ (-9223372036854775808 ≤ r ∧ r ≤ 9223372036854775807) := by
  obtain ⟨n0, rfl, _, w0⟩ := DataW.trod_int he h
  exact ⟨n0, rfl, by simpa [Lit.wf, IntKind.min, IntKind.max, IntKind.signed, IntKind.bits] using w0⟩
theorem el_byte (n : Nat) (c1 : List Value) (y : DataW H × List MemPlace) (h : DataW.trod enc Tryd.prog W 0 (fun _ => true) true n 5 c1 = some y) : ∃ r : Nat, c1 = (vB r).cells.toList ∧ r < 256 := by
  obtain ⟨n0, rfl, _, w0⟩ := DataW.trod_int Tryd.underlying5 h
  have : 0 ≤ n0 ∧ n0 ≤ 255 := by simpa [Lit.wf, IntKind.min, IntKind.max, IntKind.signed, IntKind.bits] using w0
  exact ⟨n0.toNat, by simp [vB, Value.cells, Int.toNat_of_nonneg this.1], by omega⟩
end
/-- A contract that is handed what the listed variables hold, and the shape of the world. -/
theorem returnsInHanded_both {H : Type} {enc : TypeId × Value → H} {a : Assume} {C : Checked} {os : Os} {f : FuncId} {fn : Func} {s : ChangeSpec} {conds : List PathCond} {apart fresh handsOn again : Bool} {X : World → Array Value → Prop}
    (hX : ∀ (w w' : World) (args : Array Value), w.heap = w'.heap → X w args → X w' args)
    (own : ownKnob C.prog.godebug = none) (started : os.Started) (noInit : C.prog.inits.idxOf? f = none) (hfn : C.prog.funcs[f]? = some fn)
    (witness : ∃ (w : World) (tape : Tape) (i : Input), w.os = os ∧ (w.forCall tape i).Shaped C.prog ∧ i.vars = [] ∧ Input.okWide C.prog (w.forCall tape i) .any w.heap.size f i ∧
      ((s.pre enc C.prog fn conds apart (w.forCall tape i).memory i.args ∧ X (w.forCall tape i).memory i.args) ∧ sizedMet enc C.prog fn (OpenSpec.ofChange s) apart (w.forCall tape i).memory i.args) ∧ a.holds C.prog (lone (Frame.enter C.prog f i.args .normal) [] (w.forCall tape i)))
    (contract : ∀ (W : World) (base : Nat) (args : Array Value) (ds gs : List (DataW H)) (before : List MemPlace),
      (∀ (j : Nat) t v, fn.params[j]? = some t → args[j]? = some v → Value.okWide C.prog W .any base t v) →
      DataW.Whole enc C.prog fn.params.toList s.vars apart W args.toList ds gs before →
      W.ShapedOpen C.prog → X W args →
      Calls C.prog f args W fun e W' => ∃ v, e = .returned v ∧ s.post enc C.prog fn apart fresh handsOn again W args v W') :
    ReturnsInHanded a C os f .any (fun w args => (s.pre enc C.prog fn conds apart w args ∧ X w args) ∧ sizedMet enc C.prog fn (OpenSpec.ofChange s) apart w args) (s.post enc C.prog fn apart fresh handsOn again) := by
  refine returnsInHanded_of_calls own started noInit witness ?_
  intro w tape i _ hsh _ hok hpre hholds
  obtain ⟨_, _, _, fn', hfn', _, _, _, _, hval⟩ := hok
  have e : fn' = fn := Option.some.inj (hfn'.symm.trans hfn)
  subst e
  obtain ⟨⟨⟨ds, gs, before, hw, hc⟩, hx⟩, hz⟩ := hpre
  have hw' := DataW.Whole.of_heap (w' := w.forCall tape i) (by rfl) hw
  refine (contract (w.forCall tape i) w.heap.size i.args ds gs before hval hw' hsh (hX _ _ _ (by rfl) hx)).mono fun e W' ⟨v, he, hp⟩ => ?_
  subst he
  exact ChangeSpec.post_blind hp
/-- What the shape of the world gives of the variable that strings' own functions look at. -/
theorem glob_of_shaped {W : World} (h : W.ShapedOpen Tryd.prog) : Glob W := by
  refine ⟨cell_of_shapedOpen_int (g := 1) (t := 3) (zero := #[.int .i64 0]) h (of_decide_eq_true (by kernel_rfl)) (by kernel_rfl) rfl (by kernel_rfl) (by kernel_rfl) Tryd.underlying3, ?_⟩
  obtain ⟨cs, hh, _⟩ := h.1 1 _ 3 (of_decide_eq_true (by kernel_rfl)) (by kernel_rfl : _ = some (#[.int .i64 0], 3))
  exact (Array.getElem?_eq_some_iff.1 hh).1
end Go.L
