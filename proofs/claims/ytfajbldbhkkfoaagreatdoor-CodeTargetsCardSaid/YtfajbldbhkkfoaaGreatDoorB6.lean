/- Contracts of single functions: no condition but those that each states. -/
import Derived.Test.YtfajbldbhkkfoaaGreatDoorB5
import Derived.Lib.Replace
import Derived.Lib.SplitLaws
import Derived.Lib.ConvBytes
import Derived.Shelf.Vars
import Derived.LaidMore
import Derived.Lay
import Derived.Handed
import Derived.Test.YtfajbldbhkkfoaaGreatDoorTie
import Derived.Test.YtfajbldbhkkfoaaGreatDoorCards
set_option linter.unusedVariables false
set_option linter.unusedSimpArgs false
namespace Go.L
open Go Go.RowKit Go.Proofs
set_option linter.unusedSimpArgs false
set_option linter.unusedVariables false

theorem kAdd_strG {c : Cx} {w : World} {t : TypeId} {a b : ByteArray} {k : Value → World → Prop} (hn : a.size + b.size ≤ 9223372036854775807) (h : k (.string (a ++ b)) w) : kBin c w .add t (.string a) (.string b) k := ⟨kVal_pure (fun _ => by
  rw [binOp_string_add]; unfold Op.stringOp
  have : ¬ (((a.size + b.size : Nat) : Int) > IntKind.i64.max) := by
    rw [show IntKind.i64.max = 9223372036854775807 from rfl]; omega
  simp at this
  simp [this]) h⟩
def nameB (k : Int) : ByteArray := if 1 ≤ k ∧ k ≤ 21 then kNameB k.toNat else ⟨#[]⟩
theorem nameB_size (k : Int) : (nameB k).size ≤ 10 := by
  unfold nameB
  split
  · have : ∀ j, j < 22 → (kNameB j).size ≤ 10 := by decide
    exact this _ (by omega)
  · decide
theorem Name18 (k : Int) (w : World) (R : Ending → World → Prop) (h : ∀ W, Below w.heap.size w W → R (.returned (.string (nameB k))) W) : Calls Tryz.prog 18 #[.int .i64 k] w R := by
  refine c18 _ _ _ ?_
  unfold vc18
  refine kJn_i ?_
  have out : ¬ (1 ≤ k ∧ k ≤ 21) → R (.returned (.string ⟨#[]⟩)) w := fun q => by
    have := h w (Below.refl _ _)
    rwa [show nameB k = ⟨#[]⟩ from if_neg q] at this
  refine kBin_lss (kIf_d (fun q => kIf_t (out (by omega))) (fun q1 => kBin_gtr (kIf_d (fun q => out (by omega)) (fun q2 => kD_i ?_))))
  intro ds
  obtain ⟨j, rfl⟩ : ∃ j : Nat, k = ((j + 1 : Nat) : Int) := ⟨(k - 1).toNat, by omega⟩
  have hj : j < 21 := by omega
  refine kBS (E119 w) (St.start w) ((List.range 21).map fun j => Value.string (kNameB (j + 1))) rfl rfl (by omega) (by omega) (by simp [Value.cells]) fun a cp W hS hsl => ?_
  refine kBin_sub ?_
  rw [wrap_id (by omega) (by omega), show ((j + 1 : Nat) : Int) - 1 = (j : Int) by omega]
  obtain ⟨pb, po, rfl, hpb, hpr⟩ := hsl.elem (i := j) (v := .string (kNameB (j + 1))) (by simp [hj])
  refine xIa74 (by omega) (kLdS rfl (hpr 0 (.string (kNameB (j + 1))) rfl) ?_)
  have := h W hS.below
  rwa [show nameB ((j + 1 : Nat) : Int) = kNameB (j + 1) by unfold nameB; rw [if_pos (by omega), Int.toNat_natCast]] at this
def valI (x : IN) (i : Nat) : Int := if i = 0 then x.a else if i = 1 then x.b else x.c
def partsT (s : ByteArray) (x : IN) : Nat → List ByteArray
  | 0 => []
  | i + 1 => partsT s x i ++ (if fb s i = 32 then [] else [itoaB (valI x i)])
def w1R (x : IN) : List ByteArray := if x.o = 0 then [] else [(infoO x.o).1]
/-- The words of a line behind its kind's name. -/
def lineW (x : IN) : List ByteArray := partsT (formB x.k) x 3 ++ w1R x ++ w2B litZ x ++ w3B x ++ itoas x.ar
theorem acc_snoc (A y : ByteArray) (r : List ByteArray) : (A ++ catB spB r) ++ (⟨#[32]⟩ : ByteArray) ++ y = A ++ catB spB (r ++ [y]) := by
  rw [catB_snoc, show spB = ⟨#[32]⟩ from rfl, ByteArray.append_assoc, ByteArray.append_assoc, ByteArray.append_assoc]
theorem info_size (o : Int) : (infoO o).1.size ≤ 100 := by
  unfold infoO
  split
  · have : ∀ j, j < 21 → (infoT.getD j info0).1.size ≤ 100 := by decide
    exact this _ (by omega)
  · decide
theorem acc_size (A y : ByteArray) (r : List ByteArray) {n m : Nat} (h : (A ++ catB spB r).size ≤ n) (hy : y.size ≤ m) : (A ++ catB spB (r ++ [y])).size ≤ n + 1 + m := by
  rw [← acc_snoc, ByteArray.size_append, ByteArray.size_append]
  have : (⟨#[32]⟩ : ByteArray).size = 1 := rfl
  omega
theorem fd82 (r : IV) (w : World) : (Instr.field 82 (iVal r) 0).run Tryz.prog w = .ok (.string r.1) w := by
  simp [Instr.field, iVal, run_underlying Tryz.underlying82, part, asAgg, Tryz.isAgg9]
theorem kFd82_0 {X : Chain → World → Prop} {q : Bool} {w : World} {k : Value → World → Prop} {r : IV} (h : k (.string r.1) w) : kFd ⟨Tryz.prog, X, q⟩ w 82 (iVal r) 0 k := ⟨kVal_pure (c := ⟨Tryz.prog, X, q⟩) (fun w' => fd82 r w') h⟩
theorem line35 (x : IN) (p : Option Addr) (pc : Nat) (w : World) (hT : Tab w) (hsl : Sl w p 1 (x.ar.map vInt)) (hx : Small litZ x) (hv : I64 x.v.2.1) (hc : x.k = 2 → checkE x.v = 0) (hk : 1 ≤ x.k ∧ x.k ≤ 21) (R : Ending → World → Prop)
    (h : ∀ W, Below w.heap.size w W → (nameB x.k ++ catB spB (lineW x)).size ≤ 900000 → R (.returned (.string (nameB x.k ++ catB spB (lineW x)))) W) : Calls Tryz.prog 35 #[inV x p pc] w R := by
  refine c35 _ _ _ _ _ _ _ _ _ _ _ _ _ _ ?_
  unfold vc35
  refine kBox_st (St.start w) fun b W hS => xFa62_0 (kLd hS 0 rfl rfl rfl (kCall_i (Tryz.call38 _ _) (form38 x.k W _ fun W hB => ?_)))
  have hS := hS.bel hB
  refine xFa62_0 (kLd hS 0 rfl rfl rfl (kCall_i (Tryz.call18 _ _) (Name18 x.k W _ fun W hB => ?_)))
  have hS := hS.bel hB
  refine xFa62_1 (kLd hS 0 rfl rfl rfl (xFa62_2 (kLd hS 0 rfl rfl rfl (xFa62_3 (kLd hS 0 rfl rfl rfl ?_)))))
  refine kBS (xE60 W) hS [vInt x.a, vInt x.b, vInt x.c] rfl rfl (by omega) (by omega) (by simp [vInt, Value.cells]) fun a cp W hS _ => ?_
  have hS : St w [.bx b 62 (inC x p x.ar.length pc), .row (.slice a 3 cp) 3 1 3 (flat [vInt x.a, vInt x.b, vInt x.c])] W := hS
  obtain ⟨L, hL⟩ : ∃ L : List Own, L = [Own.bx b 62 (inC x p x.ar.length pc), .row (.slice a 3 cp) 3 1 3 (flat [vInt x.a, vInt x.b, vInt x.c])] := ⟨_, rfl⟩
  have hS : St w L W := by rw [hL]; exact hS
  have i0 : L[0]? = some (.bx b 62 (inC x p x.ar.length pc)) := by rw [hL]; rfl
  have i1 : L[1]? = some (.row (.slice a 3 cp) 3 1 3 (flat [vInt x.a, vInt x.b, vInt x.c])) := by rw [hL]; rfl
  clear hL
  have hn0 := nameB_size x.k
  have hsz := formB_size x.k
  have hne : formB x.k ≠ ⟨#[]⟩ := by
    have : ∀ j, j < 21 → formT.getD j ⟨#[]⟩ ≠ ⟨#[]⟩ := by decide
    unfold formB; rw [if_pos hk]; exact this _ (by omega)
  have hs3 : 3 ≤ (formB x.k).size := hsz.resolve_left hne
  unfold lineW at h
  generalize nameB x.k = A at *
  generalize formB x.k = s at *
  have h64 : ∀ i, I64 (valI x i) := fun i => by unfold valI; split; exact hx.a; split; exact hx.b; exact hx.c
  refine ⟨⟨fun cs V => ∃ i : Nat, cs = [.string (A ++ catB spB (partsT s x i)), .int .i64 i] ∧ i ≤ 3 ∧ (A ++ catB spB (partsT s x i)).size ≤ 100 + 50 * i ∧ St w L V, fun cs _ => 3 - (match cs with | [_, .int _ i] => i.toNat | _ => 0), ⟨0, ?_, by omega, ?_, hS⟩, ?_⟩⟩
  · rw [show catB spB (partsT s x 0) = ⟨#[]⟩ from rfl, app_nil]; rfl
  · rw [show catB spB (partsT s x 0) = ⟨#[]⟩ from rfl, app_nil]; omega
  rintro cs ds V ⟨i, rfl, hi, hsi, hS⟩
  dsimp only [List.getD_cons_zero, List.getD_cons_succ]
  refine kBin_lss (kIf_d (fun e => ?_) (fun e => ?_))
  · have hil : i < 3 := by omega
    refine kIxF (s := s) (i := i) Tryz.underlying9 (by omega) (kNe_int (kIf_ne (fun q => ?_) (fun q => ?_)))
    · have hsx := hS.sl 1 (vs := [vInt x.a, vInt x.b, vInt x.c]) i1 (by simp [vInt, Value.cells]) rfl
      obtain ⟨pb, po, ha, hpb, hpr⟩ := hsx.elem (i := i) (v := vInt (valI x i)) (by
        match i, hil with
        | 0, _ => rfl
        | 1, _ => rfl
        | 2, _ => rfl)
      refine kAdd_strG (by have : (⟨#[32]⟩ : ByteArray).size = 1 := rfl; omega) ?_
      rw [ha]
      refine xIa60 (by omega) (kLdS rfl (hpr 0 (.int .i64 (valI x i)) rfl) (kCall_i (Tryz.call28 _ _) (Itoa53 (valI x i) (h64 i) V (hT.below hS.below) _ fun W hB => ?_)))
      have hS := hS.bel hB
      have hy := itoaB_size (valI x i) (h64 i)
      refine kAdd_strG (by rw [ByteArray.size_append]; have : (⟨#[32]⟩ : ByteArray).size = 1 := rfl; omega) ?_
      rw [acc_snoc]
      refine kBin_add (kD_i ⟨⟨i + 1, ?_, hil, ?_, hS⟩, ?_⟩)
      · rw [wrap_id (by omega) (by omega), partsT, if_neg q]; rfl
      · rw [partsT, if_neg q]; have := acc_size A _ _ hsi hy; omega
      · rw [wrap_id (by omega) (by omega)]; show 3 - ((i : Int) + 1).toNat < 3 - (i : Int).toNat; omega
    · refine kBin_add (kD_i ⟨⟨i + 1, ?_, hil, ?_, hS⟩, ?_⟩)
      · rw [wrap_id (by omega) (by omega), partsT, if_pos q, List.append_nil]; rfl
      · rw [partsT, if_pos q, List.append_nil]; omega
      · rw [wrap_id (by omega) (by omega)]; show 3 - ((i : Int) + 1).toNat < 3 - (i : Int).toNat; omega
  have hie : i = 3 := by omega
  subst hie
  generalize partsT s x 3 = P at *
  refine kJn_inv (fun cs V => cs = [.string (A ++ catB spB (P ++ w1R x))] ∧ (A ++ catB spB (P ++ w1R x)).size ≤ 1000 ∧ St w L V) ?_ ?_
  rotate_left
  · intro J hJ
    refine xFa62_4 (kLd hS 0 i0 rfl rfl (kNe_int (kIf_ne (fun q => ?_) (fun q => kD_i (hJ _ _ ⟨?_, ?_, hS⟩)))))
    · have hy := info_size x.o
      refine kAdd_strG (by have : (⟨#[32]⟩ : ByteArray).size = 1 := rfl; omega) (xFa62_4 (kLd hS 0 i0 rfl rfl (kCall_i (Tryz.call56 _ _) (Info31 x.o _ _ fun W hB => ?_))))
      have hS := hS.bel hB
      refine kFd82_0 (kAdd_strG (by rw [ByteArray.size_append]; have : (⟨#[32]⟩ : ByteArray).size = 1 := rfl; omega) ?_)
      rw [acc_snoc]
      refine kD_i (hJ _ _ ⟨?_, ?_, hS⟩)
      · unfold w1R; rw [if_neg q]
      · unfold w1R; rw [if_neg q]; have := acc_size A _ _ hsi hy; omega
    · unfold w1R; rw [if_pos q, List.append_nil]; try rfl
    · unfold w1R; rw [if_pos q, List.append_nil]; omega
  rintro cs V2 ⟨rfl, hsi, hS⟩ ds2
  try dsimp only [List.getD_cons_zero]
  generalize P ++ w1R x = P at *
  refine kJn_inv (fun cs V => cs = [.string (A ++ catB spB (P ++ w2B litZ x))] ∧ (A ++ catB spB (P ++ w2B litZ x)).size ≤ 20000 ∧ St w L V) ?_ ?_
  rotate_left
  · intro J hJ
    refine xFa62_0 (kLd hS 0 i0 rfl rfl (kEq_int (kIf_eq (fun q => ?_) (fun q => kD_i (hJ _ _ ⟨?_, ?_, hS⟩)))))
    · have hy := hx.lit
      refine xFa62_5 (xLdE59 (bxV hS 0 i0) rfl rfl (kCall_i (Tryz.call82 _ _) (Literal82 x.v hv _ _ (fun _ W hB => ?_) (fun hne => absurd (hc q) hne))))
      have hS := hS.bel hB
      refine kExt_0 (kExt_1 (kAdd_strG (by have : (⟨#[32]⟩ : ByteArray).size = 1 := rfl; omega) (kAdd_strG (by rw [ByteArray.size_append]; have : (⟨#[32]⟩ : ByteArray).size = 1 := rfl; omega) ?_)))
      rw [acc_snoc]
      refine kD_i (hJ _ _ ⟨?_, ?_, hS⟩)
      · unfold w2B; rw [if_pos q]
      · unfold w2B; rw [if_pos q]; have := acc_size A _ _ hsi hy; omega
    · unfold w2B; rw [if_neg q, List.append_nil]; try rfl
    · unfold w2B; rw [if_neg q, List.append_nil]; omega
  rintro cs V3 ⟨rfl, hsi, hS⟩ ds3
  try dsimp only [List.getD_cons_zero]
  generalize P ++ w2B litZ x = P at *
  refine kJn_inv (fun cs V => cs = [.string (A ++ catB spB (P ++ w3B x))] ∧ (A ++ catB spB (P ++ w3B x)).size ≤ 40000 ∧ St w L V) ?_ ?_
  rotate_left
  · intro J hJ
    refine xFa62_6 (kLd hS 0 i0 rfl rfl (kNe_str (kIf_b (fun q => ?_) (fun q => kD_i (hJ _ _ ⟨?_, ?_, hS⟩)))))
    · have hy := hx.nm
      have q' : ¬ x.nm = ⟨#[]⟩ := by simpa using q
      refine kAdd_strG (by have : (⟨#[32]⟩ : ByteArray).size = 1 := rfl; omega) (xFa62_6 (kLd hS 0 i0 rfl rfl (kAdd_strG (by rw [ByteArray.size_append]; have : (⟨#[32]⟩ : ByteArray).size = 1 := rfl; omega) ?_)))
      rw [acc_snoc]
      refine kD_i (hJ _ _ ⟨?_, ?_, hS⟩)
      · unfold w3B; rw [if_neg q']
      · unfold w3B; rw [if_neg q']; have := acc_size A _ _ hsi hy; omega
    · unfold w3B; rw [if_pos (by simpa using q), List.append_nil]; try rfl
    · unfold w3B; rw [if_pos (by simpa using q), List.append_nil]; omega
  rintro cs V4 ⟨rfl, hsi, hS⟩ ds4
  try dsimp only [List.getD_cons_zero]
  generalize P ++ w3B x = P at *
  have hal := hx.arl
  refine ⟨⟨fun cs V => ∃ i : Nat, cs = [.string (A ++ catB spB (P ++ itoas (x.ar.take i))), .int .i64 i] ∧ i ≤ x.ar.length ∧ (A ++ catB spB (P ++ itoas (x.ar.take i))).size ≤ 40000 + 50 * i ∧ St w L V, fun cs _ => x.ar.length - (match cs with | [_, .int _ i] => i.toNat | _ => 0), ⟨0, ?_, by omega, ?_, hS⟩, ?_⟩⟩
  · rw [show itoas (x.ar.take 0) = [] from rfl, List.append_nil]; rfl
  · rw [show itoas (x.ar.take 0) = [] from rfl, List.append_nil]; omega
  rintro cs ds5 V5 ⟨i, rfl, hi, hsi, hS⟩
  dsimp only [List.getD_cons_zero, List.getD_cons_succ]
  refine xFa62_7 (kLd hS 0 i0 rfl rfl (xLen60 (kBin_lss (kIf_d (fun e => ?_) (fun e => ?_)))))
  · have hil : i < x.ar.length := by omega
    have h64 : I64 x.ar[i] := hx.ar _ (List.getElem_mem hil)
    obtain ⟨pb, po, ha, hpb, hpr⟩ := (hsl.below hS.below).elem (i := i) (v := vInt x.ar[i]) (by simp [hil])
    refine kAdd_strG (by have : (⟨#[32]⟩ : ByteArray).size = 1 := rfl; omega) (xFa62_7 (kLd hS 0 i0 rfl rfl ?_))
    rw [ha]
    refine xIa60 hil (kLdS rfl (hpr 0 (.int .i64 x.ar[i]) rfl) (kCall_i (Tryz.call28 _ _) (Itoa53 x.ar[i] h64 V5 (hT.below hS.below) _ fun W hB => ?_)))
    have hS := hS.bel hB
    have hy := itoaB_size x.ar[i] h64
    refine kAdd_strG (by rw [ByteArray.size_append]; have : (⟨#[32]⟩ : ByteArray).size = 1 := rfl; omega) ?_
    rw [acc_snoc]
    have e2 : (P ++ itoas (x.ar.take i)) ++ [itoaB x.ar[i]] = P ++ itoas (x.ar.take (i + 1)) := by
      unfold itoas; rw [List.take_succ_eq_append_getElem hil, List.map_append, List.append_assoc]; rfl
    have hs2 := acc_size A _ _ hsi hy
    rw [e2] at hs2 ⊢
    refine kBin_add (kD_i ⟨⟨i + 1, ?_, hil, by omega, hS⟩, ?_⟩)
    · rw [wrap_id (by omega) (by omega)]; rfl
    · rw [wrap_id (by omega) (by omega)]; show x.ar.length - ((i : Int) + 1).toNat < x.ar.length - (i : Int).toNat; omega
  · have hie : i = x.ar.length := by omega
    rw [hie, List.take_length] at hsi ⊢
    exact h V5 hS.below (by omega)
end Go.L
namespace Go.L
open Go Go.RowKit Go.Proofs
set_option linter.unusedSimpArgs false
set_option linter.unusedVariables false

theorem partsT_eq (x : IN) (hk : 1 ≤ x.k ∧ x.k ≤ 21) : partsT (formB x.k) x 3 = (kParts x.k.toNat).map (fun p => itoaB (getF p.1 x)) := by
  obtain ⟨k, a, b, c, o, v, nm, ar⟩ := x
  dsimp only at hk
  have : k = 1 ∨ k = 2 ∨ k = 3 ∨ k = 4 ∨ k = 5 ∨ k = 6 ∨ k = 7 ∨ k = 8 ∨ k = 9 ∨ k = 10 ∨ k = 11 ∨ k = 12 ∨ k = 13 ∨ k = 14 ∨ k = 15 ∨ k = 16 ∨ k = 17 ∨ k = 18 ∨ k = 19 ∨ k = 20 ∨ k = 21 := by omega
  rcases this with rfl | rfl | rfl | rfl | rfl | rfl | rfl | rfl | rfl | rfl | rfl | rfl | rfl | rfl | rfl | rfl | rfl | rfl | rfl | rfl | rfl
  · have h0 : fb (formB 1) 0 = 32 := by decide
    have h1 : fb (formB 1) 1 = 32 := by decide
    have h2 : fb (formB 1) 2 = 32 := by decide
    simp only [partsT, h0, h1, h2]
    rfl
  · have h0 : fb (formB 2) 0 = 114 := by decide
    have h1 : fb (formB 2) 1 = 32 := by decide
    have h2 : fb (formB 2) 2 = 32 := by decide
    simp only [partsT, h0, h1, h2]
    rfl
  · have h0 : fb (formB 3) 0 = 114 := by decide
    have h1 : fb (formB 3) 1 = 32 := by decide
    have h2 : fb (formB 3) 2 = 32 := by decide
    simp only [partsT, h0, h1, h2]
    rfl
  · have h0 : fb (formB 4) 0 = 114 := by decide
    have h1 : fb (formB 4) 1 = 32 := by decide
    have h2 : fb (formB 4) 2 = 32 := by decide
    simp only [partsT, h0, h1, h2]
    rfl
  · have h0 : fb (formB 5) 0 = 108 := by decide
    have h1 : fb (formB 5) 1 = 32 := by decide
    have h2 : fb (formB 5) 2 = 32 := by decide
    simp only [partsT, h0, h1, h2]
    rfl
  · have h0 : fb (formB 6) 0 = 108 := by decide
    have h1 : fb (formB 6) 1 = 106 := by decide
    have h2 : fb (formB 6) 2 = 32 := by decide
    simp only [partsT, h0, h1, h2]
    rfl
  · have h0 : fb (formB 7) 0 = 108 := by decide
    have h1 : fb (formB 7) 1 = 106 := by decide
    have h2 : fb (formB 7) 2 = 32 := by decide
    simp only [partsT, h0, h1, h2]
    rfl
  · have h0 : fb (formB 8) 0 = 114 := by decide
    have h1 : fb (formB 8) 1 = 108 := by decide
    have h2 : fb (formB 8) 2 = 110 := by decide
    simp only [partsT, h0, h1, h2]
    rfl
  · have h0 : fb (formB 9) 0 = 114 := by decide
    have h1 : fb (formB 9) 1 = 106 := by decide
    have h2 : fb (formB 9) 2 = 32 := by decide
    simp only [partsT, h0, h1, h2]
    rfl
  · have h0 : fb (formB 10) 0 = 32 := by decide
    have h1 : fb (formB 10) 1 = 106 := by decide
    have h2 : fb (formB 10) 2 = 32 := by decide
    simp only [partsT, h0, h1, h2]
    rfl
  · have h0 : fb (formB 11) 0 = 108 := by decide
    have h1 : fb (formB 11) 1 = 32 := by decide
    have h2 : fb (formB 11) 2 = 32 := by decide
    simp only [partsT, h0, h1, h2]
    rfl
  · have h0 : fb (formB 12) 0 = 108 := by decide
    have h1 : fb (formB 12) 1 = 108 := by decide
    have h2 : fb (formB 12) 2 = 32 := by decide
    simp only [partsT, h0, h1, h2]
    rfl
  · have h0 : fb (formB 13) 0 = 115 := by decide
    have h1 : fb (formB 13) 1 = 32 := by decide
    have h2 : fb (formB 13) 2 = 32 := by decide
    simp only [partsT, h0, h1, h2]
    rfl
  · have h0 : fb (formB 14) 0 = 115 := by decide
    have h1 : fb (formB 14) 1 = 114 := by decide
    have h2 : fb (formB 14) 2 = 32 := by decide
    simp only [partsT, h0, h1, h2]
    rfl
  · have h0 : fb (formB 15) 0 = 114 := by decide
    have h1 : fb (formB 15) 1 = 115 := by decide
    have h2 : fb (formB 15) 2 = 32 := by decide
    simp only [partsT, h0, h1, h2]
    rfl
  · have h0 : fb (formB 16) 0 = 108 := by decide
    have h1 : fb (formB 16) 1 = 32 := by decide
    have h2 : fb (formB 16) 2 = 110 := by decide
    simp only [partsT, h0, h1, h2]
    rfl
  · have h0 : fb (formB 17) 0 = 108 := by decide
    have h1 : fb (formB 17) 1 = 108 := by decide
    have h2 : fb (formB 17) 2 = 106 := by decide
    simp only [partsT, h0, h1, h2]
    rfl
  · have h0 : fb (formB 18) 0 = 108 := by decide
    have h1 : fb (formB 18) 1 = 110 := by decide
    have h2 : fb (formB 18) 2 = 32 := by decide
    simp only [partsT, h0, h1, h2]
    rfl
  · have h0 : fb (formB 19) 0 = 108 := by decide
    have h1 : fb (formB 19) 1 = 110 := by decide
    have h2 : fb (formB 19) 2 = 32 := by decide
    simp only [partsT, h0, h1, h2]
    rfl
  · have h0 : fb (formB 20) 0 = 108 := by decide
    have h1 : fb (formB 20) 1 = 99 := by decide
    have h2 : fb (formB 20) 2 = 110 := by decide
    simp only [partsT, h0, h1, h2]
    rfl
  · have h0 : fb (formB 21) 0 = 108 := by decide
    have h1 : fb (formB 21) 1 = 32 := by decide
    have h2 : fb (formB 21) 2 = 32 := by decide
    simp only [partsT, h0, h1, h2]
    rfl
theorem right_o {n : Int} {x : IN} (h : rightR n x = true) : w1R x = w1B x := by
  unfold rightR at h
  simp only [Bool.and_eq_true, Bool.not_eq_true'] at h
  obtain ⟨_, _, hno, hl⟩ := h
  generalize fb (formB x.k) 3 = wh at hno hl
  by_cases ho : x.o = 0
  · unfold w1R w1B
    rw [if_pos ho, if_neg (by omega)]
  · have hw : wh = 111 := by
      by_cases e : wh = 111
      · exact e
      · exfalso; simp [restNo, e, ho] at hno
    subst hw
    have h2 : decide (1 ≤ x.o ∧ x.o ≤ 20) = true := by
      rw [info_name]
      simp only [lastR, show ¬ ((111 : Int) = 118) by omega, if_false, if_true, Bool.and_eq_true] at hl
      exact hl.1
    unfold w1R w1B
    rw [if_neg ho, if_pos (of_decide_eq_true h2)]
/-- A line of the document is a line of the program. -/
theorem line_eq {n : Int} {x : IN} (i : Nat) (h : rightR n x = true) (hk : 1 ≤ x.k ∧ x.k ≤ 21) : joinB spB (wordsB litZ i x) = itoaB i ++ (⟨#[32]⟩ : ByteArray) ++ (nameB x.k ++ catB spB (lineW x)) := by
  have e : wordsB litZ i x = itoaB i :: kNameB x.k.toNat :: lineW x := by
    unfold wordsB w0B lineW
    rw [partsT_eq x hk, right_o h]
    simp
  rw [e, show nameB x.k = kNameB x.k.toNat from if_pos hk, show (⟨#[32]⟩ : ByteArray) = spB from rfl]
  show itoaB i ++ (spB ++ kNameB x.k.toNat ++ catB spB (lineW x)) = _
  simp only [ByteArray.append_assoc]
theorem Text12 (l : List IN) (w : World) (hT : Tab w) (lo : Option Addr) (lc : Nat) (hl : InsL w lo l) (hsm : ∀ x ∈ l, Small litZ x) (hv : ∀ x ∈ l, I64 x.v.2.1) (R : Ending → World → Prop)
    (h0 : chkC l = 0 → ∀ W, Below w.heap.size w W → R (.returned (.tuple #[.string (textN litZ l l.length), .int .i64 0])) W)
    (h1 : chkC l ≠ 0 → ∀ W, Below w.heap.size w W → R (.returned (.tuple #[.string ⟨#[]⟩, .int .i64 2])) W) : Calls Tryz.prog 12 #[.slice lo l.length lc] w R := by
  refine c12 _ _ _ _ _ ?_
  unfold vc12
  refine kCall_i (Tryz.call10 _ _) (Right10 l w lo lc hl (fun x hx => Nat.le_trans (hsm x hx).arl (by omega)) _ fun W hB => kUn_not (kIf_b (fun q => h1 (by simpa using q) W hB) (fun q => ?_)))
  have q : chkC l = 0 := by simpa using q
  obtain ⟨hlen, hright⟩ := chkC_all q
  have hS := (St.start w).bel hB
  refine ⟨⟨fun cs V => ∃ i : Nat, cs = [.string (textN litZ l i), .int .i64 i] ∧ i ≤ l.length ∧ (textN litZ l i).size ≤ 1000000 * i ∧ St w [] V, fun cs _ => l.length - (match cs with | [_, .int _ i] => i.toNat | _ => 0), ⟨0, rfl, Nat.zero_le _, Nat.le_refl _, hS⟩, ?_⟩⟩
  rintro cs ds V ⟨i, rfl, hi, hsz, hS⟩
  dsimp only [List.getD_cons_zero, List.getD_cons_succ]
  refine xLen22 (kBin_lss (kIf_d (fun e => ?_) (fun e => ?_)))
  rotate_left
  · have hie : i = l.length := by omega
    subst hie
    exact h0 q V hS.below
  have hil : i < l.length := by omega
  have htx : textN litZ l (i + 1) = textN litZ l i ++ (joinB spB (wordsB litZ i l[i]) ++ nlB) := by
    show textN litZ l i ++ (joinB spB (wordsB litZ i (l.getD i in0)) ++ nlB) = _
    rw [show l.getD i in0 = l[i] by simp [hil]]
  have hxs := hsm l[i] (List.getElem_mem hil)
  have hxr := hright l[i] (List.getElem_mem hil)
  have hxv := hv l[i] (List.getElem_mem hil)
  have hk : 1 ≤ l[i].k ∧ l[i].k ≤ 21 := by
    unfold rightC at hxr
    simp only [Bool.and_eq_true, decide_eq_true_eq] at hxr
    exact hxr.1
  have hrr : rightR l.length l[i] = true := by rw [rightEq]; exact hxr
  have hcv : l[i].k = 2 → checkE l[i].v = 0 := fun e => by
    unfold rightC at hxr
    simp only [Bool.and_eq_true, decide_eq_true_eq] at hxr
    have h2 := hxr.2.1.1
    rw [e] at h2
    simpa [restB] using h2
  obtain ⟨pb, po, p, pc, rfl, hpb, hpr, hpx⟩ := hl.elem hil
  have hpr : ∀ {V : World}, St w [] V → V.rangeAt pb (po + i * 10) (inV l[i] p pc).cells.toList := fun hS j v hj => by
    rw [World.cell?_of_block (w := w) (hS.below.block pb hpb)]; exact hpr j v hj
  rw [line_eq (n := l.length) i hrr hk] at htx
  generalize l[i] = x at *
  have hit : (itoaB (i : Int)).size ≤ 21 := itoaB_size _ (by unfold I64; omega)
  have s1 : (⟨#[32]⟩ : ByteArray).size = 1 := rfl
  have s2 : (⟨#[10]⟩ : ByteArray).size = 1 := rfl
  refine kDrawn_i (kDrawn_i (xIa22 hil (xLdE62 (hpr hS) rfl rfl (kDrew_st hS fun V hS => ?_))))
  refine kCall_i (Tryz.call28 _ _) (Itoa53 i (by unfold I64; omega) V (hT.below hS.below) _ fun W hB => ?_)
  have hS := hS.bel hB
  refine xIa22 hil (kSame_i (xLdE62 (hpr hS) rfl rfl (kSame_i (kAdd_strG (by omega) (kAdd_strG (by rw [ByteArray.size_append]; omega) (kDrew_st hS fun W hS => ?_))))))
  refine kCall_i (Tryz.call35 _ _) (line35 x p pc W (hT.below hS.below) (hpx.below hS.below) hxs hxv hcv hk _ fun W hB hls => ?_)
  have hS := hS.bel hB
  refine kAdd_strG (by omega) (kSame_i (kAdd_strG (by rw [ByteArray.size_append]; omega) (kSame_i (kAdd_strG (by rw [ByteArray.size_append, ByteArray.size_append]; omega) (kAdd_strG (by rw [ByteArray.size_append, ByteArray.size_append, ByteArray.size_append]; omega) (kDrew_st hS fun W hS => kBin_add (kD_i ⟨⟨i + 1, ?_, hil, ?_, hS⟩, ?_⟩)))))))
  · rw [wrap_id (by omega) (by omega), htx, show nlB = ⟨#[10]⟩ from rfl]
    simp only [ByteArray.append_assoc]; rfl
  · rw [htx]
    simp only [ByteArray.size_append, show nlB.size = 1 from rfl] at hls ⊢
    omega
  · rw [wrap_id (by omega) (by omega)]; show l.length - ((i : Int) + 1).toNat < l.length - (i : Int).toNat; omega
def smallI (x : IN) : Bool := decide (x.ar.length ≤ 300) && (decide (x.v.2.2.size ≤ 1100) && decide (x.nm.size ≤ 1100))
theorem few8 (most : Int) (l : List IN) (w : World) (lo : Option Addr) (lc : Nat) (hl : InsL w lo l) (hlen : l.length ≤ 9223372036854775807) (R : Ending → World → Prop)
    (h : R (.returned (.bool (decide ((l.length : Int) ≤ most) && l.all smallI))) w) : Calls Tryz.prog 8 #[.slice lo l.length lc, .int .i64 most] w R := by
  refine c8 _ _ _ _ _ _ ?_
  unfold vc8
  refine ⟨⟨fun cs V => ∃ i : Nat, cs = [.int .i64 i] ∧ i ≤ l.length ∧ V = w ∧ (l.take i).all smallI = true, fun cs _ => l.length - (match cs with | [.int _ i] => i.toNat | _ => 0), ⟨0, rfl, Nat.zero_le _, rfl, rfl⟩, ?_⟩⟩
  rintro cs ds V ⟨i, rfl, hi, rfl, hall⟩
  dsimp only [List.getD_cons_zero]
  refine kJn_i ?_
  have out : (¬ i < l.length ∨ ¬ (i : Int) ≤ most) → R (.returned (.bool (decide ((l.length : Int) ≤ most)))) V := fun q => by
    by_cases hm : (l.length : Int) ≤ most
    · have hie : i = l.length := by omega
      rw [hie, List.take_length] at hall
      rwa [hall, Bool.and_true] at h
    · rwa [decide_eq_false hm, Bool.false_and, ← decide_eq_false hm] at h
  refine xLen22 (kBin_lss (kIf_d (fun e => kBin_leq (kIf_d (fun e2 => kD_i ?_) (fun e2 => xLen22 (kBin_leq (out (.inr e2)))))) (fun e => kIf_f (xLen22 (kBin_leq (out (.inl (by omega))))))))
  intro ds2
  have hil : i < l.length := by omega
  obtain ⟨b, o, p, pc, rfl, hbs, hr, hsl⟩ := hl.elem hil
  have bad : smallI l[i] = false → R (.returned (.bool false)) V := fun q => by
    rwa [List.all_eq_false.2 ⟨l[i], List.getElem_mem hil, by rw [q]; simp⟩, Bool.and_false] at h
  have next : smallI l[i] = true → (l.take (i + 1)).all smallI = true := fun q => by
    rw [List.take_succ_eq_append_getElem hil, List.all_append, hall]; simp [q]
  generalize l[i] = x at *
  have fld : ∀ (j : Nat) (v : Value), (inV x p pc).cells.toList[j]? = some v → V.cell? ⟨b, o + i * 10 + j, none⟩ = some v := fun j v hv => hr j v hv
  refine xIa22 hil (xFa62_7 (kLdS rfl (fld 9 _ rfl) (xLen60 (kBin_gtr (kIf_d (fun q => kIf_t (bad ?_)) (fun q => ?_))))))
  · unfold smallI; rw [decide_eq_false (by omega), Bool.false_and]
  refine xIa22 hil (xFa62_5 (xFa59_2 (kLdS rfl (fld 7 _ rfl) (xLen9 (kBin_gtr (kIf_d (fun q2 => kIf_t (bad ?_)) (fun q2 => ?_)))))))
  · unfold smallI; rw [decide_eq_false (show ¬ x.v.2.2.size ≤ 1100 by omega)]; simp
  refine xIa22 hil (xFa62_6 (kLdS rfl (fld 8 _ rfl) (xLen9 (kBin_gtr (kIf_d (fun q3 => bad ?_) (fun q3 => kBin_add (kD_i ⟨⟨i + 1, ?_, hil, rfl, next ?_⟩, ?_⟩)))))))
  · unfold smallI; rw [decide_eq_false (show ¬ x.nm.size ≤ 1100 by omega)]; simp
  · rw [wrap_id (by omega) (by omega)]; rfl
  · unfold smallI; rw [decide_eq_true (by omega), decide_eq_true (by omega), decide_eq_true (by omega)]; rfl
  · rw [wrap_id (by omega) (by omega)]; show l.length - ((i : Int) + 1).toNat < l.length - (i : Int).toNat; omega
end Go.L
namespace Go.L
open Go Go.RowKit Go.Proofs
set_option linter.unusedSimpArgs false
set_option linter.unusedVariables false

def bl (s : ByteArray) : List Nat := s.data.toList.map (·.toNat)
theorem bl_length (s : ByteArray) : (bl s).length = s.size := by simp [bl]
/-- One thing more. -/
theorem kApp1_st {P : Program} {X : Chain → World → Prop} {w w0 : World} {t e : TypeId} {sz by_ : Nat} (E : Elt P t e sz by_) {L : List Own} (hS : St w0 L w) (i : Nat) {n : Nat} {x v : Value} {xs : List Value} (hi : L[i]? = some (.row x e sz n xs)) {cs : Array Bool} {ty : TypeId} {k : Value → World → Prop}
    (hv : v.cells.size = sz) (h1 : ∀ u ∈ v.cells.toList, u.oneCell' = true) (hmax : n + 1 ≤ maxLen) (hby : (n + 1) * by_ ≤ 140737488355328) (h : ∀ x' W, St w0 (L.set i (.row x' e sz (n + 1) (xs ++ v.cells.toList))) W → k x' W) :
    kBuildS ⟨P, X, false⟩ w t 1 #[(0, v)] fun y W => kBlt ⟨P, X, false⟩ W .append #[t, t] ty cs #[x, y] k := by
  refine kBuildS_st E hS [v] rfl rfl (by omega) (by omega) (by simp [hv]) fun y W hS => ?_
  have e1 : flat [v] = v.cells.toList := by simp [flat]
  rw [e1] at hS
  refine kAppRow_st E hS i L.length (at_l hi) at_r h1 hmax hby fun x' W hS => h x' W ?_
  rw [set_l _ hi] at hS
  exact hS.init
theorem replaceK_ne {c b : UInt8} (h : b ≠ c) (new : List UInt8) : ∀ (k : Nat) (l : List UInt8), Go.Lib.replaceK [c] new k (b :: l) = b :: Go.Lib.replaceK [c] new k l
  | 0, l => rfl
  | k + 1, l => by
    have hi : Go.Lib.index (b :: l) [c] = if Go.Lib.index l [c] == -1 then -1 else Go.Lib.index l [c] + 1 := by
      rw [Go.Lib.index, if_neg]
      simp [List.isPrefixOf]; exact fun e => h e.symm
    by_cases hm : Go.Lib.index l [c] = -1
    · rw [Go.Lib.replaceK, Go.Lib.replaceK, hi]; simp [hm]
    · have hge := Go.Lib.index_ge l [c]
      obtain ⟨i, hi'⟩ : ∃ i : Nat, Go.Lib.index l [c] = i := ⟨(Go.Lib.index l [c]).toNat, by omega⟩
      rw [Go.Lib.replaceK_hit [c] new k l i hi', Go.Lib.replaceK_hit [c] new k (b :: l) (i + 1) (by rw [hi]; simp [hi'])]
      simp [List.take_succ_cons, Nat.add_right_comm]
theorem replaceK_eq (c : UInt8) (new : List UInt8) (k : Nat) (l : List UInt8) : Go.Lib.replaceK [c] new (k + 1) (c :: l) = new ++ Go.Lib.replaceK [c] new k l := by
  have hi : Go.Lib.index (c :: l) [c] = ((0 : Nat) : Int) := by
    rw [Go.Lib.index, if_pos]
    · rfl
    · simp [List.isPrefixOf]
  rw [Go.Lib.replaceK_hit [c] new k (c :: l) 0 hi]
  simp
theorem replaceAll_one (c : UInt8) (new : List UInt8) (hn : new ≠ [c]) (l : List UInt8) : Go.Lib.replaceAll l [c] new = l.flatMap (fun x => if x = c then new else [x]) := by
  have key : ∀ l : List UInt8, Go.Lib.replaceK [c] new (Go.Lib.count l [c]) l = l.flatMap (fun x => if x = c then new else [x]) := by
    intro l
    induction l with
    | nil => rw [show Go.Lib.count [] [c] = 0 by rfl]; rfl
    | cons b l ih =>
      rw [List.flatMap_cons]
      by_cases h : b = c
      · subst h
        rw [Go.Lib.count_cons_eq, Nat.add_comm, replaceK_eq, ih, if_pos rfl]
      · rw [Go.Lib.count_cons_ne b c l h, replaceK_ne h, ih, if_neg h]; rfl
  unfold Go.Lib.replaceAll Go.Lib.replace
  rw [if_neg (by simp; exact fun e => hn e.symm)]
  have : Go.Lib.replaceNum l [c] (-1) = Go.Lib.count l [c] := by unfold Go.Lib.replaceNum; rw [if_pos (.inl (by omega))]
  rw [this]; exact key l
/-- A text's bytes, in a row of their own. -/
theorem kCv_bytesP {P : Program} {X : Chain → World → Prop} {w w0 : World} {L : List Own} {s : ByteArray} {k : Value → World → Prop} {src dst e : TypeId} {u : TypeDesc} (hs : P.underlying src = some u) (hd : P.underlying dst = some (.slice e)) (he : P.underlying e = some (.int .u8)) (hS : St w0 L w) (h : ∀ x W, St w0 L W → Src W 1 x ((bl s).map vB) → k x W) : kConv ⟨P, X, false⟩ w src dst (.string s) k := by
  have hb : w.grownBy (Go.Lib.bytesWorld w e s) none := ⟨rfl, rfl, rfl, by rw [Go.Lib.bytesWorld_size]; exact Nat.le_succ _, fun j hj _ => Go.Lib.bytesWorld_at_old w e s j hj⟩
  refine ⟨kVal_do (Go.Lib.run_convert_string_bytes w src dst e s hs hd he) (h _ _ (hS.grow hb) ?_)⟩
  refine .inr ⟨⟨w.heap.size, 0, none⟩, grownCap w s.size 0 e, by simp [bl_length], by intro v hv; obtain ⟨b, _, rfl⟩ := List.mem_map.1 hv; rfl, .inr ⟨w.heap.size, 0, rfl, by rw [Go.Lib.bytesWorld_size]; exact Nat.lt_succ_self _, ?_⟩⟩
  rw [flat_vB]
  intro j v hj
  have hjl : j < s.size := by
    have := (List.getElem?_eq_some_iff.1 hj).1
    simpa [bl_length] using this
  rw [Nat.zero_add, Go.Lib.bytesWorld_cell w e s j hjl, ← hj]
  have hjd : j < s.data.toList.length := by rw [Array.length_toList]; exact hjl
  simp only [bl, List.map_map, List.getElem?_map, List.getElem?_eq_getElem hjd, List.getD_eq_getElem?_getD, Option.map_some, Option.getD_some, Function.comp, vB]
theorem kCv_bytes {X : Chain → World → Prop} {w w0 : World} {L : List Own} {s : ByteArray} {k : Value → World → Prop} (hS : St w0 L w) (h : ∀ x W, St w0 L W → Src W 1 x ((bl s).map vB) → k x W) : kConv ⟨Tryz.prog, X, false⟩ w 9 44 (.string s) k :=
  kCv_bytesP Tryz.underlying9 Tryz.underlying44 Tryz.underlying5 hS h
end Go.L
namespace Go.L
open Go Go.RowKit Go.Proofs
set_option linter.unusedSimpArgs false
set_option linter.unusedVariables false

theorem kBin_shr {c : Cx} {w : World} {k : Value → World → Prop} {t : TypeId} {q yk : IntKind} {x y : Int} (h0 : 0 ≤ y) (h1 : y ≤ q.bits) (h : k (.int q (x / 2 ^ y.toNat)) w) : kBin c w .shr t (.int q x) (.int yk y) k := ⟨kVal_pure (fun _ => by rw [binOp_shr, shift_shr q yk x y h0 h1]; rfl) h⟩
theorem Src.sl {w : World} {sz : Nat} {x : Value} {vs : List Value} (h : Src w sz x vs) : ∃ a cp, x = .slice a vs.length cp ∧ Sl w a sz vs := by
  rcases h with ⟨rfl, rfl⟩ | ⟨ad, cp, rfl, hv, h⟩
  · exact ⟨none, 0, rfl, Sl.nil w sz⟩
  · refine ⟨some ad, cp, rfl, hv, ?_⟩
    rcases h with h | ⟨b, o, rfl, hb, hr⟩
    · exact .inl h
    · exact .inr ⟨b, o, rfl, hb, hr⟩
/-- A text's bytes, in a block of one's own. -/
theorem kCv_bytesPO {P : Program} {src dst e : TypeId} {u : TypeDesc} (hs : P.underlying src = some u) (hd : P.underlying dst = some (.slice e)) (he : P.underlying e = some (.int .u8)) {X : Chain → World → Prop} {w w0 : World} {L : List Own} {s : ByteArray} {k : Value → World → Prop} (hS : St w0 L w) (h : ∀ x W g o, St w0 (L ++ [.ob g o]) W → (∀ V : World, V.heap[g]? = some o → Src V 1 x ((bl s).map vB)) → k x W) : kConv ⟨P, X, false⟩ w src dst (.string s) k := by
  have hb : w.grownBy (Go.Lib.bytesWorld w e s) none := ⟨rfl, rfl, rfl, by rw [Go.Lib.bytesWorld_size]; exact Nat.le_succ _, fun j hj _ => Go.Lib.bytesWorld_at_old w e s j hj⟩
  have hlt : w.heap.size < (Go.Lib.bytesWorld w e s).heap.size := by rw [Go.Lib.bytesWorld_size]; exact Nat.lt_succ_self _
  obtain ⟨o, ho⟩ : ∃ o, (Go.Lib.bytesWorld w e s).heap[w.heap.size]? = some o := ⟨_, Array.getElem?_eq_getElem hlt⟩
  refine ⟨kVal_do (Go.Lib.run_convert_string_bytes w src dst e s hs hd he) (h _ _ w.heap.size o (hS.push hb ⟨hS.size, ho⟩ (fun k hk => by cases hk; exact Nat.le_refl _)) ?_)⟩
  intro V hV
  refine .inr ⟨⟨w.heap.size, 0, none⟩, grownCap w s.size 0 e, by simp [bl_length], by intro v hv; obtain ⟨b, _, rfl⟩ := List.mem_map.1 hv; rfl, .inr ⟨w.heap.size, 0, rfl, (Array.getElem?_eq_some_iff.1 hV).1, ?_⟩⟩
  rw [flat_vB]
  intro j v hj
  have hjl : j < s.size := by
    have := (List.getElem?_eq_some_iff.1 hj).1
    simpa [bl_length] using this
  rw [World.cell?_of_block (w := Go.Lib.bytesWorld w e s) (by rw [hV, ho]), Nat.zero_add, Go.Lib.bytesWorld_cell w e s j hjl, ← hj]
  have hjd : j < s.data.toList.length := by rw [Array.length_toList]; exact hjl
  simp only [bl, List.map_map, List.getElem?_map, List.getElem?_eq_getElem hjd, List.getD_eq_getElem?_getD, Option.map_some, Option.getD_some, Function.comp, vB]
theorem kCv_bytesO {X : Chain → World → Prop} {w w0 : World} {L : List Own} {s : ByteArray} {k : Value → World → Prop} (hS : St w0 L w) (h : ∀ x W g o, St w0 (L ++ [.ob g o]) W → (∀ V : World, V.heap[g]? = some o → Src V 1 x ((bl s).map vB)) → k x W) : kConv ⟨Tryz.prog, X, false⟩ w 9 44 (.string s) k :=
  kCv_bytesPO Tryz.underlying9 Tryz.underlying44 Tryz.underlying5 hS h
theorem quoted115 (s : ByteArray) (hs : s.size ≤ 900000) (w : World) (R : Ending → World → Prop) (h : R (.returned (.string ((⟨#[39]⟩ : ByteArray) ++ s ++ (⟨#[39]⟩ : ByteArray)))) w) : Calls Tryz.prog 115 #[.string s] w R := by
  refine c115 _ _ _ ?_
  unfold vc115
  have s1 : (⟨#[39]⟩ : ByteArray).size = 1 := rfl
  exact kAdd_strG (by omega) (kAdd_strG (by rw [ByteArray.size_append]; omega) h)
theorem lit112 (r : AV) (hs : r.2.2.size ≤ 1000) (w : World) (hG : Glob w) (R : Ending → World → Prop) (h : ∀ W, Below w.heap.size w W → R (.returned (.string (ba ([39] ++ quoteL r.2.2.data.toList ++ [39])))) W) : Calls Tryz.prog 114 #[vVal r] w R := by
  refine c114 _ _ _ _ _ ?_
  unfold vc114
  refine kBox_st (St.start w) fun b W hS => xFa59_2 (kLd hS 0 rfl rfl rfl ?_)
  obtain ⟨m, hm⟩ := (hG.below hS.below).at_
  have e : r.2.2.data.toList.length = r.2.2.size := Array.length_toList
  have hcb : Go.Lib.countB r.2.2 ⟨#[39]⟩ ≤ 1001 := by
    have := Go.Lib.count_le r.2.2.data.toList [39]
    show Go.Lib.count r.2.2.data.toList [39] ≤ 1001
    omega
  refine kCall_i (Tryz.call116 _ _) ((Tryz.strings_ReplaceAll r.2.2 ⟨#[39]⟩ ⟨#[39, 39]⟩ m W (by omega) hm (by decide) (by
    have : (⟨#[39, 39]⟩ : ByteArray).size = 2 := rfl
    rw [this]; omega)).mono ?_)
  rintro en W2 ⟨rfl, hB⟩
  have hS := hS.bel hB
  show (fun v w => _) _ _
  have hq : (⟨(Lib.replaceAll r.2.2.data.toList [39] [39, 39]).toArray⟩ : ByteArray) = ba (quoteL r.2.2.data.toList) := by
    rw [replaceAll_one 39 [39, 39] (by decide)]; rfl
  have hql := quoteL_len r.2.2.data.toList
  refine kCall_i (Tryz.call115 _ _) (quoted115 _ ?_ _ _ ?_)
  · show (⟨(Lib.replaceAll r.2.2.data.toList [39] [39, 39]).toArray⟩ : ByteArray).size ≤ _
    rw [hq, ba_size]; omega
  · have := h W2 hS.below
    show R (.returned (.string ((⟨#[39]⟩ : ByteArray) ++ (⟨(Lib.replaceAll r.2.2.data.toList [39] [39, 39]).toArray⟩ : ByteArray) ++ (⟨#[39]⟩ : ByteArray)))) W2
    rw [hq, show (⟨#[39]⟩ : ByteArray) = ba [39] from rfl, ba_app, ba_app]; exact this
theorem strCells_snoc (s : ByteArray) (x : UInt8) : Lib.strCells (s ++ ba [x]) = Lib.strCells s ++ [.int .u8 x.toNat] := by
  simp [Lib.strCells, ba]
theorem WriteByte118 {w0 w : World} {b : Nat} {c : ByteArray} {M : List Own} (x : UInt8) (hP : BuiltP w0 b c M w) (hm : c.size ≤ 1000000) (R : Ending → World → Prop)
    (h : ∀ W, BuiltP w0 b (c ++ ba [x]) M W → R (.returned .nilIface) W) : Calls Tryz.prog 118 #[.pointer (some ⟨b, 0, none⟩), .int .u8 x.toNat] w R := by
  obtain ⟨q, v, hq, hS⟩ := hP
  refine c118 _ _ _ _ ?_
  unfold vc118
  refine kCall_i (Tryz.call80 _ _) (check99 hS 0 hq rfl _ fun W hS => ?_)
  have hS : St w0 (.bx b 67 #[.pointer (some ⟨b, 0, none⟩), v] :: .row v 5 1 c.size (Lib.strCells c) :: M) W := hS
  refine kNil_p (kFa179_1 (kLd hS 0 rfl rfl rfl ?_))
  refine kApp1_st (xE44 W) hS 1 rfl rfl (by simp [Value.cells, Value.oneCell']) (by simp only [maxLen]; omega) (by omega) fun x' W hS => ?_
  have hS : St w0 (.bx b 67 #[.pointer (some ⟨b, 0, none⟩), v] :: .row x' 5 1 (c.size + 1) (Lib.strCells c ++ [.int .u8 x.toNat]) :: M) W := hS
  refine kNil_p (kFa179_1 (kSt hS 0 rfl (by simp) (row_cells (hS.get 1 rfl)).1 (row_cells (hS.get 1 rfl)).2 rfl fun W hS => h W ⟨_, x', .inr rfl, ?_⟩))
  rw [strCells_snoc, ByteArray.size_append, ba_size]
  exact hS
theorem and15 : ∀ n : Nat, n < 256 → bits .and .u8 (n : Int) 15 = ((n % 16 : Nat) : Int) := by decide +kernel
theorem hexIx : ∀ d : Nat, d < 16 → ((digS[d]!).toNat : Int) = ((hexd d).toNat : Int) := by decide
theorem lit114 (r : AV) (hs : r.2.2.size ≤ 1000) (w : World) (R : Ending → World → Prop) (h : ∀ W, Below w.heap.size w W → R (.returned (.string (ba ([120, 39] ++ hexL r.2.2.data.toList ++ [39])))) W) : Calls Tryz.prog 117 #[vVal r] w R := by
  refine c117 _ _ _ _ _ ?_
  unfold vc117
  refine kBox_st (St.start w) fun b W hS => kAlloc_st Tryz.zeroValue67 hS fun b3 W hS => xFa59_2 (kLd hS 0 rfl rfl rfl (kCv_bytesO hS fun x W g o hS hsrc => ?_))
  have hS : St w [.bx b 59 (vVal r).cells, .bx b3 67 #[.pointer none, .slice none 0 0], .ob g o] W := hS
  have hS := hS.adopt (o := .row (.slice none 0 0) 5 1 0 []) (World.ownsRow_nil _ _ _ _) (fun p hp => by
    simp at hp
    rcases hp with rfl | rfl | rfl
    · exact .inr (fun e => by cases e)
    · exact .inr (fun e => by cases e)
    · exact .inr (fun e => by cases e))
  have hS : St w [.bx b3 67 #[.pointer none, .slice none 0 0], .row (.slice none 0 0) 5 1 0 [], .ob g o] W := by
    have := hS.ins 2
    exact this.del 0
  have hP : BuiltP w b3 (ba []) [.ob g o] W := ⟨none, _, .inl rfl, hS⟩
  obtain ⟨a, cp, rfl, _⟩ := (hsrc W (hS.get 2 rfl).2).sl
  have hsl : ∀ {V : World} {c : ByteArray}, BuiltP w b3 c [.ob g o] V → Sl V a 1 ((bl r.2.2).map vB) := fun hP => by
    obtain ⟨q, v, _, hS⟩ := hP
    obtain ⟨a', cp', e, h⟩ := (hsrc _ (hS.get 2 rfl).2).sl
    cases e; exact h
  generalize r.2.2 = s at *
  have e : s.data.toList.length = s.size := Array.length_toList
  have hbl : (bl s).length = s.size := bl_length s
  have hlen : ((bl s).map vB).length = s.size := by rw [List.length_map, hbl]
  rw [hlen]
  have hhl := hexL_len s.data.toList
  refine xLen44 ⟨⟨fun cs V => ∃ i : Nat, cs = [.int .i64 i] ∧ i ≤ s.size ∧ BuiltP w b3 (ba (hexL (s.data.toList.take i))) [.ob g o] V, fun cs _ => s.size - (match cs with | [.int _ i] => i.toNat | _ => 0), ⟨0, rfl, Nat.zero_le _, hP⟩, ?_⟩⟩
  rintro cs ds V ⟨i, rfl, hi, hP⟩
  dsimp only [List.getD_cons_zero]
  refine kBin_lss (kIf_d (fun e4 => ?_) (fun e4 => ?_))
  · have hil : i < s.size := by omega
    have h256 : (s[i]).toNat < 256 := (s[i]).toNat_lt
    have hget : s[i] = s.data.toList[i]'(by omega) := by simp; rfl
    obtain ⟨pb, po, rfl, hpb, hpr⟩ := (hsl hP).elem (i := i) (v := vB (s[i]).toNat) (by
      have : s.data.toList[i]? = some s[i] := by rw [hget]; exact List.getElem?_eq_getElem _
      simp only [bl, List.map_map, List.getElem?_map, this]; rfl)
    have hqi := hexL_len (s.data.toList.take i)
    rw [List.length_take] at hqi
    refine xIa44 hil (kLdS rfl (hpr 0 (.int .u8 (s[i]).toNat) rfl) (kBin_shr (by omega) (by simp [IntKind.bits]) ?_))
    rw [show (((s[i]).toNat : Nat) : Int) / 2 ^ (4 : Int).toNat = (((s[i]).toNat / 16 : Nat) : Int) by show _ / 2 ^ 4 = _; omega]
    have hd1 : (s[i]).toNat / 16 < 16 := by omega
    have hd2 : (s[i]).toNat % 16 < 16 := by omega
    have hx : ∀ d (hd : d < 16), digS[d]'hd = hexd d := fun d hd => by
      have : d < digS.data.size := hd
      unfold hexd
      rw [Array.getD_eq_getD_getElem?, Array.getElem?_eq_getElem this]; rfl
    refine kIxS (s := digS) (i := (s[i]).toNat / 16) Tryz.underlying9 hd1 ?_
    rw [hx _ hd1]
    refine kCall_i (Tryz.call118 _ _) (WriteByte118 _ hP (by rw [ba_size]; omega) _ fun V2 hP2 => ?_)
    rw [ba_app] at hP2
    refine kBin_and ?_
    rw [and15 _ h256]
    refine kIxS (s := digS) (i := (s[i]).toNat % 16) Tryz.underlying9 hd2 ?_
    rw [hx _ hd2]
    refine kCall_i (Tryz.call118 _ _) (WriteByte118 _ hP2 (by rw [ba_size, List.length_append]; simp; omega) _ fun V3 hP3 => ?_)
    rw [ba_app] at hP3
    refine kBin_add (kD_i ⟨⟨i + 1, ?_, hil, ?_⟩, ?_⟩)
    · rw [wrap_id (by omega) (by omega)]; rfl
    · have : hexL (s.data.toList.take (i + 1)) = hexL (s.data.toList.take i) ++ [hexd (s[i].toNat / 16)] ++ [hexd (s[i].toNat % 16)] := by
        unfold hexL
        rw [flatMap_snoc _ _ (by omega), ← hget, List.append_assoc]; rfl
      rw [this]; exact hP3
    · rw [wrap_id (by omega) (by omega)]; show s.size - ((i : Int) + 1).toNat < s.size - (i : Int).toNat; omega
  · have hie : i = s.size := by omega
    rw [hie, List.take_of_length_le (by omega)] at hP
    refine kCall_i (Tryz.call34 _ _) (hP.tell _ fun W2 hB => kCall_i (Tryz.call115 _ _) (quoted115 _ (by rw [ba_size]; omega) _ _ ?_))
    have s1 : (⟨#[39]⟩ : ByteArray).size = 1 := rfl
    have s2 : (⟨#[120]⟩ : ByteArray).size = 1 := rfl
    refine kAdd_strG (by rw [ByteArray.size_append, ByteArray.size_append, ba_size]; omega) ?_
    have := h W2 hB
    rw [show (⟨#[39]⟩ : ByteArray) = ba [39] from rfl, show (⟨#[120]⟩ : ByteArray) = ba [120] from rfl, ba_app, ba_app, ba_app]
    exact this
end Go.L
namespace Go.L
open Go Go.RowKit Go.Proofs
set_option linter.unusedSimpArgs false
set_option linter.unusedVariables false

theorem litAll (r : AV) (hr : I64 r.2.1) (hc : checkE r = 0) (w : World) (hT : Tab w) (hG : Glob w) (R : Ending → World → Prop) (h : ∀ W, Below w.heap.size w W → R (.returned (.string (litZ r))) W) : Calls Tryz.prog (litF r.1) #[vVal r] w R := by
  have hrg := checkE_rng hc
  have hsz := checkE_sz hc
  obtain ⟨t, n, s⟩ := r
  dsimp only at hrg hsz hr
  have : t = 0 ∨ t = 1 ∨ t = 2 ∨ t = 3 ∨ t = 4 := by omega
  rcases this with rfl | rfl | rfl | rfl | rfl
  · exact lit107 _ w R h
  · exact lit108 _ w R h
  · exact lit110 _ hr w hT R h
  · exact lit112 _ hsz w hG R h
  · exact lit114 _ hsz w R h
/-- What the numbers of an instruction are. -/
structure InsWf (x : IN) : Prop where
  a : I64 x.a
  b : I64 x.b
  c : I64 x.c
  v : I64 x.v.2.1
  ar : ∀ n ∈ x.ar, I64 n
theorem small_of {x : IN} (hw : InsWf x) (h : smallI x = true) : Small litZ x := by
  unfold smallI at h
  simp only [Bool.and_eq_true, decide_eq_true_eq] at h
  refine ⟨hw.a, hw.b, hw.c, hw.ar, by omega, by omega, ?_⟩
  have e : x.v.2.2.data.toList.length = x.v.2.2.size := Array.length_toList
  have h1 := quoteL_len x.v.2.2.data.toList
  have h2 := hexL_len x.v.2.2.data.toList
  unfold litZ
  split
  · decide
  split
  · unfold boolB; split <;> decide
  split
  · exact Nat.le_trans (itoaB_size _ hw.v) (by omega)
  split
  · rw [ba_size]; simp; omega
  · rw [ba_size]; simp; omega
theorem chkC_two {l : List IN} (h : chkC l ≠ 0) : chkC l = 2 := by
  unfold chkC at h ⊢
  split
  · rfl
  · rename_i h1
    rw [if_neg h1] at h
    split
    · rename_i h2; rw [if_pos h2] at h; exact absurd rfl h
    · rfl
theorem CodeChecks3 (l : List IN) (w : World) (hT : Tab w) (hG : Glob w) (lo : Option Addr) (lc : Nat) (hl : InsL w lo l) (hlen : l.length ≤ 9223372036854775807) (hwf : ∀ x ∈ l, InsWf x) (R : Ending → World → Prop)
    (h : ∀ W, Below w.heap.size w W → R (.returned (.bool true)) W) : Calls Tryz.prog 3 #[.slice lo l.length lc] w R := by
  refine c3 _ _ _ _ _ ?_
  unfold vc3
  refine kCall_i (Tryz.call8 _ _) (few8 60 l w lo lc hl hlen _ (kUn_not (kIf_b (fun q => kCall_i (Tryz.call9 _ _) (works17 _ hT _ fun W' hB' => h _ hB')) (fun q => ?_))))
  simp only [Bool.not_eq_false', Bool.and_eq_true, decide_eq_true_eq] at q
  have hsm : ∀ x ∈ l, Small litZ x := fun x hx => small_of (hwf x hx) (List.all_eq_true.1 q.2 x hx)
  have harl : ∀ x ∈ l, x.ar.length ≤ 1000000 := fun x hx => Nat.le_trans (hsm x hx).arl (by omega)
  have hv : ∀ x ∈ l, I64 x.v.2.1 := fun x hx => (hwf x hx).v
  refine kJn_inv (fun cs V => cs = [.int .i64 (chkC l)] ∧ St w [] V) ?_ ?_
  rotate_left
  · intro J hJ
    refine kCall_i (Tryz.call10 _ _) (Right10 l w lo lc hl harl _ fun W hB => kIf_b (fun q2 => kD_i (hJ _ _ ⟨?_, (St.start w).bel hB⟩)) (fun q2 => kD_i (hJ _ _ ⟨?_, (St.start w).bel hB⟩)))
    · rw [show chkC l = 0 by simpa using q2]
    · rw [chkC_two (by simpa using q2)]
  rintro cs V ⟨rfl, hS⟩ ds
  try dsimp only [List.getD_cons_zero]
  have fin : ∀ {V : World} {s : ByteArray} {n : Int}, St w [] V → n = chkC l → kCall (cR Tryz.prog R) V 14 #[.slice lo l.length lc] fun v25 w_7 => kCall (cR Tryz.prog R) w_7 13 #[v25] fun v26 w_8 => kEq (cR Tryz.prog R) w_8 .eql 3 (.tmp 26) (.tmp 27) v26 (.int .i64 (chkC l)) fun v28 w_9 =>
      kIf v28 (kEq (cR Tryz.prog R) w_9 .eql 9 (.tmp 30) (.tmp 31) (.string s) (.string s) fun v32 w_10 => kIf v32 (kCall (cR Tryz.prog R) w_10 13 #[.int .i64 (chkC l)] fun v36 w_11 => kEq (cR Tryz.prog R) w_11 .eql 3 (.tmp 36) (.tmp 37) v36 (.int .i64 n) fun v38 w_12 => kIf v38 (kCall (cR Tryz.prog R) w_12 9 #[] fun v41 w_13 => R (.returned v41) w_13) (R (.returned (.bool false)) w_12)) (R (.returned (.bool false)) w_10)) (R (.returned (.bool false)) w_9) := by
    rintro V s n hS rfl
    refine kCall_i (Tryz.call14 _ _) (Check19 l V lo lc (hl.below hS.below) harl _ fun W hB => kCall_i (Tryz.call13 _ _) (num18 _ _ _ (kEq_int (kIf_eq (fun _ => ?_) (fun q => absurd rfl q)))))
    have hS := hS.bel hB
    refine kEq_str (kIf_d (fun _ => ?_) (fun q => absurd rfl q))
    refine kCall_i (Tryz.call13 _ _) (num18 _ _ _ (kEq_int (kIf_eq (fun _ => ?_) (fun q => absurd rfl q))))
    exact kCall_i (Tryz.call9 _ _) (works17 _ (hT.below hS.below) _ fun W' hB' => h _ (hS.bel hB').below)
  refine kCall_i (Tryz.call11 _ _) (Text35 litZ l V (hT.below hS.below) lo lc (hl.below hS.below) hsm (fun x hx _ hc W hB R' h' => litAll x.v (hv x hx) hc W (hT.below (hS.bel hB).below) (hG.below (hS.bel hB).below) R' h') _ (fun hc W hB => ?_) (fun hc W hB => ?_))
  · have hS := hS.bel hB
    refine kExt_0 (kExt_1 (kCall_i (Tryz.call12 _ _) (Text12 l W (hT.below hS.below) lo lc (hl.below hS.below) hsm hv _ (fun _ W hB => ?_) (fun hc' => absurd hc hc'))))
    have hS := hS.bel hB
    have := fin (s := textN litZ l l.length) (n := 0) hS hc.symm
    rw [hc] at this ⊢
    exact kExt_0 (kExt_1 this)
  · have hS := hS.bel hB
    refine kExt_0 (kExt_1 (kCall_i (Tryz.call12 _ _) (Text12 l W (hT.below hS.below) lo lc (hl.below hS.below) hsm hv _ (fun hc' => absurd hc' hc) (fun _ W hB => ?_))))
    have hS := hS.bel hB
    exact kExt_0 (kExt_1 (fin (s := ⟨#[]⟩) (n := 2) hS (chkC_two hc).symm))
end Go.L
namespace Go.L
open Go Go.RowKit Go.Proofs Go.ChangeShapes Go.WideShapes Go.ChangeAt
set_option linter.unusedSimpArgs false
set_option linter.unusedVariables false

def Rng (r : AV) : Prop := -9223372036854775808 ≤ r.2.1 ∧ r.2.1 ≤ 9223372036854775807
theorem laidOutD : laidOutB Tryz.prog = true := by kernel_rfl
theorem cells41 : Tryz.prog.cellsOf 59 = 3 := by kernel_rfl
theorem cells5 : Tryz.prog.cellsOf 5 = 1 := by kernel_rfl
section
variable {H : Type} {enc : TypeId × Value → H} {W : World}
theorem el41 (n : Nat) (c1 : List Value) (y : DataW H × List MemPlace) (h : DataW.trod enc Tryz.prog W 0 (fun _ => true) true n 59 c1 = some y) : ∃ r : AV, c1 = (vVal r).cells.toList ∧ Rng r := by
  obtain ⟨xs, m, _, _, hlen, hx, hf⟩ := DataW.trod_struct Tryz.underlying59 h
  rw [cells41] at hlen
  obtain ⟨v0, v1, v2, rfl⟩ : ∃ v0 v1 v2, c1 = [v0, v1, v2] := by
    cases c1 with
    | nil => cases hlen
    | cons v0 l =>
      cases l with
      | nil => simp at hlen
      | cons v1 l =>
        cases l with
        | nil => simp at hlen
        | cons v2 l =>
          cases l with
          | nil => exact ⟨_, _, _, rfl⟩
          | cons v3 l => simp at hlen
  · skip
    have h0 : DataW.trod enc Tryz.prog W 0 (fun _ => true) true m 57 (([v0, v1, v2].drop 0).take (Tryz.prog.cellsOf 57)) = xs[0]? := hf 0 _ rfl
    have h1 : DataW.trod enc Tryz.prog W 0 (fun _ => true) true m 2 (([v0, v1, v2].drop 1).take (Tryz.prog.cellsOf 2)) = xs[1]? := hf 1 _ rfl
    have h2 : DataW.trod enc Tryz.prog W 0 (fun _ => true) true m 9 (([v0, v1, v2].drop 2).take (Tryz.prog.cellsOf 9)) = xs[2]? := hf 2 _ rfl
    have c39 : Tryz.prog.cellsOf 57 = 1 := by kernel_rfl
    have c2 : Tryz.prog.cellsOf 2 = 1 := by kernel_rfl
    have c9 : Tryz.prog.cellsOf 9 = 1 := by kernel_rfl
    simp only [c39, c2, c9, List.drop_zero, List.take_succ_cons, List.take_zero, List.drop_succ_cons] at h0 h1 h2
    have hx3 : xs.length = 3 := hx
    obtain ⟨x0, hx0⟩ : ∃ x, xs[0]? = some x := ⟨xs[0], by simp [hx3]⟩
    obtain ⟨x1, hx1⟩ : ∃ x, xs[1]? = some x := ⟨xs[1], by simp [hx3]⟩
    obtain ⟨x2, hx2⟩ : ∃ x, xs[2]? = some x := ⟨xs[2], by simp [hx3]⟩
    rw [hx0] at h0
    rw [hx1] at h1
    rw [hx2] at h2
    obtain ⟨n0, e0, _, w0⟩ := DataW.trod_int Tryz.underlying57 h0
    obtain ⟨n1, e1, _, w1⟩ := DataW.trod_int Tryz.underlying2 h1
    obtain ⟨s, e2, _, _⟩ := DataW.trod_string Tryz.underlying9 h2
    simp only [List.cons.injEq, and_true] at e0 e1 e2
    subst e0; subst e1; subst e2
    refine ⟨(n0, n1, s), rfl, ?_⟩
    simpa [Lit.wf, IntKind.min, IntKind.max, IntKind.signed, IntKind.bits, Rng] using w1
theorem el_int {e : TypeId} (he : Tryz.prog.underlying e = some (.int .i64)) (n : Nat) (c1 : List Value) (y : DataW H × List MemPlace) (h : DataW.trod enc Tryz.prog W 0 (fun _ => true) true n e c1 = some y) : ∃ r : Int, c1 = (vInt r).cells.toList ∧ (-9223372036854775808 ≤ r ∧ r ≤ 9223372036854775807) := by
  obtain ⟨n0, rfl, _, w0⟩ := DataW.trod_int he h
  exact ⟨n0, rfl, by simpa [Lit.wf, IntKind.min, IntKind.max, IntKind.signed, IntKind.bits] using w0⟩
theorem el_byte (n : Nat) (c1 : List Value) (y : DataW H × List MemPlace) (h : DataW.trod enc Tryz.prog W 0 (fun _ => true) true n 5 c1 = some y) : ∃ r : Nat, c1 = (vB r).cells.toList ∧ r < 256 := by
  obtain ⟨n0, rfl, _, w0⟩ := DataW.trod_int Tryz.underlying5 h
  have : 0 ≤ n0 ∧ n0 ≤ 255 := by simpa [Lit.wf, IntKind.min, IntKind.max, IntKind.signed, IntKind.bits] using w0
  exact ⟨n0.toNat, by simp [vB, Value.cells, Int.toNat_of_nonneg this.1], by omega⟩
end
/-- A contract that is handed what the listed variables hold, and the shape of the world. -/
theorem returnsInHanded_both {H : Type} {enc : TypeId × Value → H} {a : Assume} {C : Checked} {os : Os} {f : FuncId} {fn : Func} {s : ChangeSpec} {conds : List PathCond} {apart fresh handsOn again : Bool} {X : World → Array Value → Prop}
    (hX : ∀ (w w' : World) (args : Array Value), w.heap = w'.heap → X w args → X w' args)
    (own : ownKnob C.prog.godebug = none) (started : os.Started) (noInit : C.prog.inits.idxOf? f = none) (hfn : C.prog.funcs[f]? = some fn)
    (witness : ∃ (w : World) (tape : Tape) (i : Input), w.os = os ∧ (w.forCall tape i).Shaped C.prog ∧ i.vars = [] ∧ Input.okWide C.prog (w.forCall tape i) .any w.heap.size f i ∧
      ((s.pre enc C.prog fn conds apart (w.forCall tape i).memory i.args ∧ X (w.forCall tape i).memory i.args) ∧ sizedMet enc C.prog fn (OpenSpec.ofChange s) apart (w.forCall tape i).memory i.args) ∧ a.holds C.prog (lone (Frame.enter C.prog f i.args .normal) [] (w.forCall tape i)))
    (contract : ∀ (W : World) (base : Nat) (args : Array Value) (ds gs : List (DataW H)) (before : List MemPlace),
      (∀ (j : Nat) t v, fn.params[j]? = some t → args[j]? = some v → Value.okWide C.prog W .any base t v) →
      DataW.Whole enc C.prog fn.params.toList s.vars apart W args.toList ds gs before →
      W.ShapedOpen C.prog → X W args →
      Calls C.prog f args W fun e W' => ∃ v, e = .returned v ∧ s.post enc C.prog fn apart fresh handsOn again W args v W') :
    ReturnsInHanded a C os f .any (fun w args => (s.pre enc C.prog fn conds apart w args ∧ X w args) ∧ sizedMet enc C.prog fn (OpenSpec.ofChange s) apart w args) (s.post enc C.prog fn apart fresh handsOn again) := by
  refine returnsInHanded_of_calls own started noInit witness ?_
  intro w tape i _ hsh _ hok hpre hholds
  obtain ⟨_, _, _, fn', hfn', _, _, _, _, hval⟩ := hok
  have e : fn' = fn := Option.some.inj (hfn'.symm.trans hfn)
  subst e
  obtain ⟨⟨⟨ds, gs, before, hw, hc⟩, hx⟩, hz⟩ := hpre
  have hw' := DataW.Whole.of_heap (w' := w.forCall tape i) (by rfl) hw
  refine (contract (w.forCall tape i) w.heap.size i.args ds gs before hval hw' hsh (hX _ _ _ (by rfl) hx)).mono fun e W' ⟨v, he, hp⟩ => ?_
  subst he
  exact ChangeSpec.post_blind hp
/-- What the shape of the world gives of the variable that strings' own functions look at. -/
theorem glob_of_shaped {W : World} (h : W.ShapedOpen Tryz.prog) : Glob W := by
  refine ⟨cell_of_shapedOpen_int (g := 1) (t := 3) (zero := #[.int .i64 0]) h (of_decide_eq_true (by kernel_rfl)) (by kernel_rfl) rfl (by kernel_rfl) (by kernel_rfl) Tryz.underlying3, ?_⟩
  obtain ⟨cs, hh, _⟩ := h.1 1 _ 3 (of_decide_eq_true (by kernel_rfl)) (by kernel_rfl : _ = some (#[.int .i64 0], 3))
  exact (Array.getElem?_eq_some_iff.1 hh).1
end Go.L
namespace Go.L
open Go Go.RowKit Go.Proofs Go.ChangeShapes Go.WideShapes Go.ChangeAt
set_option linter.unusedSimpArgs false
set_option linter.unusedVariables false

/-- A slice whose cells have been gone through. -/
theorem trod_sl {H : Type} {enc : TypeId × Value → H} {P : Program} {W : World} {α : Type} (mk : α → Value) (ok : α → Prop) {t e : TypeId} {sz : Nat} (ht : P.underlying t = some (.slice e)) (hc : P.cellsOf e = sz) (hsz : 0 < sz) (hmk : ∀ r, (mk r).cells.size = sz)
    (hel : ∀ (n : Nat) (c1 : List Value) (y : DataW H × List MemPlace), DataW.trod enc P W 0 (fun _ => true) true n e c1 = some y → ∃ r, c1 = (mk r).cells.toList ∧ ok r)
    {fuel : Nat} {cs : List Value} {d : DataW H} {p : List MemPlace} (hf : DataW.trod enc P W 0 (fun _ => true) true fuel t cs = some (d, p)) :
    ∃ (a : Option Addr) (l : List α) (cp : Nat), cs = [.slice a l.length cp] ∧ Sl W a sz (l.map mk) ∧ (∀ r ∈ l, ok r) ∧ l.length ≤ cp ∧ cp ≤ 9223372036854775807 := by
  rcases DataW.trod_slice ht hf with ⟨h1, _⟩ | ⟨a, len, cap, elems, rest, n, _, h1, _, _, hl, hm, hlen, hE, _⟩
  · exact ⟨none, [], 0, h1, Sl.nil _ _, by simp, by simp, by omega⟩
  · rw [hc] at hE
    have key : ∀ i, i < len → ∃ r : α, (∀ j u, (mk r).cells.toList[j]? = some u → W.cell? ((a.add (i * sz)).add j) = some u) ∧ ok r := by
      intro i hi
      have h2 := hE i hi
      rw [show elems[i]? = some elems[i] by simp [hlen, hi]] at h2
      simp only [Option.bind_eq_some_iff] at h2
      obtain ⟨c1, hc1, hy⟩ := h2
      obtain ⟨r, rfl, hr⟩ := hel _ _ _ hy
      refine ⟨r, fun j u hj => ?_, hr⟩
      unfold World.cells? at hc1
      split at hc1
      · have hjl := (List.getElem?_eq_some_iff.1 hj).1
        have hjs : j < sz := by simpa [hmk] using hjl
        obtain ⟨b, hb, hb2⟩ := (mapM_get hc1).2 j j (by simp [hjs])
        rw [hj] at hb2; cases hb2; exact hb
      · cases hc1
    obtain ⟨l, hll, hlp⟩ := exists_list key
    refine ⟨some a, l, cap, by rw [hll]; exact h1, ⟨fun v hv => ?_, ?_⟩, fun r hr => ?_, by rw [hll]; exact hl, by simpa [maxLen] using hm⟩
    · obtain ⟨r, _, rfl⟩ := List.mem_map.1 hv; exact hmk r
    · by_cases hl0 : len = 0
      · left; have : l = [] := List.eq_nil_of_length_eq_zero (by omega); rw [this]; rfl
      · right
        obtain ⟨b, off, spot⟩ := a
        have hget : ∀ i (hi : i < l.length), ∀ j u, (mk l[i]).cells.toList[j]? = some u → W.cell? ((Addr.add ⟨b, off, spot⟩ (i * sz)).add j) = some u := fun i hi => (hlp i l[i] (by simp [hi])).1
        have h0 := hget 0 (by omega) 0 _ (List.getElem?_eq_getElem (by simpa [hmk] using hsz))
        have hspot : spot = none := by
          have := World.cell?_spot h0
          simpa [Addr.add] using this
        subst hspot
        have hb : b < W.heap.size := by
          simp only [Nat.zero_mul, Addr.add_mid] at h0
          unfold World.cell? at h0
          cases hh : W.heap[b]? with
          | none => simp [hh] at h0
          | some o => exact (Array.getElem?_eq_some_iff.1 hh).1
        refine ⟨b, off, rfl, hb, rangeAt_flat _ off (fun v hv => by obtain ⟨r, _, rfl⟩ := List.mem_map.1 hv; exact hmk r) fun i v hv j u hj => ?_⟩
        rw [List.getElem?_map] at hv
        cases hr : l[i]? with
        | none => rw [hr] at hv; cases hv
        | some r =>
          rw [hr] at hv; cases hv
          obtain ⟨hi, hr2⟩ := List.getElem?_eq_some_iff.1 hr
          have := hget i hi j u (by rw [hr2]; exact hj)
          simpa [Addr.add_mid] using this
    · obtain ⟨i, hi⟩ := List.mem_iff_getElem?.1 hr
      exact (hlp i r hi).2
abbrev INP := IN × Option Addr × Nat
def inP2 (r : INP) : Value := inV r.1 r.2.1 r.2.2
def OkP (W : World) (r : INP) : Prop := InsWf r.1 ∧ Sl W r.2.1 1 (r.1.ar.map vInt)
section
variable {H : Type} {enc : TypeId × Value → H} {W : World}
theorem cells62 : Tryz.prog.cellsOf 62 = 10 := by kernel_rfl
set_option maxRecDepth 10000 in
theorem el62 (n : Nat) (c1 : List Value) (y : DataW H × List MemPlace) (h : DataW.trod enc Tryz.prog W 0 (fun _ => true) true n 62 c1 = some y) : ∃ r : INP, c1 = (inP2 r).cells.toList ∧ OkP W r := by
  obtain ⟨xs, m, _, _, hlen, hx, hf⟩ := DataW.trod_struct Tryz.underlying62 h
  rw [cells62] at hlen
  obtain ⟨v0, v1, v2, v3, v4, v5, v6, v7, v8, v9, rfl⟩ : ∃ v0 v1 v2 v3 v4 v5 v6 v7 v8 v9, c1 = [v0, v1, v2, v3, v4, v5, v6, v7, v8, v9] := by
    match c1, hlen with
    | [v0, v1, v2, v3, v4, v5, v6, v7, v8, v9], _ => exact ⟨v0, v1, v2, v3, v4, v5, v6, v7, v8, v9, rfl⟩
  have hx8 : xs.length = 8 := hx
  have get : ∀ j, j < 8 → ∃ x, xs[j]? = some x := fun j hj => ⟨xs[j]'(by omega), by simp [hx8, hj]⟩
  have c3 : Tryz.prog.cellsOf 3 = 1 := by kernel_rfl
  have c33 : Tryz.prog.cellsOf 33 = 1 := by kernel_rfl
  have c56 : Tryz.prog.cellsOf 56 = 1 := by kernel_rfl
  have c9 : Tryz.prog.cellsOf 9 = 1 := by kernel_rfl
  have c60 : Tryz.prog.cellsOf 60 = 1 := by kernel_rfl
  have c59 : Tryz.prog.cellsOf 59 = 3 := by kernel_rfl
  have f0 : DataW.trod enc Tryz.prog W 0 (fun _ => true) true m 33 (([v0, v1, v2, v3, v4, v5, v6, v7, v8, v9].drop 0).take (Tryz.prog.cellsOf 33)) = xs[0]? := hf 0 _ rfl
  have f1 : DataW.trod enc Tryz.prog W 0 (fun _ => true) true m 3 (([v0, v1, v2, v3, v4, v5, v6, v7, v8, v9].drop 1).take (Tryz.prog.cellsOf 3)) = xs[1]? := hf 1 _ rfl
  have f2 : DataW.trod enc Tryz.prog W 0 (fun _ => true) true m 3 (([v0, v1, v2, v3, v4, v5, v6, v7, v8, v9].drop 2).take (Tryz.prog.cellsOf 3)) = xs[2]? := hf 2 _ rfl
  have f3 : DataW.trod enc Tryz.prog W 0 (fun _ => true) true m 3 (([v0, v1, v2, v3, v4, v5, v6, v7, v8, v9].drop 3).take (Tryz.prog.cellsOf 3)) = xs[3]? := hf 3 _ rfl
  have f4 : DataW.trod enc Tryz.prog W 0 (fun _ => true) true m 56 (([v0, v1, v2, v3, v4, v5, v6, v7, v8, v9].drop 4).take (Tryz.prog.cellsOf 56)) = xs[4]? := hf 4 _ rfl
  have f5 : DataW.trod enc Tryz.prog W 0 (fun _ => true) true m 59 (([v0, v1, v2, v3, v4, v5, v6, v7, v8, v9].drop 5).take (Tryz.prog.cellsOf 59)) = xs[5]? := hf 5 _ rfl
  have f6 : DataW.trod enc Tryz.prog W 0 (fun _ => true) true m 9 (([v0, v1, v2, v3, v4, v5, v6, v7, v8, v9].drop 8).take (Tryz.prog.cellsOf 9)) = xs[6]? := hf 6 _ rfl
  have f7 : DataW.trod enc Tryz.prog W 0 (fun _ => true) true m 60 (([v0, v1, v2, v3, v4, v5, v6, v7, v8, v9].drop 9).take (Tryz.prog.cellsOf 60)) = xs[7]? := hf 7 _ rfl
  simp only [c3, c33, c56, c9, c60, c59, List.drop_zero, List.take_succ_cons, List.take_zero, List.drop_succ_cons] at f0 f1 f2 f3 f4 f5 f6 f7
  obtain ⟨x0, g0⟩ := get 0 (by omega)
  obtain ⟨x1, g1⟩ := get 1 (by omega)
  obtain ⟨x2, g2⟩ := get 2 (by omega)
  obtain ⟨x3, g3⟩ := get 3 (by omega)
  obtain ⟨x4, g4⟩ := get 4 (by omega)
  obtain ⟨x5, g5⟩ := get 5 (by omega)
  obtain ⟨x6, g6⟩ := get 6 (by omega)
  obtain ⟨x7, g7⟩ := get 7 (by omega)
  rw [g0] at f0
  rw [g1] at f1
  rw [g2] at f2
  rw [g3] at f3
  rw [g4] at f4
  rw [g5] at f5
  rw [g6] at f6
  rw [g7] at f7
  obtain ⟨n0, e0, _, w0⟩ := DataW.trod_int Tryz.underlying33 f0
  obtain ⟨n1, e1, _, w1⟩ := DataW.trod_int Tryz.underlying3 f1
  obtain ⟨n2, e2, _, w2⟩ := DataW.trod_int Tryz.underlying3 f2
  obtain ⟨n3, e3, _, w3⟩ := DataW.trod_int Tryz.underlying3 f3
  obtain ⟨n4, e4, _, w4⟩ := DataW.trod_int Tryz.underlying56 f4
  obtain ⟨r, e5, w5⟩ := el41 m _ _ f5
  obtain ⟨s, e6, _, _⟩ := DataW.trod_string Tryz.underlying9 f6
  obtain ⟨a, l, cp, e7, hsl, hok, _, _⟩ := trod_sl vInt (fun r => -9223372036854775808 ≤ r ∧ r ≤ 9223372036854775807) Tryz.underlying60 c3 (by omega) (fun _ => rfl) (el_int Tryz.underlying3) (show _ = some (x7.1, x7.2) from f7)
  simp only [vVal, Value.cells, List.cons.injEq, and_true] at e0 e1 e2 e3 e4 e5 e6 e7
  obtain ⟨e5, e5', e5''⟩ := e5
  subst e0; subst e1; subst e2; subst e3; subst e4; subst e5; subst e5'; subst e5''; subst e6; subst e7
  refine ⟨(⟨n0, n1, n2, n3, n4, r, s, l⟩, a, cp), rfl, ⟨?_, ?_, ?_, w5, hok⟩, hsl⟩
  · simpa [Lit.wf, IntKind.min, IntKind.max, IntKind.signed, IntKind.bits, I64] using w1
  · simpa [Lit.wf, IntKind.min, IntKind.max, IntKind.signed, IntKind.bits, I64] using w2
  · simpa [Lit.wf, IntKind.min, IntKind.max, IntKind.signed, IntKind.bits, I64] using w3
theorem inP2_size (r : INP) : (inP2 r).cells.size = 10 := rfl
set_option maxRecDepth 100000 in
/-- Code that is handed in. -/
theorem open_ins {base : Nat} {v : Value} {d : DataW H} {p : List MemPlace} (hval : Value.okWide Tryz.prog W .any base 22 v) (h : DataW.Trod enc Tryz.prog W 0 (fun _ => true) true 22 v d p) :
    ∃ (a : Option Addr) (l : List IN) (cp : Nat), v = .slice a l.length cp ∧ InsL W a l ∧ (∀ x ∈ l, InsWf x) ∧ l.length ≤ cp ∧ cp ≤ 9223372036854775807 := by
  obtain ⟨a, l, cp, rfl, hsl, hok, h1, h2⟩ := open_sl (sz := 10) inP2 (OkP W) Tryz.underlying22 cells62 (by omega) inP2_size (fun n c1 y h => el62 n c1 y h) hval h
  refine ⟨a, l.map (·.1), cp, by simp, ⟨l.map inP2, hsl, by simp, ?_⟩, ?_, by simpa using h1, h2⟩
  · intro i x hx
    rw [List.getElem?_map] at hx
    cases hr : l[i]? with
    | none => rw [hr] at hx; cases hx
    | some r =>
      rw [hr] at hx
      cases hx
      refine ⟨inP2 r, by simp [hr], r.2.1, r.2.2, rfl, (hok r (List.mem_of_getElem? hr)).2⟩
  · intro x hx
    obtain ⟨r, hr, rfl⟩ := List.mem_map.1 hx
    exact (hok r hr).1
end
end Go.L
namespace Go.L
open Go Go.RowKit Go.Proofs
set_option linter.unusedSimpArgs false
set_option linter.unusedVariables false

/-- A kind's name, looked up. -/
theorem Name17 (k : Int) (w : World) (R : Ending → World → Prop) (h : ∀ W, Below w.heap.size w W → R (.returned (.string (nameB k))) W) : Calls Tryz.prog 17 #[.int .i64 k] w R := by
  refine c17 _ _ _ ?_
  unfold vc17
  refine kCall_i (Tryz.call27 _ _) (kinds38 w _ fun bm es N W hS hK => ?_)
  have hh := h W hS.below
  by_cases hz : 1 ≤ k ∧ k ≤ 21
  · obtain ⟨n, rfl⟩ : ∃ n : Nat, k = (n : Int) := ⟨k.toNat, by omega⟩
    obtain ⟨j', v, hf, a, cp, r, rfl, hrow, hr⟩ := hK.some (z := n) (by omega) (by omega)
    refine kLook_map (c := ⟨Tryz.prog, _, false⟩) (hS.get 0 rfl).2 Tryz.underlying68 Tryz.underlying33 rfl hf (kFd84_0 ?_)
    rwa [show nameB (n : Int) = kNameB n by unfold nameB; rw [if_pos hz, Int.toNat_natCast]] at hh
  · refine kLook_none (hS.get 0 rfl).2 Tryz.underlying68 Tryz.underlying33 rfl (hK.none hz) Tryz.zeroValue73 (kFd84_0 ?_)
    rwa [show nameB k = ⟨#[]⟩ from if_neg hz] at hh
def tgV (p : Nat × Int) : Value := .agg #[.int .i64 (p.1 : Nat), .int .i64 p.2]
theorem tgV_size (l : List (Nat × Int)) : ∀ v ∈ l.map tgV, v.cells.size = 2 := by
  intro v hv; obtain ⟨p, _, rfl⟩ := List.mem_map.1 hv; rfl
def tgJ (s : ByteArray) (i : Nat) (x : IN) : List (Nat × Int) := (if fb s 1 = 106 then [(i, x.b)] else []) ++ (if fb s 2 = 106 then [(i, x.c)] else [])
theorem tgJ_eq (i : Nat) (x : IN) (hk : 1 ≤ x.k ∧ x.k ≤ 21) : tgtI i x (kParts x.k.toNat).length = tgJ (formB x.k) i x := by
  obtain ⟨k, a, b, c, o, v, nm, ar⟩ := x
  dsimp only at hk
  have : k = 1 ∨ k = 2 ∨ k = 3 ∨ k = 4 ∨ k = 5 ∨ k = 6 ∨ k = 7 ∨ k = 8 ∨ k = 9 ∨ k = 10 ∨ k = 11 ∨ k = 12 ∨ k = 13 ∨ k = 14 ∨ k = 15 ∨ k = 16 ∨ k = 17 ∨ k = 18 ∨ k = 19 ∨ k = 20 ∨ k = 21 := by omega
  rcases this with rfl | rfl | rfl | rfl | rfl | rfl | rfl | rfl | rfl | rfl | rfl | rfl | rfl | rfl | rfl | rfl | rfl | rfl | rfl | rfl | rfl
  all_goals rfl
theorem tgJ_len (s : ByteArray) (i : Nat) (x : IN) : (tgJ s i x).length ≤ 2 := by
  unfold tgJ
  split <;> split <;> simp
theorem built42 (a b : Int) : Tryz.prog.built 42 [(0, .int .i64 a), (1, .int .i64 b)] = some #[.int .i64 a, .int .i64 b] := by kernel_rfl
theorem Targets15 (l : List IN) (w : World) (lo : Option Addr) (lc : Nat) (hl : InsL w lo l) (hsm : ∀ x ∈ l, x.ar.length ≤ 1000000) (R : Ending → World → Prop)
    (h : ∀ x W, St w [.row x 42 2 (tgtC l).length (flat ((tgtC l).map tgV))] W → R (.returned x) W) : Calls Tryz.prog 15 #[.slice lo l.length lc] w R := by
  refine c15 _ _ _ _ _ ?_
  unfold vc15
  have hS := (St.start w).adopt (o := .row (.slice none 0 0) 42 2 0 []) (World.ownsRow_nil _ _ _ _) (fun p hp => by simp at hp)
  have hS : St w [.row (.slice none 0 0) 42 2 0 []] w := hS
  refine ⟨⟨fun cs V => ∃ (i : Nat) (x : Value), cs = [x, .int .i64 i] ∧ i ≤ l.length ∧ (i = 0 ∨ chkC l = 0) ∧ (tgtN l i).length ≤ 2 * i ∧ St w [.row x 42 2 (tgtN l i).length (flat ((tgtN l i).map tgV))] V, fun cs _ => l.length - (match cs with | [_, .int _ i] => i.toNat | _ => 0), ⟨0, _, rfl, Nat.zero_le _, .inl rfl, Nat.le_refl _, hS⟩, ?_⟩⟩
  rintro cs ds V ⟨i, x, rfl, hi, hic, hln, hS⟩
  dsimp only [List.getD_cons_zero, List.getD_cons_succ]
  refine kJn_inv (fun cs V => chkC l = 0 ∧ i < l.length ∧ St w [.row x 42 2 (tgtN l i).length (flat ((tgtN l i).map tgV))] V) ?_ ?_
  rotate_left
  · intro J hJ
    refine xLen22 (kBin_lss (kIf_d (fun e => ?_) (fun e => kIf_f ?_)))
    · refine kCall_i (Tryz.call10 _ _) (Right10 l V lo lc (hl.below hS.below) hsm _ fun W hB => kIf_b (fun q => kD_i (hJ _ _ ⟨by simpa using q, by omega, hS.bel hB⟩)) (fun q => ?_))
      have q' : ¬ chkC l = 0 := by simpa using q
      have hi0 : i = 0 := hic.resolve_right q'
      subst hi0
      have := h x W
      unfold tgtC at this
      rw [if_neg q'] at this
      exact this (hS.bel hB)
    · have hie : i = l.length := by omega
      have hc : tgtC l = tgtN l i := by
        unfold tgtC
        rcases hic with rfl | q
        · split
          · rw [← hie]
          · rfl
        · rw [if_pos q, hie]
      have := h x V
      rw [hc] at this
      exact this hS
  rintro cs V1 ⟨hc0, hil, hS⟩ ds2
  obtain ⟨hlen, hright⟩ := chkC_all hc0
  have hxr := hright l[i] (List.getElem_mem hil)
  have hk : 1 ≤ l[i].k ∧ l[i].k ≤ 21 := by
    unfold rightC at hxr
    simp only [Bool.and_eq_true, decide_eq_true_eq] at hxr
    exact hxr.1
  have htg : tgtN l (i + 1) = tgtN l i ++ tgJ (formB l[i].k) i l[i] := by
    show tgtN l i ++ tgtI i (l.getD i in0) _ = _
    rw [show l.getD i in0 = l[i] by simp [hil], tgJ_eq i l[i] hk]
  have hjl := tgJ_len (formB l[i].k) i l[i]
  obtain ⟨pb, po, p, pc, rfl, hpb, hpr, hpx⟩ := hl.elem hil
  have fld : ∀ {V : World} {L : List Own}, St w L V → ∀ (j : Nat) (v : Value), (inV l[i] p pc).cells.toList[j]? = some v → V.cell? ⟨pb, po + i * 10 + j, none⟩ = some v := fun hS j v hv => by
    rw [World.cell?_of_block (w := w) (hS.below.block pb hpb)]; exact hpr j v hv
  generalize l[i] = y at *
  refine xIa22 hil (xFa62_0 (kLdS rfl (fld hS 0 _ rfl) (kCall_i (Tryz.call38 _ _) (form38 y.k V1 _ fun W hB => ?_))))
  have hS := hS.bel hB
  have hsz := formB_size y.k
  have hne : formB y.k ≠ ⟨#[]⟩ := by
    have : ∀ j, j < 21 → formT.getD j ⟨#[]⟩ ≠ ⟨#[]⟩ := by decide
    unfold formB; rw [if_pos hk]; exact this _ (by omega)
  have hs3 : 3 ≤ (formB y.k).size := hsz.resolve_left hne
  generalize formB y.k = s at *
  refine kJn_inv (fun cs V => ∃ x', cs = [x'] ∧ St w [.row x' 42 2 (tgtN l i ++ (if fb s 1 = 106 then [(i, y.b)] else [])).length (flat ((tgtN l i ++ (if fb s 1 = 106 then [(i, y.b)] else [])).map tgV))] V) ?_ ?_
  rotate_left
  · intro J hJ
    refine kIxF (i := 1) Tryz.underlying9 (by omega) (kEq_int (kIf_eq (fun q => ?_) (fun q => kD_i (hJ _ _ ⟨_, rfl, ?_⟩))))
    · refine xIa22 hil (xFa62_2 (kLdS rfl (fld hS 2 _ rfl) (kBuild_i (built42 _ _) ?_)))
      refine kApp1_st (xE34 W) hS 0 rfl rfl (by simp [Value.cells, Value.oneCell']) (by simp only [maxLen]; omega) (by omega) fun x' W' hS => kD_i (hJ _ _ ⟨x', rfl, ?_⟩)
      rw [if_pos q, List.length_append, List.map_append]
      unfold flat at hS ⊢
      rw [List.flatMap_append]; exact hS
    · rw [if_neg q, List.append_nil]; exact hS
  rintro cs V2 ⟨x', rfl, hS⟩ ds3
  try dsimp only [List.getD_cons_zero]
  have hl1 : (tgtN l i ++ (if fb s 1 = 106 then [(i, y.b)] else [])).length ≤ 2 * i + 1 := by
    rw [List.length_append]; split <;> simp <;> omega
  have htg' : tgtN l (i + 1) = (tgtN l i ++ (if fb s 1 = 106 then [(i, y.b)] else [])) ++ (if fb s 2 = 106 then [(i, y.c)] else []) := by
    rw [htg]; unfold tgJ; rw [List.append_assoc]
  generalize tgtN l i ++ (if fb s 1 = 106 then [(i, y.b)] else []) = T at *
  refine kIxF (i := 2) Tryz.underlying9 (by omega) (kEq_int (kIf_eq (fun q => ?_) (fun q => ?_)))
  · refine xIa22 hil (xFa62_3 (kLdS rfl (fld hS 3 _ rfl) (kBuild_i (built42 _ _) ?_)))
    refine kApp1_st (xE34 V2) hS 0 rfl rfl (by simp [Value.cells, Value.oneCell']) (by simp only [maxLen]; omega) (by omega) fun x2 W' hS => kBin_add (kD_i ⟨⟨i + 1, x2, ?_, hil, .inr hc0, ?_, ?_⟩, ?_⟩)
    · rw [wrap_id (by omega) (by omega)]; rfl
    · rw [htg', if_pos q, List.length_append]; simp; omega
    · rw [htg', if_pos q, List.length_append, List.map_append]
      unfold flat at hS ⊢
      rw [List.flatMap_append]; exact hS
    · rw [wrap_id (by omega) (by omega)]; show l.length - ((i : Int) + 1).toNat < l.length - (i : Int).toNat; omega
  · refine kBin_add (kD_i ⟨⟨i + 1, x', ?_, hil, .inr hc0, ?_, ?_⟩, ?_⟩)
    · rw [wrap_id (by omega) (by omega)]; rfl
    · rw [htg', if_neg q, List.append_nil]; omega
    · rw [htg', if_neg q, List.append_nil]; exact hS
    · rw [wrap_id (by omega) (by omega)]; show l.length - ((i : Int) + 1).toNat < l.length - (i : Int).toNat; omega
end Go.L
namespace Go.L
open Go Go.RowKit Go.Proofs
set_option linter.unusedSimpArgs false
set_option linter.unusedVariables false

theorem kJnD_inv {f : (List Value → List Deferred → World → Prop) → Prop} {a : List Value → List Deferred → World → Prop} (I : List Value → List Deferred → World → Prop) (ha : ∀ cs d W, I cs d W → a cs d W) (hf : ∀ J, (∀ cs d W, I cs d W → J cs d W) → f J) : kJnD f a := ⟨hf _ ha⟩
end Go.L
namespace Go.L
open Go Go.RowKit Go.Proofs
set_option linter.unusedSimpArgs false
set_option linter.unusedVariables false

theorem tgF_all (l : List IN) : tgF (chkC l == 0) l l.length = tgtC l := by
  unfold tgF tgtC
  by_cases h : chkC l = 0
  · rw [if_pos h, if_pos (by simpa using h)]
  · rw [if_neg h, if_neg (by simpa using h)]
theorem CodeTargets4 (l : List IN) (k many : Int) (w : World) (hT : Tab w) (lo : Option Addr) (lc : Nat) (hl : InsL w lo l) (hlen : l.length ≤ 9223372036854775807) (R : Ending → World → Prop)
    (h : ∀ W, Below w.heap.size w W → R (.returned (.bool true)) W) : Calls Tryz.prog 4 #[.slice lo l.length lc, .int .i64 k, .int .i64 many] w R := by
  refine c4 _ _ _ _ _ _ _ ?_
  unfold vc4
  refine kBox_st (St.start w) fun b5 V hS => kAlloc_st Tryz.zeroValue4 hS fun b6 V hS => ?_
  have hS : St w [.bx b5 3 #[.int .i64 many], .bx b6 4 #[.bool false]] V := hS
  refine kCall_i (Tryz.call8 _ _) (few8 60 l V lo lc (hl.below hS.below) hlen _ (kUn_not (kIf_b (fun q => ?_) (fun q => ?_))))
  · refine kCall_i (Tryz.call9 _ _) (works17 _ (hT.below hS.below) _ fun W' hB' => ?_)
    exact kSt (hS.bel hB') 1 rfl (by simp) rfl rfl rfl fun W hS => RetK_cell rfl (hS.cell 1 rfl 0 rfl) (h _ hS.below)
  simp only [Bool.not_eq_false', Bool.and_eq_true, decide_eq_true_eq] at q
  have harl : ∀ x ∈ l, x.ar.length ≤ 1000000 := fun x hx => by
    have := List.all_eq_true.1 q.2 x hx
    unfold smallI at this
    simp only [Bool.and_eq_true, decide_eq_true_eq] at this
    omega
  have hl60 : l.length ≤ 60 := by omega
  refine kCall_i (Tryz.call15 _ _) (Targets15 l V lo lc (hl.below hS.below) harl _ fun x W hSt => ?_)
  obtain ⟨aT, cT, rfl, _⟩ := Sl.of_owns (tgV_size _) (hSt.get 0 rfl) (by simp)
  have hS := hS.join hSt
  obtain ⟨T, hTdef⟩ : ∃ T : List (Nat × Int), T = tgtC l := ⟨_, rfl⟩
  rw [← hTdef] at hS
  have hS : St w [.bx b5 3 #[.int .i64 many], .bx b6 4 #[.bool false], .row (.slice aT T.length cT) 42 2 T.length (flat (T.map tgV))] W := hS
  rw [← hTdef]
  refine kAlloc_st Tryz.zeroValue34 hS fun b7 W hS => kSt hS 3 rfl (by simp [Value.cells]) rfl rfl rfl fun W hS => ?_
  have hS : St w [.bx b5 3 #[.int .i64 many], .bx b6 4 #[.bool false], .row (.slice aT T.length cT) 42 2 T.length (flat (T.map tgV)), .bx b7 34 #[.slice aT T.length cT]] W := hS
  refine kCall_i (Tryz.call16 _ _) (Targets37 l W lo lc (hl.below hS.below) harl (by omega) _ fun b1 b3 b4 bm y vs es N W5 hV hK hSt => ?_)
  have hS := hS.join hSt
  obtain ⟨L, hL⟩ : ∃ L : List Own, L = [Own.bx b5 3 #[.int .i64 many], .bx b6 4 #[.bool false], .row (.slice aT T.length cT) 42 2 T.length (flat (T.map tgV)), .bx b7 34 #[.slice aT T.length cT]] ++ ([.bx b1 22 #[y], .ob bm (.map es 21)] ++ N ++ [.bx b3 68 #[.map (some bm)]] ++ [.bx b4 4 #[.bool (chkC l == 0)]] ++ [.row y 62 10 l.length (flat vs)]) := ⟨_, rfl⟩
  have hS : St w L W5 := by rw [hL]; exact hS
  have j0 : L[0]? = some (.bx b5 3 #[.int .i64 many]) := by rw [hL]; rfl
  have j1 : L[1]? = some (.bx b6 4 #[.bool false]) := by rw [hL]; rfl
  have j2 : L[2]? = some (.row (.slice aT T.length cT) 42 2 T.length (flat (T.map tgV))) := by rw [hL]; rfl
  have j3 : L[3]? = some (.bx b7 34 #[.slice aT T.length cT]) := by rw [hL]; rfl
  have hTg : TgA b1 b3 b4 bm y l.length vs es N (chkC l == 0) L := by
    have mem : ∀ {o : Own}, o ∈ L → ∃ j : Nat, L[j]? = some o := fun ho => List.mem_iff_getElem?.1 ho
    refine ⟨mem (by rw [hL]; simp), mem (by rw [hL]; simp), mem (by rw [hL]; simp), mem (by rw [hL]; simp), fun o ho => by rw [hL]; simp [ho], mem (by rw [hL]; simp)⟩
  clear hL
  have hTl : T.length ≤ 1000000 := by
    have : T.length ≤ 2 * l.length := by
      rw [hTdef]
      unfold tgtC
      split
      · rename_i hc0
        obtain ⟨_, hright⟩ := chkC_all hc0
        have key : ∀ i, i ≤ l.length → (tgtN l i).length ≤ 2 * i := by
          intro i
          induction i with
          | zero => intro _; exact Nat.le_refl _
          | succ i ih =>
            intro hi
            have hxr := hright l[i] (List.getElem_mem (by omega))
            have hk : 1 ≤ l[i].k ∧ l[i].k ≤ 21 := by
              unfold rightC at hxr
              simp only [Bool.and_eq_true, decide_eq_true_eq] at hxr
              exact hxr.1
            have e : tgtN l (i + 1) = tgtN l i ++ tgJ (formB l[i].k) i l[i] := by
              show tgtN l i ++ tgtI i (l.getD i in0) _ = _
              rw [show l.getD i in0 = l[i] by simp [show i < l.length by omega], tgJ_eq i l[i] hk]
            rw [e, List.length_append]
            have := tgJ_len (formB l[i].k) i l[i]
            have := ih (by omega)
            omega
        exact key _ (Nat.le_refl _)
      · simp
    omega
  refine kJn_inv (fun cs V => St w L V) ?_ ?_
  rotate_left
  · intro J hJ
    refine kEq_fn77 (kIf_f (kCall_i (Tryz.call17 _ _) (Name17 k _ _ fun W hB => kCall_i (Tryz.call18 _ _) (Name18 k W _ fun W2 hB2 => ?_))))
    exact kNe_str (kIf_b (fun q => by simp at q) (fun _ => kD_i (hJ _ _ ((hS.bel hB).bel hB2))))
  rintro cs V0 hS ds0
  refine kAlloc_st Tryz.zeroValue3 hS fun b9 W hS => kSt hS _ at_r (by simp [Value.cells]) rfl rfl rfl fun W hS => ?_
  rw [set_r] at hS
  refine ⟨⟨fun cs d W => ∃ (t : Nat) (b9 : Nat) (ds : List Nat), cs = [.pointer (some ⟨b9, 0, none⟩)] ∧ d = ds.map markOf ∧ ds.Nodup ∧ (∀ D ∈ ds, w.heap.size ≤ D) ∧ ds.length = t ∧ t ≤ 2 ∧ St w (L ++ [.bx b9 3 #[.int .i64 t]] ++ marks ds) W, fun _ d _ => 2 - d.length, ⟨0, b9, [], rfl, rfl, by simp, by simp, rfl, by omega, by rw [show marks [] = [] from rfl, List.append_nil]; exact hS⟩, ?_⟩⟩
  rintro cs ds' d W ⟨t, b9, ds, rfl, rfl, hnd, hge, hdl, ht2, hS⟩
  dsimp only [List.getD_cons_zero]
  refine kLd hS _ (at_l at_r) rfl rfl (kBin_lss (kIf_d (fun hlt => ?_) (fun hge2 => ?_)))
  rotate_left
  · refine kCall_i (Tryz.call9 _ _) (works17 _ (hT.below hS.below) _ fun W' hB' => ?_)
    refine kSt (hS.bel hB') 1 (at_l (at_l j1)) (by simp) rfl rfl rfl fun V m3 => ?_
    rw [set_l _ (at_l j1), set_l _ j1] at m3
    exact Lv_mks (by simp) hnd m3 1 (at_l (by rw [List.getElem?_set_self (by exact (List.getElem?_eq_some_iff.1 j1).1)])) (fun V hB h4 => RetK_cell rfl (by rw [cell_of_row V b6 0 _ 4 (0, 0) h4]; rfl) (h V hB)) rfl
  have ht : t = 0 ∨ t = 1 := by omega
  refine kJnD_inv (fun _ d V => ∃ D, d = (D :: ds).map markOf ∧ (D :: ds).Nodup ∧ w.heap.size ≤ D ∧ St w (L ++ [.bx b9 3 #[.int .i64 t]] ++ marks (D :: ds)) V) ?_ ?_
  · rintro cs d V ⟨D, rfl, hnd', hgeD, hS⟩ ds2
    refine kLd hS _ (at_l at_r) rfl rfl (kAlloc_st Tryz.zeroValue3 hS fun b9' V hS => ?_)
    refine kSt hS _ at_r (by simp [Value.cells]) rfl rfl rfl fun V hS => ?_
    rw [set_r] at hS
    refine kLd hS _ at_r rfl rfl (kBin_add (kSt hS _ at_r (by simp [Value.cells]) rfl rfl rfl fun V hS => ?_))
    rw [set_r, wrap_id (by omega) (by omega)] at hS
    have hS : St w (L ++ [.bx b9' 3 #[.int .i64 ((t + 1 : Nat) : Int)]] ++ marks (D :: ds)) V := by
      have h1 : St w (L ++ marks (D :: ds) ++ [.bx b9' 3 #[.int .i64 ((t + 1 : Nat) : Int)]]) V :=
        hS.sub (List.Sublist.append (List.Sublist.append (List.sublist_append_left _ _) (List.Sublist.refl _)) (List.Sublist.refl _))
      have := h1.ins L.length
      have e1 : (L ++ marks (D :: ds)).take L.length = L := by simp
      have e2 : (L ++ marks (D :: ds)).drop L.length = marks (D :: ds) := by simp
      rw [e1, e2] at this
      rw [List.append_assoc]; exact this
    refine ⟨⟨t + 1, b9', D :: ds, rfl, rfl, hnd', ?_, by simp [hdl], by omega, hS⟩, by simp; omega⟩
    intro D' hD'
    rcases List.mem_cons.1 hD' with rfl | hD'
    · exact hgeD
    · exact hge D' hD'
  intro J1 hJ1
  refine kAlloc_st Tryz.zeroValue3 hS fun b10 W hS => kSt hS _ at_r (by simp [Value.cells]) rfl rfl rfl fun W hS => ?_
  rw [set_r] at hS
  have hS : St w (L ++ [.bx b9 3 #[.int .i64 t]] ++ [.bx b10 3 #[.int .i64 0]] ++ marks ds) W := by
    refine hS.perm ?_
    rw [List.append_assoc (L ++ [Own.bx b9 3 #[.int .i64 t]]), List.append_assoc (L ++ [Own.bx b9 3 #[.int .i64 t]])]
    exact List.Perm.append_left _ List.perm_append_comm
  refine kJnD_inv (fun _ d V => ∃ (D c : Nat), d = (D :: ds).map markOf ∧ (D :: ds).Nodup ∧ w.heap.size ≤ D ∧ (t = 0 → (c : Int) = if (if many > 1 then many else 1) < (T.length : Int) then (if many > 1 then many else 1) else (T.length : Int)) ∧ (t = 1 → c = T.length) ∧ St w (L ++ [.bx b9 3 #[.int .i64 t]] ++ [.bx b10 3 #[.int .i64 (c : Nat)]] ++ marks (D :: ds)) V) ?_ ?_
  · rintro cs d V ⟨D, c, rfl, hnd', hgeD, hc0, hc1, hS⟩ ds2
    have fin : J1 [] ((D :: ds).map markOf) V := hJ1 _ _ _ ⟨D, rfl, hnd', hgeD, hS.sub (List.Sublist.append (List.sublist_append_left _ _) (List.Sublist.refl _))⟩
    refine kLd hS _ (at_l (at_l at_r)) rfl rfl ?_
    rcases ht with rfl | rfl
    · refine kEq_int (kIf_eq (fun _ => ?_) (fun q => absurd rfl q))
      refine kLd hS _ (at_l at_r) rfl rfl (kLd hS 3 (at_l (at_l (at_l j3))) rfl rfl (xLen34 (kLd hS 0 (at_l (at_l (at_l j0))) rfl rfl (kMax2 (kMin2 ?_)))))
      rw [hc0 rfl]
      refine kNe_int (kIf_ne (fun q => absurd rfl q) (fun _ => ?_))
      exact kLd hS _ (at_l (at_l at_r)) rfl rfl (kEq_int (kIf_eq (fun q => by simp at q) (fun _ => kIf_f fin)))
    · refine kEq_int (kIf_eq (fun q => by simp at q) (fun _ => ?_))
      refine kLd hS _ (at_l (at_l at_r)) rfl rfl (kEq_int (kIf_eq (fun _ => ?_) (fun q => absurd rfl q)))
      refine kLd hS _ (at_l at_r) rfl rfl (kLd hS 3 (at_l (at_l (at_l j3))) rfl rfl (xLen34 ?_))
      rw [hc1 rfl]
      exact kNe_int (kIf_ne (fun q => absurd rfl q) (fun _ => fin))
  intro J2 hJ2
  have hdlt : ∀ D ∈ ds, D < W.heap.size := fun D hD => (Own.lt (hS.all (.ob D (.deferred (some []))) (List.mem_append_right _ (List.mem_map.2 ⟨D, hD, rfl⟩))) D rfl).2
  have hTe := tgF_all l
  rw [← hTdef] at hTe
  refine kRange_fr (w0 := w) (tgF (chkC l == 0) l l.length).length (fun i => tgX (chkC l == 0) l i)
    (fun i X => X = L ++ [.bx b9 3 #[.int .i64 t]] ++ [.bx b10 3 #[.int .i64 (i : Nat)]] ∧ (t = 0 → i = 0 ∨ (i : Int) < many))
    (fun ex X => ex = .exit 2 ∧ t = 0 ∧ ∃ c : Nat, X = L ++ [.bx b9 3 #[.int .i64 t]] ++ [.bx b10 3 #[.int .i64 (c : Nat)]] ∧ (c : Int) = if (if many > 1 then many else 1) < (T.length : Int) then (if many > 1 then many else 1) else (T.length : Int))
    (fun _ => rfl) ⟨_, ⟨rfl, fun _ => .inl rfl⟩, hS⟩ hnd hdlt ?_ (iterS61 (l := l) (vs := vs) hV.sh hK (by omega) (fun i X hX => by rw [hX.1]; exact (hTg.app _).app _)) ?_ ?_ ?_ ?_
  · rintro i l1 D lo1 W1 X E hi ⟨rfl, hbm⟩ hV
    rw [hTe] at hi
    have hx : tgX (chkC l == 0) l i = [.int .i64 (T[i].1 : Nat), .int .i64 T[i].2] := by
      unfold tgX
      rw [hTe, show T.getD i (0, 0) = T[i] by simp [hi]]
    rw [hx]
    try dsimp only [List.getD_cons_zero, List.getD_cons_succ]
    refine rndMid_fr hV (N := []) (by rw [List.append_nil]; exact hV) fun lo2 V hV2 => ?_
    rw [List.append_nil] at hV2
    refine kJn_inv (fun cs V => St w (L ++ [.bx b9 3 #[.int .i64 t]] ++ [.bx b10 3 #[.int .i64 (i : Nat)]] ++ marks ds ++ lpD l1 lo2 D ++ E) V) ?_ ?_
    rotate_left
    · intro J3 hJ3
      have hsl := hV2.sl 2 (vs := T.map tgV) (at_l (at_l (at_l (at_l (at_l j2))))) (tgV_size _) (by simp)
      obtain ⟨pb, po, ha, hpb, hpr⟩ := hsl.elem (i := i) (v := tgV T[i]) (by simp [hi])
      refine kLd hV2 _ (at_l (at_l (at_l at_r))) rfl rfl (kLd hV2 3 (at_l (at_l (at_l (at_l (at_l j3))))) rfl rfl (xLen34 (kBin_geq (kIf_d (fun q => by omega) (fun q => ?_)))))
      refine kLd hV2 3 (at_l (at_l (at_l (at_l (at_l j3))))) rfl rfl (kLd hV2 _ (at_l (at_l (at_l at_r))) rfl rfl ?_)
      rw [ha]
      refine xIa34 hi (xFa42_0 (kLdS rfl (hpr 0 (.int .i64 (T[i].1 : Nat)) rfl) (kNe_int (kIf_ne (fun q => absurd rfl q) (fun _ => ?_)))))
      refine kLd hV2 3 (at_l (at_l (at_l (at_l (at_l j3))))) rfl rfl (kLd hV2 _ (at_l (at_l (at_l at_r))) rfl rfl ?_)
      rw [ha]
      exact xIa34 hi (xFa42_1 (kLdS rfl (hpr 1 (.int .i64 T[i].2) rfl) (kNe_int (kIf_ne (fun q => absurd rfl q) (fun _ => kD_i (hJ3 _ _ hV2))))))
    rintro cs V3 hV3 ds5
    refine kLd hV3 _ (at_l (at_l (at_l at_r))) rfl rfl (kBin_add (kSt hV3 _ (at_l (at_l (at_l at_r))) (by simp) rfl rfl rfl fun V4 hV4 => ?_))
    rw [set_l _ (at_l (at_l at_r)), set_l _ (at_l at_r), set_l _ at_r, set_r, wrap_id (by omega) (by omega)] at hV4
    have hV4 : St w (L ++ [.bx b9 3 #[.int .i64 t]] ++ [.bx b10 3 #[.int .i64 ((i + 1 : Nat) : Int)]] ++ marks ds ++ lpD l1 lo2 D ++ E) V4 := hV4
    have hV4' : St w (L ++ [.bx b9 3 #[.int .i64 t]] ++ [.bx b10 3 #[.int .i64 ((i + 1 : Nat) : Int)]] ++ marks ds ++ lpD l1 lo2 D ++ E ++ []) V4 := by rw [List.append_nil]; exact hV4
    refine kLd hV4 _ (at_l (at_l (at_l (at_l at_r)))) rfl rfl ?_
    rcases ht with rfl | rfl
    · refine kEq_int (kIf_eq (fun _ => ?_) (fun q => absurd rfl q))
      have hb0 := hbm rfl
      refine kLd hV4 _ (at_l (at_l (at_l at_r))) rfl rfl (kLd hV4 0 (at_l (at_l (at_l (at_l (at_l j0))))) rfl rfl (kBin_geq (kIf_d (fun hg => ?_) (fun hg => ?_))))
      · refine rndEnd_fr hV (N := []) hV4' fun hV5 => ⟨lo2, _, ⟨rfl, rfl, i + 1, rfl, ?_⟩, hV5⟩
        split <;> split <;> omega
      · exact rndEnd_fr hV (N := []) hV4' fun hV5 => ⟨lo2, _, ⟨rfl, fun _ => .inr (by omega)⟩, hV5⟩
    · refine kEq_int (kIf_eq (fun q => by simp at q) (fun _ => kIf_f ?_))
      exact rndEnd_fr hV (N := []) hV4' fun hV5 => ⟨lo2, _, ⟨rfl, fun q => by omega⟩, hV5⟩
  · rintro D V X ⟨rfl, hb0⟩ m1 m2 m3
    rw [hTe] at hb0 m3
    refine hJ2 _ _ _ ⟨D, T.length, rfl, m1, m2, fun q => ?_, fun _ => rfl, m3⟩
    have := hb0 q
    split <;> split <;> omega
  · rintro D V X ⟨he, _⟩; cases he
  · rintro id D V X ⟨he, ht0, c, rfl, hc⟩ m1 m2 m3
    cases he
    have hj : J2 [] ((D :: ds).map markOf) V := hJ2 _ _ _ ⟨D, c, rfl, m1, m2, fun _ => hc, fun q => by omega, m3⟩
    exact ⟨hj⟩
  · rintro ch D V X ⟨he, _⟩; cases he
end Go.L
