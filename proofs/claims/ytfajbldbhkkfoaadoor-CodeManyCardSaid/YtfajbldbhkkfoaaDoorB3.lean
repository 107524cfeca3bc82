/- Contracts of single functions: no condition but those that each states. -/
import Derived.Test.YtfajbldbhkkfoaaDoorB2
set_option linter.unusedVariables false
set_option linter.unusedSimpArgs false
namespace Go.L
open Go Go.RowKit Go.Proofs
set_option linter.unusedSimpArgs false
set_option linter.unusedVariables false

def slen : Value → Nat
  | .slice _ n _ => n
  | _ => 0
theorem slen_owns {W : World} {base : Nat} {e : TypeId} {sz n : Nat} {x : Value} {xs : List Value} (h : W.ownsRow base e sz x n xs) : slen x = n := by
  rcases h.2 with ⟨rfl, rfl⟩ | ⟨g, cap, cur, rfl, _⟩ <;> rfl
theorem set_same {L : List Own} {i : Nat} {o : Own} (h : L[i]? = some o) : L.set i o = L := by
  obtain ⟨hl, he⟩ := List.getElem?_eq_some_iff.1 h
  rw [← he]; exact List.set_getElem_self hl
theorem set_at {L : List Own} {i : Nat} {o o' : Own} (h : L[i]? = some o) : (L.set i o')[i]? = some o' := by rw [List.getElem?_set_self (List.getElem?_eq_some_iff.1 h).1]
theorem drop_cons {bs : List Nat} {k : Nat} (h : k < bs.length) : ∃ c, bs.drop k = c :: bs.drop (k + 1) ∧ c ∈ bs := ⟨bs[k], List.drop_eq_getElem_cons h, List.getElem_mem h⟩
/-- A byte that was taken is read. -/
theorem kTaken {X : Chain → World → Prop} {q : Bool} {W : World} {a2 : Option Addr} {c : Nat} {k : Value → World → Prop} (hT : Bs W a2 1 1 [c]) (h : k (.int .u8 c) W) : kIa ⟨Tryd.prog, X, q⟩ W 25 (.slice a2 1 1) (.int .i64 0) fun v w => kLoad ⟨Tryd.prog, X, q⟩ w 5 v k := by
  obtain ⟨pb, po, rfl, hpb, hpr⟩ := hT.sl.elem (i := 0) (v := vB c) rfl
  exact xIa25 (i := 0) (by omega) (kLdS rfl (hpr 0 _ rfl) h)
theorem text51 {w0 W : World} {L : List Own} (hS : St w0 L W) (i : Nat) {b : Nat} {a : Option Addr} {n cp : Nat} {bs : List Nat} (hi : L[i]? = some (.bx b 64 #[.slice a n cp])) (hM : ∀ V o, St w0 (L.set i o) V → Bs V a n cp bs) (hbyte : ∀ b ∈ bs, b < 256) (hn : cp ≤ 9223372036854775807) (hsm : n ≤ 1000000) (R : Ending → World → Prop)
    (h0 : ∀ t m, readT bs = some (t, m) → ∀ a' cp' W', cp' ≤ cp → (∀ V, Bs V a n cp bs → Bs V a' (n - m) cp' (bs.drop m)) → St w0 (L.set i (.bx b 64 #[.slice a' (n - m) cp'])) W' → R (.returned (.string (mkS t))) W')
    (h1 : readT bs = none → ∀ a' n' cp' W', St w0 (L.set i (.bx b 64 #[.slice a' n' cp'])) W' → R (.panicked [pe 200 false]) W') : Calls Tryd.prog 51 #[.pointer (some ⟨b, 0, none⟩)] W R := by
  have hB := hM W _ (by rw [set_same hi]; exact hS)
  have hlen := hB.len
  have hcap := hB.cap
  refine c51 _ _ _ ?_
  unfold vc51
  refine ⟨⟨fun cs V => ∃ (acc : List Nat) (x : Value) (k : Nat) (a' : Option Addr) (cp' : Nat), cs = [x] ∧ slen x = acc.length ∧ k ≤ n ∧ acc.length ≤ k ∧ (∀ b ∈ acc, b < 256) ∧ cp' ≤ cp ∧ n - k ≤ cp' ∧ (∀ V, Bs V a n cp bs → Bs V a' (n - k) cp' (bs.drop k)) ∧ readT bs = (readT (bs.drop k)).map (fun p => (acc ++ p.1, k + p.2)) ∧
      St w0 (L.set i (.bx b 64 #[.slice a' (n - k) cp']) ++ [.row x 5 1 acc.length (acc.map vB)]) V, fun cs _ => n + 1 - (match cs with | [x] => slen x | _ => 0), ⟨[], _, 0, a, cp, rfl, rfl, Nat.zero_le _, Nat.zero_le _, by simp, Nat.le_refl _, hcap, fun V q => q, by simp, ?_⟩, ?_⟩⟩
  · rw [Nat.sub_zero, set_same hi]
    exact hS.adopt (o := .row (.slice none 0 0) 5 1 0 []) (World.ownsRow_nil _ _ _ _) (fun p _ => by cases p.blk with | none => exact .inl rfl | some k => exact .inr (by simp [Own.blk, Value.ownBlock]))
  rintro cs ds V ⟨acc, x, k, a1, cp1, rfl, hsl, hkn, hak, hab, hcp1, hcap1, hB1, heq, hV⟩
  dsimp only [List.getD_cons_zero]
  have hi1 : (L.set i (.bx b 64 #[.slice a1 (n - k) cp1]))[i]? = some (.bx b 64 #[.slice a1 (n - k) cp1]) := set_at hi
  have bad : ∀ {a' : Option Addr} {n' cp' : Nat} {W' : World}, readT (bs.drop k) = none → St w0 (L.set i (.bx b 64 #[.slice a' n' cp']) ++ [.row x 5 1 acc.length (acc.map vB)]) W' → R (.panicked [pe 200 false]) W' :=
    fun hq hW => h1 (by rw [heq, hq]; rfl) _ _ _ _ hW.init
  refine kNil_p (xFa64_0 (kCall_i (Tryd.call50 _ _) (take50b hV i (at_l hi1) hcap1 1 (by omega) _ (fun hl a2 cp2 a3 W2 hcp2 hcap2 hB2 hT hS2 => ?_) (fun hlt => ?_))))
  · rw [set_l _ hi1, List.set_set] at hS2
    have hkl : k < bs.length := by omega
    obtain ⟨c, hc, hcm⟩ := drop_cons hkl
    have hB2 : ∀ V, Bs V a n cp bs → Bs V a2 (n - k - 1) cp2 (bs.drop (k + 1)) := fun V q => by
      have := hB2 V _ (hB1 V q)
      rwa [List.drop_drop] at this
    have hT2 := hT _ _ (hB1 _ (hM W2 _ hS2.init))
    rw [hc, List.take_succ_cons, List.take_zero] at hT2
    have hcb := hbyte c hcm
    have hi2 : (L.set i (.bx b 64 #[.slice a2 (n - k - 1) cp2]))[i]? = some (.bx b 64 #[.slice a2 (n - k - 1) cp2]) := set_at hi
    refine kTaken hT2 ?_
    refine kJn_inv (fun cs V => ∃ k' a' cp', k < k' ∧ k' ≤ n ∧ cp' ≤ cp ∧ n - k' ≤ cp' ∧ (∀ V, Bs V a n cp bs → Bs V a' (n - k') cp' (bs.drop k')) ∧ readT (bs.drop k) = (readT (bs.drop k')).map (fun p => (c :: p.1, k' - k + p.2)) ∧ St w0 (L.set i (.bx b 64 #[.slice a' (n - k') cp']) ++ [.row x 5 1 acc.length (acc.map vB)]) V) ?_ ?_
    · rintro cs V2 ⟨k', a', cp', hkk, hkn', hcp', hcap', hB', heq', hV2⟩ ds
      refine kApp1_st (xE25 V2) hV2 _ at_r (v := vB c) rfl (by simp [vB, Value.cells, Value.oneCell']) (by simp only [maxLen]; omega) (by omega) fun x' V3 hV3 => ?_
      rw [set_r] at hV3
      have hl3 := slen_owns (hV3.get _ at_r)
      refine kD_i ⟨⟨acc ++ [c], x', k', a', cp', rfl, by rw [hl3]; simp, hkn', by simp; omega, fun b hb => ?_, hcp', hcap', hB', ?_, ?_⟩, ?_⟩
      · rcases List.mem_append.1 hb with hb | hb
        · exact hab b hb
        · simp at hb; omega
      · rw [heq, heq']
        cases readT (bs.drop k') with
        | none => rfl
        | some p => simp; omega
      · have e : (acc ++ [c]).map vB = acc.map vB ++ (vB c).cells.toList := by simp [vB, Value.cells]
        rw [e, List.length_append]; exact hV3
      · show n + 1 - slen x' < n + 1 - slen x
        rw [hl3, hsl]; omega
    · intro J hJ
      refine kEq_int (kIf_eq (fun e0 => ?_) (fun e0 => kD_i (hJ _ _ ⟨k + 1, a2, cp2, by omega, by omega, by omega, by omega, by rw [show n - (k + 1) = n - k - 1 by omega]; exact hB2, ?_, by rw [show n - (k + 1) = n - k - 1 by omega]; exact hS2⟩)))
      · have e0 : c = 0 := by omega
        refine kNil_p (xFa64_0 (kCall_i (Tryd.call50 _ _) (take50b hS2 i (at_l hi2) hcap2 1 (by omega) _ (fun hl2 a4 cp4 a5 W4 hcp4 hcap4 hB4 hT4 hS4 => ?_) (fun hlt => ?_))))
        · rw [set_l _ hi2, List.set_set] at hS4
          have hkl2 : k + 1 < bs.length := by omega
          obtain ⟨d, hd, hdm⟩ := drop_cons hkl2
          have hB4 : ∀ V, Bs V a n cp bs → Bs V a4 (n - k - 1 - 1) cp4 (bs.drop (k + 2)) := fun V q => by
            have := hB4 V _ (hB2 V q)
            rwa [List.drop_drop] at this
          have hT4 := hT4 _ _ (hB2 _ (hM W4 _ hS4.init))
          rw [hd, List.take_succ_cons, List.take_zero] at hT4
          have hdb := hbyte d hdm
          have hrd : bs.drop k = 0 :: d :: bs.drop (k + 1 + 1) := by rw [hc, e0, hd]
          refine kTaken hT4 ?_
          refine kJn_inv (fun cs V => V = W4 ∧ (d = 1 ∨ d = 255)) ?_ ?_
          · rintro cs V2 ⟨rfl, hd'⟩ ds
            refine kIx_i (v := .int .u8 1) (fun w => by kernel_rfl) (kEq_int (kIf_eq (fun e1 => ?_) (fun e1 => kD_i (hJ _ _ ⟨k + 2, a4, cp4, by omega, by omega, by omega, by omega, by rw [show n - (k + 2) = n - k - 1 - 1 by omega]; exact hB4, ?_, by rw [show n - (k + 2) = n - k - 1 - 1 by omega]; exact hS4⟩))))
            · have e1 : d = 1 := by omega
              have hown := hS4.get _ at_r
              obtain ⟨xa, xc, rfl, hxB⟩ := Bs.of_owns (bs := acc) hown
              refine kCv_str hxB ?_
              have hr : readT bs = some (acc, k + 2) := by rw [heq, hrd, e1, readT_zero1]; simp
              refine h0 acc (k + 2) hr a4 cp4 _ (by omega) ?_ ?_
              · rw [show n - (k + 2) = n - k - 1 - 1 by omega]; exact hB4
              · rw [show n - (k + 2) = n - k - 1 - 1 by omega]; exact hS4.init
            · rw [hrd, show d = 255 by omega, readT_zero255, e0]
              congr 1
              funext p
              simp; omega
          · intro J1 hJ1
            refine kIx_i (v := .int .u8 1) (fun w => by kernel_rfl) (kEq_int (kIf_eq (fun e1 => kCall_i (Tryd.call31 _ _) (must44 _ _ _ _ (fun _ => kD_i (hJ1 _ _ ⟨rfl, .inl (by omega)⟩)) (fun q => by cases q))) (fun e1 => kEq_int (kCall_i (Tryd.call31 _ _) (must44 _ _ _ _ (fun q => kD_i (hJ1 _ _ ⟨rfl, .inr ?_⟩)) (fun q => bad ?_ hS4))))))
            · simp at q; omega
            · simp at q; rw [hrd, readT_zero _ (by omega) (by omega)]
        · refine bad ?_ hS2
          rw [hc, e0, List.drop_eq_nil_of_le (by omega)]; rfl
      · rw [hc, readT_c _ (by omega)]
        congr 1
        funext p
        simp; omega
  · refine bad ?_ hV
    rw [List.drop_eq_nil_of_le (by omega)]; rfl
end Go.L
namespace Go.L
open Go Go.RowKit Go.Proofs
set_option linter.unusedSimpArgs false
set_option linter.unusedVariables false

theorem or_low (n c : Nat) (hc : c < 256) (hn : n * 256 + c < 18446744073709551616) : bits .or .u64 ((n * 256 : Nat) : Int) (c : Int) = ((n * 256 + c : Nat) : Int) := by
  have h1 : ((BitVec.ofInt 64 ((n * 256 : Nat) : Int)) ||| (BitVec.ofInt 64 (c : Int))).toNat = n * 256 + c := by
    rw [BitVec.toNat_or, BitVec.toNat_ofInt, BitVec.toNat_ofInt]
    have e1 : (((n * 256 : Nat) : Int) % ((2 ^ 64 : Nat) : Int)).toNat = n * 256 := by omega
    have e2 : ((c : Int) % ((2 ^ 64 : Nat) : Int)).toNat = c := by omega
    rw [e1, e2, show n * 256 = 2 ^ 8 * n by omega, ← Nat.two_pow_add_eq_or_of_lt (show c < 2 ^ 8 by omega)]
  show IntKind.u64.wrap (((BitVec.ofInt 64 ((n * 256 : Nat) : Int)) ||| (BitVec.ofInt 64 (c : Int))).toNat : Int) = _
  rw [h1]; exact u64_wrap hn
theorem nxor_lt (n : Nat) (h : n < 2 ^ 63) : n ^^^ 2 ^ 63 = 2 ^ 63 + n := by
  apply Nat.eq_of_testBit_eq
  intro i
  rw [Nat.testBit_xor, Nat.testBit_two_pow]
  rcases Nat.lt_trichotomy i 63 with h1 | rfl | h1
  · rw [Nat.testBit_two_pow_add_gt h1]
    have : ¬ 63 = i := by omega
    simp [this]
  · rw [Nat.testBit_two_pow_add_eq]
    simp
  · have p : 2 ^ 64 ≤ 2 ^ i := Nat.pow_le_pow_right (by omega) (by omega)
    rw [Nat.testBit_lt_two_pow (show n < 2 ^ i by omega), Nat.testBit_lt_two_pow (show 2 ^ 63 + n < 2 ^ i by omega)]
    have : ¬ 63 = i := by omega
    simp [this]
theorem nxor (n : Nat) (h : n < 2 ^ 64) : n ^^^ 2 ^ 63 = if n < 2 ^ 63 then n + 2 ^ 63 else n - 2 ^ 63 := by
  split
  · rename_i h1; rw [nxor_lt n h1, Nat.add_comm]
  · rename_i h1
    have e : n = (n - 2 ^ 63) ^^^ 2 ^ 63 := by rw [nxor_lt _ (by omega)]; omega
    conv => lhs; rw [e]
    rw [Nat.xor_assoc, Nat.xor_self, Nat.xor_zero]
theorem xor_top (n : Nat) (h : n < 18446744073709551616) : bits .xor .u64 (n : Int) 9223372036854775808 = ((if n < 9223372036854775808 then n + 9223372036854775808 else n - 9223372036854775808 : Nat) : Int) := by
  have h1 : ((BitVec.ofInt 64 (n : Int)) ^^^ (BitVec.ofInt 64 9223372036854775808)).toNat = if n < 9223372036854775808 then n + 9223372036854775808 else n - 9223372036854775808 := by
    rw [BitVec.toNat_xor, BitVec.toNat_ofInt, BitVec.toNat_ofInt]
    have e1 : ((n : Int) % ((2 ^ 64 : Nat) : Int)).toNat = n := by omega
    have e2 : ((9223372036854775808 : Int) % ((2 ^ 64 : Nat) : Int)).toNat = 2 ^ 63 := by decide
    rw [e1, e2, nxor n h]
  show IntKind.u64.wrap (((BitVec.ofInt 64 (n : Int)) ^^^ (BitVec.ofInt 64 9223372036854775808)).toNat : Int) = _
  rw [h1]
  refine u64_wrap ?_
  split <;> omega
/-- A number, turned, as an int64. -/
theorem kTop {X : Chain → World → Prop} {q : Bool} {w : World} {k : Value → World → Prop} {n : Nat} (h : n < 18446744073709551616) (hk : k (.int .i64 ((n : Int) - 9223372036854775808)) w) :
    kBin ⟨Tryd.prog, X, q⟩ w .xor 71 (.int .u64 n) (.int .u64 9223372036854775808) fun v w => kConv ⟨Tryd.prog, X, q⟩ w 71 2 v k := by
  refine kBin_xor ?_
  rw [xor_top n h]
  refine kConv_int (c := ⟨Tryd.prog, X, q⟩) (q' := .i64) (by rw [show (Cx.mk Tryd.prog X q).P.underlying 71 = _ from Tryd.underlying71]; rfl) Tryd.underlying2 ?_
  have : IntKind.i64.wrap ((if n < 9223372036854775808 then n + 9223372036854775808 else n - 9223372036854775808 : Nat) : Int) = (n : Int) - 9223372036854775808 := by
    split <;> (simp [IntKind.wrap, IntKind.bits, IntKind.signed]; omega)
  rw [this]; exact hk
theorem beV_snoc (l : List Nat) (c : Nat) : beV (l ++ [c]) = beV l * 256 + c := by simp [beV, List.foldl_append]
theorem beF_lt : ∀ (l : List Nat) (acc : Nat), (∀ b ∈ l, b < 256) → l.foldl (fun n c => n * 256 + c) acc < (acc + 1) * 256 ^ l.length
  | [], acc, _ => by simp
  | c :: l, acc, h => by
    have h1 := beF_lt l (acc * 256 + c) (fun b hb => h b (List.mem_cons_of_mem _ hb))
    have h2 := h c (List.mem_cons_self ..)
    rw [List.foldl_cons, List.length_cons, Nat.pow_succ]
    refine Nat.lt_of_lt_of_le h1 ?_
    rw [Nat.mul_comm (256 ^ l.length), ← Nat.mul_assoc]
    exact Nat.mul_le_mul_right _ (by omega)
theorem beV_lt (l : List Nat) (h : ∀ b ∈ l, b < 256) : beV l < 256 ^ l.length := by
  have := beF_lt l 0 h
  simpa [beV] using this
/-- One byte more of a number. -/
theorem kShl8 {X : Chain → World → Prop} {q : Bool} {w : World} {k : Value → World → Prop} {n c : Nat} (hn : n * 256 + c < 18446744073709551616) (hc : c < 256) (hk : k (.int .u64 ((n * 256 + c : Nat) : Int)) w) :
    kBin ⟨Tryd.prog, X, q⟩ w .shl 71 (.int .u64 n) (.int .u64 8) fun v1 w1 => kConv ⟨Tryd.prog, X, q⟩ w1 5 71 (.int .u8 c) fun v2 w2 => kBin ⟨Tryd.prog, X, q⟩ w2 .or 71 v1 v2 k := by
  refine kBin_shl (by omega) (by simp [IntKind.bits]) ?_
  have hlt : n * 256 < 18446744073709551616 := Nat.lt_of_le_of_lt (Nat.le_add_right _ _) hn
  have e : IntKind.u64.wrap ((n : Int) * 2 ^ (8 : Int).toNat) = ((n * 256 : Nat) : Int) := by
    have e8 : (n : Int) * 2 ^ (8 : Int).toNat = ((n * 256 : Nat) : Int) := by show (n : Int) * 2 ^ 8 = _; omega
    rw [e8]
    exact u64_wrap hlt
  rw [e]
  exact kCv5_84 hc (kBin_or (by rw [or_low n c hc hn]; exact hk))
theorem kShl8' {X : Chain → World → Prop} {q : Bool} {w : World} {k : Value → World → Prop} {n : Nat} (hn : n * 256 < 18446744073709551616) (hk : k (.int .u64 ((n * 256 : Nat) : Int)) w) :
    kBin ⟨Tryd.prog, X, q⟩ w .shl 71 (.int .u64 n) (.int .u64 8) k := by
  refine kBin_shl (by omega) (by simp [IntKind.bits]) ?_
  have e : IntKind.u64.wrap ((n : Int) * 2 ^ (8 : Int).toNat) = ((n * 256 : Nat) : Int) := by
    have e8 : (n : Int) * 2 ^ (8 : Int).toNat = ((n * 256 : Nat) : Int) := by show (n : Int) * 2 ^ 8 = _; omega
    rw [e8]
    exact u64_wrap hn
  rw [e]; exact hk
theorem kCv5_3 {X : Chain → World → Prop} {q : Bool} {w : World} {k : Value → World → Prop} {a : Nat} (ha : a < 256) (h : k (.int .i64 (a : Int)) w) : kConv ⟨Tryd.prog, X, q⟩ w 5 3 (.int .u8 a) k :=
  kConv_int (c := ⟨Tryd.prog, X, q⟩) (q' := .i64) (by rw [show (Cx.mk Tryd.prog X q).P.underlying 5 = _ from Tryd.underlying5]; rfl) Tryd.underlying3 (by rw [wrap_id (by omega) (by omega)]; exact h)
theorem value30 {w0 W : World} {L : List Own} (hS : St w0 L W) (i : Nat) {b : Nat} {a : Option Addr} {n cp : Nat} {bs : List Nat} (hi : L[i]? = some (.bx b 64 #[.slice a n cp])) (hM : ∀ V o, St w0 (L.set i o) V → Bs V a n cp bs) (hbyte : ∀ b ∈ bs, b < 256) (hn : cp ≤ 9223372036854775807) (hsm : n ≤ 1000000) (R : Ending → World → Prop)
    (h0 : ∀ r m, readK bs = some (r, m) → ∀ a' cp' W', cp' ≤ cp → (∀ V, Bs V a n cp bs → Bs V a' (n - m) cp' (bs.drop m)) → St w0 (L.set i (.bx b 64 #[.slice a' (n - m) cp'])) W' → R (.returned (vVal r)) W')
    (h1 : readK bs = none → ∀ a' n' cp' W', St w0 (L.set i (.bx b 64 #[.slice a' n' cp'])) W' → R (.panicked [pe 200 false]) W') : Calls Tryd.prog 30 #[.pointer (some ⟨b, 0, none⟩)] W R := by
  have hB := hM W _ (by rw [set_same hi]; exact hS)
  have hlen := hB.len
  have hcap := hB.cap
  refine c30 _ _ _ ?_
  unfold vc30
  refine kAlloc_st Tryd.zeroValue41 hS fun b2 W hS => ?_
  have hS : St w0 (L ++ [.bx b2 41 #[.int .i64 0, .int .i64 0, .string ⟨#[]⟩]]) W := hS
  refine kNil_p (xFa64_0 (kCall_i (Tryd.call50 _ _) (take50b hS i (at_l hi) hcap 1 hn _ (fun hl a1 cp1 a2 W hcp1 hcap1 hB1 hT hS => ?_) (fun hlt => ?_))))
  · rw [set_l _ hi] at hS
    obtain ⟨k, rest, rfl⟩ : ∃ k rest, bs = k :: rest := by
      cases bs with
      | nil => simp at hlen; omega
      | cons k rest => exact ⟨k, rest, rfl⟩
    have hk := hbyte k (List.mem_cons_self ..)
    have hrest : ∀ b ∈ rest, b < 256 := fun b hb => hbyte b (List.mem_cons_of_mem _ hb)
    have hB1 : ∀ V, Bs V a n cp (k :: rest) → Bs V a1 (n - 1) cp1 rest := fun V q => hB1 V _ q
    have hT := hT _ _ (hM W _ hS.init)
    simp only [List.take_succ_cons, List.take_zero] at hT
    have hi1 : (L.set i (.bx b 64 #[.slice a1 (n - 1) cp1]))[i]? = some (.bx b 64 #[.slice a1 (n - 1) cp1]) := set_at hi
    have hl1 : n - 1 = rest.length := by simp at hlen; omega
    refine kTaken hT (kCv5_47 hk (xFa41_0 (kStR hS (by simp) rfl rfl rfl fun W hS => xFa41_0 (kLdR hS rfl rfl ?_))))
    refine kEq_int (kIf_eq (fun e0 => ?_) (fun e0 => kEq_int (kIf_eq (fun e1 => ?_) (fun e1 => kEq_int (kIf_eq (fun e2 => ?_) (fun e2 => ?_))))))
    · have e0 : k = 0 := by omega
      subst e0
      refine ret49 hS rfl rfl rfl fun W hS => ?_
      exact h0 (0, 0, ⟨#[]⟩) 1 rfl a1 cp1 W hcp1 hB1 hS.init
    · have e1 : k = 1 := by omega
      subst e1
      refine kNil_p (xFa64_0 (kCall_i (Tryd.call50 _ _) (take50b hS i (at_l hi1) hcap1 1 (by omega) _ (fun hl2 a2 cp2 a3 W hcp2 hcap2 hB2 hT2 hS => ?_) (fun hlt => ?_))))
      · rw [set_l _ hi1, List.set_set] at hS
        obtain ⟨c, rest, rfl⟩ : ∃ c r, rest = c :: r := by
          cases rest with
          | nil => simp at hl1; omega
          | cons c r => exact ⟨c, r, rfl⟩
        have hc := hrest c (List.mem_cons_self ..)
        have hT2 := hT2 _ _ (hB1 _ (hM W _ hS.init))
        simp only [List.take_succ_cons, List.take_zero] at hT2
        have e : n - 1 - 1 = n - 2 := by omega
        rw [e] at hB2 hS
        have hB2 : ∀ V, Bs V a n cp (1 :: c :: rest) → Bs V a2 (n - 2) cp2 rest := fun V q => hB2 V _ (hB1 V q)
        refine kTaken hT2 (kBin_leq (kCall_i (Tryd.call31 _ _) (must44 _ _ _ _ (fun hok => ?_) (fun hbad => ?_))))
        · have hc1 : c ≤ 1 := by simp at hok; omega
          refine kCv5_2 hc (xFa41_1 (kStR hS (by simp) rfl rfl rfl fun W hS => ?_))
          refine ret49 hS rfl rfl rfl fun W hS => ?_
          exact h0 (1, (c : Int), ⟨#[]⟩) 2 (by rw [readK_cons]; simp [hc1]) a2 cp2 W (by omega) hB2 hS.init
        · refine h1 ?_ a2 _ cp2 _ hS.init
          have : ¬ c ≤ 1 := by simp at hbad; omega
          rw [readK_cons]; simp [this]
      · have : rest = [] := by
          cases rest with
          | nil => rfl
          | cons c r => simp at hl1; omega
        subst this
        exact h1 rfl a1 (n - 1) cp1 W hS.init
    · have e2 : k = 2 := by omega
      subst e2
      refine kNil_p (xFa64_0 (kCall_i (Tryd.call50 _ _) (take50b hS i (at_l hi1) hcap1 8 (by omega) _ (fun hl2 a2 cp2 a3 W hcp2 hcap2 hB2 hT2 hS => ?_) (fun hlt => ?_))))
      · rw [set_l _ hi1, List.set_set] at hS
        have hr8 : 8 ≤ rest.length := by omega
        have hlt8 : (rest.take 8).length = 8 := by simp; omega
        obtain ⟨l8, hl8⟩ : ∃ l8, l8 = rest.take 8 := ⟨_, rfl⟩
        have hT2 := hT2 _ _ (hB1 _ (hM W _ hS.init))
        rw [← hl8] at hT2 hlt8
        have hb8 : ∀ b ∈ l8, b < 256 := by rw [hl8]; exact fun b hb => hrest b (List.mem_of_mem_take hb)
        refine xLen25 ?_
        refine ⟨⟨fun cs V => ∃ j : Nat, cs = [.int .u64 (beV (l8.take j) : Nat), .int .i64 j] ∧ j ≤ 8 ∧ V = W, fun cs _ => 8 - (match cs with | [_, .int _ j] => j.toNat | _ => 0), ⟨0, rfl, by omega, rfl⟩, ?_⟩⟩
        rintro cs ds V ⟨j, rfl, hj8, rfl⟩
        dsimp only [List.getD_cons_zero, List.getD_cons_succ]
        refine kBin_lss (kIf_d (fun e => ?_) (fun e => ?_))
        · have hjl : j < 8 := by omega
          have hjl' : j < l8.length := by omega
          obtain ⟨pb, po, rfl, hpb, hpr⟩ := hT2.sl.elem (i := j) (v := vB l8[j]) (by simp [hjl'])
          have hcb := hb8 _ (List.getElem_mem hjl')
          have hsn : beV (l8.take (j + 1)) = beV (l8.take j) * 256 + l8[j] := by rw [List.take_succ_eq_append_getElem hjl', beV_snoc]
          have hlt : beV (l8.take (j + 1)) < 18446744073709551616 := by
            have := beV_lt (l8.take (j + 1)) (fun b hb => hb8 b (List.mem_of_mem_take hb))
            have p : (l8.take (j + 1)).length ≤ 8 := by simp; omega
            exact Nat.lt_of_lt_of_le this (Nat.le_trans (Nat.pow_le_pow_right (by omega) p) (by decide))
          refine xIa25 hjl (kLdS rfl (hpr 0 _ rfl) (kShl8 (by omega) hcb (kBin_add (kD_i ⟨⟨j + 1, ?_, by omega, rfl⟩, ?_⟩))))
          · rw [wrap_id (by omega) (by omega), hsn]; rfl
          · rw [wrap_id (by omega) (by omega)]; show 8 - ((j : Int) + 1).toNat < 8 - (j : Int).toNat; omega
        · have : j = 8 := by omega
          subst this
          have ht : l8.take 8 = l8 := List.take_of_length_le (by omega)
          rw [ht]
          have hlt : beV l8 < 18446744073709551616 := by
            have := beV_lt l8 hb8
            rw [hlt8] at this; exact this
          refine kTop hlt (xFa41_1 (kStR hS (by simp) rfl rfl rfl fun W hS => ?_))
          refine ret49 hS rfl rfl rfl fun W hS => ?_
          have e : n - 1 - 8 = n - 9 := by omega
          rw [e] at hB2 hS
          have hB2 : ∀ V, Bs V a n cp (2 :: rest) → Bs V a2 (n - 9) cp2 (List.drop 9 (2 :: rest)) := fun V q => hB2 V _ (hB1 V q)
          exact h0 (2, (beV l8 : Int) - 9223372036854775808, ⟨#[]⟩) 9 (by rw [readK_cons, hl8]; simp [hr8]) a2 cp2 W (by omega) hB2 hS.init
      · refine h1 ?_ a1 (n - 1) cp1 _ hS.init
        have : ¬ 8 ≤ rest.length := by omega
        rw [readK_cons]; simp [this]
    · refine kJn_inv (fun cs V => St w0 (L.set i (.bx b 64 #[.slice a1 (n - 1) cp1]) ++ [.bx b2 41 #[.int .i64 k, .int .i64 0, .string ⟨#[]⟩]]) V ∧ cs = [.bool (decide (k = 3 ∨ k = 4))]) ?_ ?_
      · rintro cs V ⟨hS, rfl⟩ ds
        refine kIf_d (fun e3 => ?_) (fun e3 => ?_)
        · have hrv : readK (k :: rest) = (readT rest).map (fun p => (((k : Int), 0, txtN p.1), p.2 + 1)) := by
            rw [readK_cons, if_neg (by omega), if_neg (by omega), if_neg (by omega), if_pos e3]
          refine kCall_i (Tryd.call51 _ _) (text51 hS i (at_l hi1) (fun V o hV => hB1 V (hM V o (by rw [set_l _ hi1, List.set_set] at hV; exact hV.init))) hrest (by omega) (by omega) _ (fun t m hr a2 cp2 W hcp2 hB2 hS => ?_) (fun hr a' n' cp' W hS => ?_))
          · rw [set_l _ hi1, List.set_set] at hS
            rw [hr] at hrv
            refine xFa41_2 (kStR hS (by simp) rfl rfl rfl fun W hS => ?_)
            refine ret49 hS rfl rfl rfl fun W hS => ?_
            have e : n - 1 - m = n - (m + 1) := by omega
            rw [e] at hB2 hS
            have hB2 : ∀ V, Bs V a n cp (k :: rest) → Bs V a2 (n - (m + 1)) cp2 (List.drop (m + 1) (k :: rest)) := fun V q => hB2 V (hB1 V q)
            exact h0 ((k : Int), 0, mkS t) (m + 1) hrv a2 cp2 W (by omega) hB2 hS.init
          · rw [set_l _ hi1, List.set_set] at hS
            rw [hr] at hrv
            exact h1 hrv _ _ _ _ hS.init
        · refine kMkI_c conc28 (kPanic_i ?_)
          exact h1 (by rw [readK_cons, if_neg (by omega), if_neg (by omega), if_neg (by omega), if_neg e3]) a1 (n - 1) cp1 _ hS.init
      · intro J hJ
        refine kEq_int (kIf_eq (fun e3 => kD_i (hJ _ _ ⟨hS, ?_⟩)) (fun e3 => kEq_int (kD_i (hJ _ _ ⟨hS, ?_⟩))))
        · have : k = 3 := by omega
          subst this; rfl
        · have h3 : k ≠ 3 := by omega
          by_cases h4 : k = 4
          · subst h4; rfl
          · have : ¬ ((k : Int) = 4) := by omega
            simp [h3, h4, this]
  · have hn0 : n = 0 := by omega
    have : bs = [] := by
      cases bs with
      | nil => rfl
      | cons k rest => simp at hlen; omega
    subst this
    have := hS.init
    refine h1 rfl a n cp W ?_
    rw [set_same hi]; exact this
end Go.L
namespace Go.L
open Go Go.RowKit Go.Proofs
set_option linter.unusedSimpArgs false
set_option linter.unusedVariables false

theorem next34 {w0 W : World} {L : List Own} (hS : St w0 L W) (i : Nat) {b : Nat} {a : Option Addr} {n cp : Nat} {bs : List Nat} (hi : L[i]? = some (.bx b 64 #[.slice a n cp])) (hM : ∀ V o, St w0 (L.set i o) V → Bs V a n cp bs) (hbyte : ∀ b ∈ bs, b < 256) (hn : cp ≤ 9223372036854775807) (hsm : n ≤ 1000000) (R : Ending → World → Prop)
    (h0 : ∀ r m, readK bs = some (r, m) → ∀ a' cp' W', cp' ≤ cp → (∀ V, Bs V a n cp bs → Bs V a' (n - m) cp' (bs.drop m)) → St w0 (L.set i (.bx b 64 #[.slice a' (n - m) cp'])) W' → R (.returned (.tuple #[vVal r, .int .i64 0])) W')
    (h1 : readK bs = none → ∀ a' n' cp' W', St w0 (L.set i (.bx b 64 #[.slice a' n' cp'])) W' → R (.returned (.tuple #[vVal (0, 0, ⟨#[]⟩), .int .i64 200])) W') : Calls Tryd.prog 34 #[.pointer (some ⟨b, 0, none⟩)] W R := by
  refine c34 _ _ _ ?_
  unfold vc34
  refine kAlloc_st Tryd.zeroValue41 hS fun b2 W hS => kAlloc_st Tryd.zeroValue26 hS fun b3 W hS => ?_
  have hS : St w0 (L ++ [.bx b2 41 (vVal (0, 0, ⟨#[]⟩)).cells] ++ [.bx b3 26 #[.int .i64 0]]) W := hS
  refine kCall_i (Tryd.call30 _ _) (value30 hS i (at_l (at_l hi)) (fun V o hV => hM V o (by rw [set_l _ (at_l hi), set_l _ hi] at hV; exact hV.init.init)) hbyte hn hsm _ (fun r m hr a' cp' W hcp hB' hS => ?_) (fun hr a' n' cp' W hS => ?_))
  · rw [set_l _ (at_l hi), set_l _ hi] at hS
    refine kStoreA_st hS _ (at_l at_r) rfl (by simp [Value.oneCell']) Tryd.sizeOf41 fun W hS => ?_
    rw [set_l _ at_r, set_r] at hS
    refine kSt hS _ at_r (by simp) rfl rfl rfl fun W hS => ?_
    rw [set_r] at hS
    exact Lv_ret39 (RetK_aggc hS _ _ (at_l at_r) rfl at_r (h0 r m hr a' cp' W hcp hB' hS.init.init))
  · rw [set_l _ (at_l hi), set_l _ hi] at hS
    refine Lv_pan39 hS _ at_r (fun W => St w0 (L.set i (.bx b 64 #[.slice a' n' cp']) ++ [.bx b2 41 (vVal (0, 0, ⟨#[]⟩)).cells] ++ [.bx b3 26 #[.int .i64 200]]) W) Tryd.call52 (fun W hS => ?_) (fun W hS => RetK_aggc hS _ _ (at_l at_r) rfl at_r (h1 hr a' n' cp' W hS.init.init))
    rw [set_r] at hS
    refine c52 _ _ _ ?_
    unfold vc52
    refine kBuild_i (cs := (vVal (0, 0, ⟨#[]⟩)).cells) (by kernel_rfl) (kStoreA_st hS _ (at_l at_r) rfl (by simp [Value.oneCell', vVal, Value.cells]) Tryd.sizeOf41 fun W hS => ⟨rfl, ?_⟩)
    rw [set_l _ at_r, set_r] at hS
    exact hS
/-- How much the reader in a box has left. -/
def rlen (b : Nat) (W : World) : Nat := match W.heap[b]? with
  | some (.cells cs _ _) => slen (cs.getD 0 undef)
  | _ => 0
theorem rlen_st {w0 W : World} {L : List Own} (hS : St w0 L W) (i : Nat) {b : Nat} {t : TypeId} {a : Option Addr} {n cp : Nat} (hi : L[i]? = some (.bx b t #[.slice a n cp])) : rlen b W = n := by
  unfold rlen; rw [(hS.get i hi).2]; rfl
theorem decK_app {bs bs' : List Nat} {rs : List KV} (h : decK bs = (decK bs').map (rs ++ ·)) {r : KV} {m : Nat} (hr : readK bs' = some (r, m)) : decK bs = (decK (bs'.drop m)).map ((rs ++ [r]) ++ ·) := by
  rw [h, decK_some hr]
  cases decK (bs'.drop m) with
  | none => rfl
  | some l => simp
theorem Decode13 (bs : List Nat) (w : World) (a : Option Addr) (n cp : Nat) (hB : Bs w a n cp bs) (hbyte : ∀ b ∈ bs, b < 256) (hn : cp ≤ 9223372036854775807) (hsm : n ≤ 1000000) (R : Ending → World → Prop)
    (h0 : ∀ rs, decK bs = some rs → n ≤ 80 → ∀ x W, Below w.heap.size w W → W.ownsRow w.heap.size 41 3 x rs.length (flat (rs.map vVal)) → R (.returned (.tuple #[x, .int .i64 0])) W)
    (h1 : decK bs = none → ∀ W, Below w.heap.size w W → R (.returned (.tuple #[.slice none 0 0, .int .i64 200])) W)
    (h2 : ∀ rs, decK bs = some rs → ¬ n ≤ 80 → ∀ W, Below w.heap.size w W → R (.returned (.tuple #[.slice none 0 0, .int .i64 3])) W) : Calls Tryd.prog 13 #[.slice a n cp] w R := by
  have hlen := hB.len
  refine c13 _ _ _ _ _ ?_
  unfold vc13
  refine kAlloc_st Tryd.zeroValue22 (St.start w) fun b2 W hS => kAlloc_st Tryd.zeroValue26 hS fun b3 W hS => ?_
  refine kBuild_i (built81 _ _ _) (kBuild_i (built83 _ _ _) (kBox_st hS fun b4 W hS => ?_))
  have hS : St w [.bx b2 22 #[.slice none 0 0], .bx b3 26 #[.int .i64 0], .bx b4 64 #[.slice a n cp]] W := hS
  have hS := hS.adopt (o := .row (.slice none 0 0) 41 3 0 []) (World.ownsRow_nil _ _ _ _) (fun p hp => by
    cases hpb : p.blk with
    | none => exact .inl rfl
    | some k => exact .inr (by simp [Own.blk, Value.ownBlock]))
  refine ⟨⟨fun cs V => ∃ (k : Nat) (rs : List AV) (x : Value) (a' : Option Addr) (cp' : Nat), cs = [] ∧ k ≤ n ∧ rs.length ≤ k ∧ cp' ≤ cp ∧ Bs w a' (n - k) cp' (bs.drop k) ∧ decK bs = (decK (bs.drop k)).map (rs ++ ·) ∧
      St w [.bx b2 22 #[x], .bx b3 26 #[.int .i64 0], .bx b4 64 #[.slice a' (n - k) cp'], .row x 41 3 rs.length (flat (rs.map vVal))] V, fun _ V => rlen b4 V,
    ⟨0, [], .slice none 0 0, a, cp, rfl, Nat.zero_le _, Nat.le_refl _, Nat.le_refl _, hB, by simp, hS⟩, ?_⟩⟩
  rintro cs ds V ⟨k, rs, x, a', cp', rfl, hkn, hrk, hcp', hB', heq, hS⟩
  have hbyte' : ∀ b ∈ bs.drop k, b < 256 := fun b hb => hbyte b (List.mem_of_mem_drop hb)
  have hrl := rlen_st hS 2 rfl
  refine kNil_p (xFa64_0 (xFa62_0 (kLd hS 2 rfl rfl rfl (xLen25 (kBin_gtr (kIf_d (fun e => ?_) (fun e => ?_))))))) 
  · refine kDrawn_i (kDrawn_i (kLd hS 0 rfl rfl rfl (kDrew_st hS fun V hS => kCall_i (Tryd.call30 _ _) (value30 hS 2 rfl (fun V o hV => hB'.keep hV.below) hbyte' (by omega) (by omega) _ (fun r m hv a2 cp2 V hcp2 hB2 hS => ?_) (fun hv a2 n2 cp2 V hS => ?_)))))
    · have hS : St w [.bx b2 22 #[x], .bx b3 26 #[.int .i64 0], .bx b4 64 #[.slice a2 (n - k - m) cp2], .row x 41 3 rs.length (flat (rs.map vVal))] V := hS
      have hpos := readK_pos hv
      simp only [List.length_drop] at hpos
      refine kLd hS 0 rfl rfl rfl (kSame_i (kDrew_st hS fun V hS => kBuildS_st (E22 w) hS [vVal r] rfl rfl (by omega) (by omega) (by simp [vVal_size]) fun y V hS => kLd hS 0 rfl rfl rfl (kSame_i (kDrew_st hS fun V hS => ?_))))
      refine kAppRow_st (E22 w) hS 3 4 rfl rfl (by
        have : flat [vVal r] = (vVal r).cells.toList := by simp [flat]
        rw [this]; exact vVal_one r) (by simp [maxLen]; omega) (by omega) fun x' V hS => kDrew_st hS fun V hS => ?_
      have hS := hS.take 4
      have hS : St w [.bx b2 22 #[x], .bx b3 26 #[.int .i64 0], .bx b4 64 #[.slice a2 (n - k - m) cp2], .row x' 41 3 (rs.length + 1) (flat (rs.map vVal) ++ flat [vVal r])] V := hS
      have hrow : V.ownsRow w.heap.size 41 3 x' _ _ := hS.get 3 rfl
      refine kSt hS 0 rfl (by simp) (own_cells hrow).1 (own_cells hrow).2 rfl fun V hS => ?_
      have hS : St w [.bx b2 22 #[x'], .bx b3 26 #[.int .i64 0], .bx b4 64 #[.slice a2 (n - (k + m)) cp2], .row x' 41 3 (rs ++ [r]).length (flat ((rs ++ [r]).map vVal))] V := by
        have e : flat ((rs ++ [r]).map vVal) = flat (rs.map vVal) ++ flat [vVal r] := by simp [flat]
        rw [e, List.length_append, show n - (k + m) = n - k - m by omega]; exact hS
      refine kD_i ⟨⟨k + m, rs ++ [r], x', a2, cp2, rfl, by omega, by simp; omega, by omega, ?_, ?_, hS⟩, ?_⟩
      · rw [show n - (k + m) = n - k - m by omega, show bs.drop (k + m) = (bs.drop k).drop m by rw [List.drop_drop]]; exact hB2 _ hB'
      · have := decK_app heq hv
        rwa [List.drop_drop] at this
      · show rlen b4 _ < rlen b4 _
        rw [rlen_st hS 2 rfl, hrl]; omega
    · intro _
      refine Lv_clear42 hS rfl rfl (h1 ?_)
      rw [heq, decK_none hv]
      rw [if_neg]
      · rfl
      · intro q
        have := congrArg List.length q
        simp at this; omega
  · have hk : k = n := by omega
    have hd : decK bs = some rs := by
      rw [heq, List.drop_eq_nil_of_le (by omega), decK_none rfl]; simp
    refine xLen25 (kBin_leq (kCall_i (Tryd.call31 _ _) (must44 _ _ _ _ (fun hok => ?_) (fun hbad => ?_))))
    · refine kLd hS 0 rfl rfl rfl ?_
      have hrow : V.ownsRow w.heap.size 41 3 x _ _ := hS.get 3 rfl
      refine kSt hS 0 rfl (by simp) (own_cells hrow).1 (own_cells hrow).2 rfl fun V hS => kSt hS 1 rfl (by simp) rfl rfl rfl fun V hS => Lv_ret39 (RetK_cell2 rfl rfl (hS.cell 0 rfl 0 rfl) (hS.cell 1 rfl 0 rfl) ?_)
      exact h0 rs hd (by simp at hok; omega) _ _ hS.below (hS.get 3 rfl)
    · exact Lv_clear42 hS rfl rfl (h2 rs hd (by simp at hbad; omega))
end Go.L
namespace Go.L
open Go Go.RowKit Go.Proofs
set_option linter.unusedSimpArgs false
set_option linter.unusedVariables false

/-- What an iterator does with a yield, that may keep things of its own (E) from yield to yield; the caller's (M) are hidden to it but for what A tells. -/
def IterS (P : Program) (g : Value) (n : Nat) (xs : Nat → Array Value) (w0 : World) (A : Nat → List Own → Prop) : Prop :=
  ∃ gf lb, g = .func (.func gf) #[] lb ∧ (∀ args w, (callFunc gf args).run P w = .ok (.enter gf args) w) ∧
  ∀ (l : Nat) (A' : Nat → List Own → Prop) (Z' : Exit → List Own → Prop) (W : World), (∀ i M, A' i M → ∃ L N, A i L ∧ M = L ++ N) → (∃ M, A' 0 M ∧ St w0 M W) →
    (∀ i W M E, i < n → A' i M → St w0 (M ++ E) W → YieldC P l (xs i) W (fun en W' => match en with
      | .returned v => (v = .bool true ∧ ∃ M', A' (i + 1) M' ∧ St w0 (M' ++ E) W') ∨ (v = .bool false ∧ ∃ ex M', leftBy ex ∧ Z' ex M' ∧ St w0 (M' ++ E) W')
      | .panicked ch => ∃ M', Z' (.panic ch) M' ∧ St w0 (M' ++ E) W'
      | .outgrown => False)) →
    Calls P gf (#[.func (.yield l) #[] #[]] ++ lb) W (fun en W' => match en with
      | .returned _ => (∃ M E, A' n M ∧ St w0 (M ++ E) W') ∨ ∃ M E ex, leftBy ex ∧ Z' ex M ∧ St w0 (M ++ E) W'
      | .panicked ch => ∃ M E, Z' (.panic ch) M ∧ St w0 (M ++ E) W'
      | .outgrown => False)
theorem lpD_put {w0 W : World} {X E : List Own} {l D : Nat} {lo : Loop} (h : St w0 (X ++ lpD l lo D ++ E) W) (lo' : Loop) : St w0 (X ++ lpD l lo' D ++ E) (W.putObj l (.loop lo')) := by
  have i1 : (X ++ lpD l lo D ++ E)[X.length]? = some (.ob l (.loop lo)) := by rw [List.append_assoc, List.getElem?_append_right (Nat.le_refl _), Nat.sub_self]; rfl
  have hl := (h.get _ i1).2
  have hS3 := h.set (W' := W.putObj l (.loop lo')) X.length (o' := .ob l (.loop lo')) i1 (grownBy_putObj' W l _) ⟨(h.get _ i1).1, World.putObj_heap_same (Array.getElem?_eq_some_iff.1 hl).1⟩ (.inl rfl)
  have e : (X ++ lpD l lo D ++ E).set X.length (.ob l (.loop lo')) = X ++ lpD l lo' D ++ E := by
    rw [List.append_assoc, List.append_assoc, List.set_append_right _ _ (Nat.le_refl _), Nat.sub_self]; rfl
  rw [e] at hS3; exact hS3
theorem lpD_get {w0 W : World} {X E : List Own} {l D : Nat} {lo : Loop} (h : St w0 (X ++ lpD l lo D ++ E) W) : W.heap[l]? = some (.loop lo) ∧ W.heap[D]? = some (.deferred (some [])) := by
  have i1 : (X ++ lpD l lo D ++ E)[X.length]? = some (.ob l (.loop lo)) := by rw [List.append_assoc, List.getElem?_append_right (Nat.le_refl _), Nat.sub_self]; rfl
  have i2 : (X ++ lpD l lo D ++ E)[X.length + 1]? = some (.ob D (.deferred (some []))) := by rw [List.append_assoc, List.getElem?_append_right (by omega), show X.length + 1 - X.length = 1 by omega]; rfl
  exact ⟨(h.get _ i1).2, (h.get _ i2).2⟩
/-- A range over a function that keeps something, behind others whose marks are left. -/
theorem kRange_fr {P : Program} {w0 w : World} {g : Value} {np : Nat} {round : Nat → Nat → List Value → World → (Exit → World → Prop) → Prop} {Kn Kr : Nat → World → Prop} {Kx : Nat → Nat → World → Prop} {Kp : Nat → Chain → World → Prop} {ds : List Nat}
    (n : Nat) (xs : Nat → List Value) (A : Nat → List Own → Prop) (Z : Exit → List Own → Prop) (hlen : ∀ i, (xs i).length = np)
    (h0 : ∃ L, A 0 L ∧ St w0 (L ++ marks ds) w) (hnd : ds.Nodup) (hdlt : ∀ D ∈ ds, D < w.heap.size)
    (hround : ∀ i l D lo W L E, i < n → A i L → St w0 (L ++ marks ds ++ lpD l lo D ++ E) W → round l D (xs i) W (fun ex W' => match ex with | .normal => ∃ lo' L', A (i + 1) L' ∧ St w0 (L' ++ marks ds ++ lpD l lo' D ++ E) W' | ex => ∃ lo' L', Z ex L' ∧ St w0 (L' ++ marks ds ++ lpD l lo' D ++ E) W'))
    (hiter : IterS P g n (fun i => (xs i).toArray) w0 A)
    (hn : ∀ D W L, A n L → (D :: ds).Nodup → w0.heap.size ≤ D → St w0 (L ++ marks (D :: ds)) W → Kn D W)
    (hr : ∀ D W L, Z .ret L → (D :: ds).Nodup → w0.heap.size ≤ D → St w0 (L ++ marks (D :: ds)) W → Kr D W)
    (hx : ∀ id D W L, Z (.exit id) L → (D :: ds).Nodup → w0.heap.size ≤ D → St w0 (L ++ marks (D :: ds)) W → Kx D id W)
    (hp : ∀ ch D W L, Z (.panic ch) L → (D :: ds).Nodup → w0.heap.size ≤ D → St w0 (L ++ marks (D :: ds)) W → Kp D ch W) : kRange P none w g np round Kn Kr Kx Kp := by
  have hs : w0.heap.size ≤ w.heap.size := by obtain ⟨L, _, h⟩ := h0; exact h.size
  have done : ∀ {l : Nat} {lo : Loop} {L E : List Own} {W : World}, St w0 (L ++ marks ds ++ lpD l lo w.heap.size ++ E) W → (w.heap.size :: ds).Nodup ∧ w0.heap.size ≤ w.heap.size ∧ St w0 (L ++ marks (w.heap.size :: ds)) W := by
    intro l lo L E W h
    refine ⟨List.nodup_cons.2 ⟨fun hm => Nat.lt_irrefl _ (hdlt _ hm), hnd⟩, hs, ?_⟩
    have h1 : St w0 (L ++ marks ds ++ [.ob w.heap.size (.deferred (some []))]) W := h.sub (List.Sublist.trans (List.Sublist.append (List.Sublist.refl _) (List.Sublist.cons _ (List.Sublist.refl _))) (List.sublist_append_left _ _))
    have := h1.ins L.length
    have e1 : (L ++ marks ds).take L.length = L := by simp
    have e2 : (L ++ marks ds).drop L.length = marks ds := by simp
    rw [e1, e2] at this
    exact this
  refine ⟨.inr ⟨rfl, n, xs, List Own, fun l D lo E i W => ∃ L, A i L ∧ St w0 (L ++ marks ds ++ lpD l lo D ++ E) W, fun l D lo E ex W => ∃ L, Z ex L ∧ St w0 (L ++ marks ds ++ lpD l lo D ++ E) W, [], hlen, ?_, ?_, ?_, ?_, ?_, ?_, ?_, ?_, ?_, ?_, ?_⟩⟩
  · intro lo
    obtain ⟨L, hA, hS⟩ := h0
    have g1 := World.grownBy_alloc w (.deferred (some [])) none
    have hS1 := hS.push g1 (o := .ob w.heap.size (.deferred (some []))) ⟨hs, World.alloc_heap_new w _⟩ (fun k hk => by cases hk; exact Nat.le_refl _)
    have g2 := World.grownBy_alloc (w.alloc (.deferred (some []))) (.loop lo) none
    have hS2 := hS1.push g2 (o := .ob (w.heap.size + 1) (.loop lo)) ⟨by omega, by have := World.alloc_heap_new (w.alloc (.deferred (some []))) (.loop lo); rwa [World.size_alloc] at this⟩ (fun k hk => by cases hk; simp)
    refine ⟨L, hA, hS2.perm ?_⟩
    rw [List.append_assoc, List.append_nil]
    exact List.Perm.append_left _ (List.Perm.swap _ _ _)
  · rintro l D lo E i W ⟨L, hA, h⟩; exact lpD_get h
  · rintro l D lo E ex W ⟨L, hA, h⟩; exact lpD_get h
  · rintro l D lo lo' E i W ⟨L, hA, h⟩; exact ⟨L, hA, lpD_put h lo'⟩
  · rintro l D lo lo' E ex W ⟨L, hA, h⟩; exact ⟨L, hA, lpD_put h lo'⟩
  · rintro i E l D lo W hi ⟨L, hA, h⟩
    have := hround i l D lo W L E hi hA h
    exact this
  · obtain ⟨gf, lb, hg, hcf, hit⟩ := hiter
    refine ⟨gf, lb, hg, hcf, ?_⟩
    rintro l D loR loZ W ⟨L, hA, h⟩ hy
    refine (hit l (fun i M => ∃ L, A i L ∧ M = L ++ marks ds ++ lpD l loR D) (fun ex M => ∃ L lo, Z ex L ∧ M = L ++ marks ds ++ lpD l lo D ∧ (leftBy ex → lo = loZ ex)) W ?_ ⟨_, ⟨L, hA, rfl⟩, by rwa [List.append_nil] at h⟩ ?_).mono ?_
    · rintro i M ⟨L, hA, rfl⟩; exact ⟨L, marks ds ++ lpD l loR D, hA, by rw [List.append_assoc]⟩
    · rintro i W M E hi ⟨L, hA, rfl⟩ hS
      obtain ⟨fn, tmps, asn, body, h1, h2⟩ := hy i E W hi ⟨L, hA, hS⟩
      refine ⟨fn, tmps, asn, body, h1, h2.mono ?_⟩
      intro en W' hen
      cases en with
      | outgrown => exact hen
      | panicked ch => obtain ⟨lo, L', hz, hS'⟩ := hen; exact ⟨_, ⟨L', lo, hz, rfl, fun q => q.elim⟩, hS'⟩
      | returned v =>
        rcases hen with ⟨hv, L', ha, hS'⟩ | ⟨hv, ex, hle, L', hz, hS'⟩
        · exact .inl ⟨hv, _, ⟨L', ha, rfl⟩, hS'⟩
        · exact .inr ⟨hv, ex, _, hle, ⟨L', loZ ex, hz, rfl, fun _ => rfl⟩, hS'⟩
    · intro en W' hen
      cases en with
      | outgrown => exact hen
      | panicked ch => obtain ⟨M, E, ⟨L', lo, hz, rfl, _⟩, hS'⟩ := hen; exact ⟨E, lo, L', hz, hS'⟩
      | returned v =>
        rcases hen with ⟨M, E, ⟨L', ha, rfl⟩, hS'⟩ | ⟨M, E, ex, hle, ⟨L', lo, hz, rfl, hlo⟩, hS'⟩
        · exact .inl ⟨E, L', ha, hS'⟩
        · have := hlo hle
          subst this
          exact .inr ⟨E, ex, hle, L', hz, hS'⟩
  · rintro l lo E W ⟨L, hA, h⟩; obtain ⟨a, b, c⟩ := done h; exact hn _ _ L hA a b c
  · rintro l lo E W ⟨L, hA, h⟩; obtain ⟨a, b, c⟩ := done h; exact hr _ _ L hA a b c
  · rintro id l lo E W ⟨L, hA, h⟩; obtain ⟨a, b, c⟩ := done h; exact hx _ _ _ L hA a b c
  · rintro ch l lo E W ⟨L, hA, h⟩; obtain ⟨a, b, c⟩ := done h; exact hp _ _ _ L hA a b c
/-- Between the assignment and the body: N is what the assignment has made. -/
theorem rndMid_fr {w0 W W1 : World} {X E N : List Own} {l D : Nat} {lo : Loop} {f : Loop → World → Prop} (h0 : St w0 (X ++ lpD l lo D ++ E) W) (h : St w0 (X ++ lpD l lo D ++ E ++ N) W1) (hf : ∀ lo W, St w0 (X ++ lpD l lo D ++ E ++ N) W → f lo W) : rndMid l D W W1 f := by
  rw [List.append_assoc] at h
  exact ⟨(lpD_get h).1.trans (lpD_get h0).1.symm, (lpD_get h).2.trans (lpD_get h0).2.symm, fun lo2 => hf lo2 _ (by rw [List.append_assoc]; exact lpD_put h lo2)⟩
theorem rndEnd_fr {w0 W W1 : World} {X X' E N : List Own} {l D : Nat} {lo lo0 : Loop} {R : Exit → World → Prop} {ex : Exit} (h0 : St w0 (X ++ lpD l lo0 D ++ E) W) (h : St w0 (X' ++ lpD l lo D ++ E ++ N) W1) (hR : St w0 (X' ++ lpD l lo D ++ E) W1 → R ex W1) : rndEnd l D lo W R ex [] W1 := by
  have h' := h.init
  exact ⟨rfl, (lpD_get h').1, (lpD_get h').2.trans (lpD_get h0).2.symm, hR h'⟩
end Go.L
namespace Go.L
open Go Go.RowKit Go.Proofs
set_option linter.unusedSimpArgs false
set_option linter.unusedVariables false

theorem Bs.none {W : World} {n cp : Nat} {bs : List Nat} (h : Bs W none n cp bs) : bs = [] := by
  rcases h.sl.at_ with q | ⟨b, o, q, _⟩
  · simpa using q
  · cases q
theorem Clone32 (bs : List Nat) (w : World) (a : Option Addr) (n cp : Nat) (hB : Bs w a n cp bs) (hsm : n ≤ 1000000) (R : Ending → World → Prop)
    (h : ∀ x W, Below w.heap.size w W → W.ownsRow w.heap.size 5 1 x bs.length (bs.map vB) → R (.returned x) W) : Calls Tryd.prog 32 #[.slice a n cp] w R := by
  have hlen := hB.len
  refine c32 _ _ _ _ _ ?_
  unfold vc32
  refine kEqNil (c := ⟨Tryd.prog, _, false⟩) Tryd.underlying25 ?_
  cases a with
  | none =>
    have := hB.none
    subst this
    exact kIf_t (h _ w (Below.refl _ _) (World.ownsRow_nil _ _ _ _))
  | some ad =>
    refine kIf_f (kBuildS0 (xE25 w) (St.start w) fun x W hS => ?_)
    have hs := Src.of_sl (hB.keep hS.below).sl (by simp [hlen]) (by simp) (cp := cp) (n := n)
    refine kAppSrc_st (xE25 W) hS 0 rfl hs (m := n) (by simp [hlen]) (by simp [vB, Value.cells, Value.oneCell']) (by simp only [maxLen]; omega) (by omega) fun x' W hS => ?_
    have hS : St w [.row x' 5 1 (0 + n) ([] ++ (bs.map vB).flatMap (·.cells.toList))] W := hS
    rw [flat_vB, Nat.zero_add, List.nil_append, hlen] at hS
    exact h x' W hS.below (hS.get 0 rfl)
theorem Each15 (bs : List Nat) (w : World) (a : Option Addr) (n cp : Nat) (hB : Bs w a n cp bs) (hsm : n ≤ 1000000) (R : Ending → World → Prop)
    (h : ∀ b x W, St w [.row x 5 1 bs.length (bs.map vB), .bx b 25 #[x]] W → R (.returned (.func (.func 33) #[] #[.pointer (some ⟨b, 0, none⟩)])) W) : Calls Tryd.prog 15 #[.slice a n cp] w R := by
  refine c15 _ _ _ _ _ ?_
  unfold vc15
  refine kCall_i (Tryd.call32 _ _) (Clone32 bs w a n cp hB hsm _ fun x W hBe ho => ?_)
  have hS := (St.start w).made hBe ho
  refine kAlloc_st Tryd.zeroValue25 hS fun b W hS => kSt hS 1 rfl (by simp [Value.cells]) (own_cells ho).1 (own_cells ho).2 rfl fun W hS => ?_
  exact h b x W hS
/-- What is gone over. -/
def eachX (bs : List Nat) (i : Nat) : List Value := [.int .i64 (((eachK bs 0).getD i (0, 0, 0, ⟨#[]⟩)).1 : Nat), vVal ((eachK bs 0).getD i (0, 0, 0, ⟨#[]⟩)).2]
theorem iterS33 {w0 : World} {A : Nat → List Own → Prop} {b : Nat} {a : Option Addr} {n cp : Nat} {bs : List Nat} (hbyte : ∀ b ∈ bs, b < 256) (hn : cp ≤ 9223372036854775807) (hsm : n ≤ 1000000)
    (hA : ∀ i L, A i L → ∃ j k : Nat, L[j]? = some (.bx b 25 #[.slice a n cp]) ∧ L[k]? = some (.row (.slice a n cp) 5 1 bs.length (bs.map vB))) : IterS Tryd.prog (.func (.func 33) #[] #[.pointer (some ⟨b, 0, none⟩)]) (eachK bs 0).length (fun i => (eachX bs i).toArray) w0 A := by
  refine ⟨33, #[.pointer (some ⟨b, 0, none⟩)], rfl, Tryd.call33, ?_⟩
  intro l A' Z' W hsub h0 hy
  show Calls Tryd.prog 33 #[.func (.yield l) #[] #[], .pointer (some ⟨b, 0, none⟩)] W _
  refine c33 _ _ _ _ ?_
  unfold vc33
  -- what A tells
  have hAM : ∀ {i : Nat} {M : List Own}, A' i M → ∃ j k : Nat, M[j]? = some (.bx b 25 #[.slice a n cp]) ∧ M[k]? = some (.row (.slice a n cp) 5 1 bs.length (bs.map vB)) := by
    intro i M h
    obtain ⟨L, N, hL, rfl⟩ := hsub i M h
    obtain ⟨j, k, hj, hk⟩ := hA i L hL
    exact ⟨j, k, at_l hj, at_l hk⟩
  have hBs : ∀ {i : Nat} {M E : List Own} {V : World}, A' i M → St w0 (M ++ E) V → Bs V a n cp bs := by
    intro i M E V h hS
    obtain ⟨j, k, hj, hk⟩ := hAM h
    obtain ⟨a', cp', he, hb⟩ := Bs.of_owns (bs := bs) (hS.get k (at_l hk))
    cases he; exact hb
  obtain ⟨M, hM0, hS⟩ := h0
  obtain ⟨j0, k0, hj0, hk0⟩ := hAM hM0
  have hlen : n = bs.length := (hBs (E := []) hM0 (by simpa using hS)).len
  refine kLd hS j0 hj0 rfl rfl (kBuild_i (built81 _ _ _) (kBuild_i (built83 _ _ _) (kBox_st hS fun b4 W hS => ?_)))
  have hS : St w0 (M ++ [.bx b4 64 #[.slice a n cp]]) W := hS
  refine ⟨⟨fun cs V => ∃ (i : Nat) (M E : List Own) (a' : Option Addr) (cp' : Nat), cs = [] ∧ A' i M ∧ i ≤ (eachK bs 0).length ∧ cp' ≤ cp ∧ n - posK bs i ≤ cp' ∧ (∀ V, Bs V a n cp bs → Bs V a' (n - posK bs i) cp' (bs.drop (posK bs i))) ∧
      St w0 (M ++ E ++ [.bx b4 64 #[.slice a' (n - posK bs i) cp']]) V, fun _ V => rlen b4 V, ⟨0, M, [], a, cp, rfl, hM0, Nat.zero_le _, Nat.le_refl _, ?_, fun V q => by simpa [posK] using q, ?_⟩, ?_⟩⟩
  · have := (hBs hM0 hS).cap; simpa [posK] using this
  · simpa [posK] using hS
  rintro cs ds V ⟨i, M, E, a', cp', rfl, hMi, hie, hcp', hcap', hB', hS⟩
  have hrl := rlen_st hS _ at_r
  have hple := posK_le bs i
  obtain ⟨j, k, hj, hk⟩ := hAM hMi
  refine kNil_p (xFa64_0 (xFa62_0 (kLdR hS rfl rfl (xLen25 (kBin_gtr (kIf_d (fun e => ?_) (fun e => ?_)))))))
  · refine kDrawn_i (kLd hS j (at_l (at_l hj)) rfl rfl (xLen25 (kNil_p (xFa64_0 (xFa62_0 (kLdR hS rfl rfl (xLen25 (kBin_sub (kDrew_st hS fun V hS => ?_))))))))) 
    have e26 : IntKind.i64.wrap ((n : Int) - ((n - posK bs i : Nat) : Int)) = ((posK bs i : Nat) : Int) := by rw [wrap_id (by omega) (by omega)]; omega
    rw [e26]
    refine kCall_i (Tryd.call34 _ _) (next34 hS (M ++ E).length at_r (fun V o hV => hB' V (by
        rw [set_r, List.append_assoc] at hV
        exact hBs hMi hV)) (fun b hb => hbyte b (List.mem_of_mem_drop hb)) (by omega) (by omega) _ (fun r m hr a2 cp2 V2 hcp2 hB2 hS2 => ?_) (fun hr a2 n2 cp2 V2 hS2 => ?_))
    · rw [set_r] at hS2
      have hpos := readK_pos hr
      simp only [List.length_drop] at hpos
      have hil : i < (eachK bs 0).length := by
        rcases Nat.lt_or_ge i (eachK bs 0).length with q | q
        · exact q
        · have := eachK_end (bs := bs) (i := i) (by omega)
          rw [this] at hr; cases hr
      obtain ⟨v, m', hr', hget, hpos'⟩ := eachK_get hil
      rw [hr] at hr'
      cases hr'
      have hx : eachX bs i = [.int .i64 ((posK bs i : Nat) : Int), vVal r] := by
        unfold eachX
        rw [show (eachK bs 0).getD i (0, 0, 0, ⟨#[]⟩) = (eachK bs 0)[i] by simp [hil], hget]
      refine kExt_0 (kExt_1 (kAlloc_st Tryd.zeroValue41 hS2 fun b5 V hS => kStoreAR hS rfl (by simp [Value.oneCell']) Tryd.sizeOf41 fun V hS => kNe_int (kIf_ne (fun q => absurd rfl q) (fun _ => ?_))))
      have hS : St w0 (M ++ E ++ [.bx b4 64 #[.slice a2 (n - posK bs i - m) cp2]] ++ [.bx b5 41 (vVal r).cells]) V := hS
      refine xLdB41 hS _ at_r rfl ?_
      have hS1 := hS.init
      rw [List.append_assoc] at hS1
      have hyy := hy i V M (E ++ [.bx b4 64 #[.slice a2 (n - posK bs i - m) cp2]]) hil hMi hS1
      dsimp only at hyy
      rw [hx] at hyy
      refine kCallV_y hyy ?_
      intro en W' hen
      cases en with
      | outgrown => exact hen.elim
      | panicked ch => obtain ⟨M', hz, hS'⟩ := hen; exact ⟨M', _, hz, hS'⟩
      | returned v =>
        rcases hen with ⟨rfl, M', ha, hS'⟩ | ⟨rfl, ex, M', hle, hz, hS'⟩
        · refine kUn_not (kIf_f (kD_i ?_))
          rw [← List.append_assoc] at hS'
          have e : n - posK bs (i + 1) = n - posK bs i - m := by rw [hpos']; omega
          refine ⟨⟨i + 1, M', E, a2, cp2, rfl, ha, hil, by omega, ?_, fun V q => ?_, by rw [e]; exact hS'⟩, ?_⟩
          · have := (hB2 W' (hB' W' (hBs (M := M') (E := E ++ [.bx b4 64 #[.slice a2 (n - posK bs i - m) cp2]]) ha (by rw [← List.append_assoc]; exact hS')))).cap
            omega
          · have := hB2 V (hB' V q)
            rw [e, hpos']
            rwa [List.drop_drop] at this
          · show rlen b4 _ < rlen b4 _
            rw [rlen_st hS' _ at_r, hrl]; omega
        · exact kUn_not (kIf_t (.inr ⟨M', _, ex, hle, hz, hS'⟩))
    · rw [set_r] at hS2
      have hie' : i = (eachK bs 0).length := by
        rcases Nat.lt_or_ge i (eachK bs 0).length with q | q
        · obtain ⟨v, m', hr', _⟩ := eachK_get q
          rw [hr] at hr'; cases hr'
        · omega
      refine kExt_0 (kExt_1 (kAlloc_st Tryd.zeroValue41 hS2 fun b5 V hS => kStoreAR hS rfl (by simp [Value.oneCell']) Tryd.sizeOf41 fun V hS => kNe_int (kIf_ne (fun _ => ?_) (fun q => by cases q))))
      rw [hie'] at hMi
      have hS := hS.init
      rw [List.append_assoc] at hS
      exact kIf_t (.inl ⟨M, _, hMi, hS⟩)
  · have hie' : i = (eachK bs 0).length := by
      rcases Nat.lt_or_ge i (eachK bs 0).length with q | q
      · obtain ⟨v, m', hr', _⟩ := eachK_get q
        have := readK_pos hr'
        simp only [List.length_drop] at this
        omega
      · omega
    rw [hie'] at hMi
    rw [List.append_assoc] at hS
    exact .inl ⟨M, _, hMi, hS⟩
end Go.L
namespace Go.L
open Go Go.RowKit Go.Proofs
set_option linter.unusedSimpArgs false
set_option linter.unusedVariables false

theorem mkS_snoc (l : List Nat) (c : Nat) : mkS l ++ mkS [c] = mkS (l ++ [c]) := by
  apply ByteArray.ext
  rw [ByteArray.data_append]
  simp [mkS]
/-- A byte of a slice is read. -/
theorem kByte {X : Chain → World → Prop} {q : Bool} {W : World} {a : Option Addr} {n cp : Nat} {bs : List Nat} {i : Nat} {k : Value → World → Prop} (hB : Bs W a n cp bs) (hi : i < bs.length) (h : k (.int .u8 bs[i]) W) :
    kIa ⟨Tryd.prog, X, q⟩ W 25 (.slice a n cp) (.int .i64 i) fun v w => kLoad ⟨Tryd.prog, X, q⟩ w 5 v k := by
  obtain ⟨pb, po, rfl, hpb, hpr⟩ := hB.sl.elem (i := i) (v := vB bs[i]) (by simp [hi])
  exact xIa25 (by rw [hB.len]; exact hi) (kLdS rfl (hpr 0 _ rfl) h)
theorem kByte0 {X : Chain → World → Prop} {q : Bool} {W : World} {a : Option Addr} {n cp : Nat} {c : Nat} {bs : List Nat} {k : Value → World → Prop} (hB : Bs W a n cp (c :: bs)) (h : k (.int .u8 c) W) :
    kIa ⟨Tryd.prog, X, q⟩ W 25 (.slice a n cp) (.int .i64 0) fun v w => kLoad ⟨Tryd.prog, X, q⟩ w 5 v k := kByte (i := 0) hB (by simp) h
theorem few6 (l : List AV) (w : World) (lo : Option Addr) (lc : Nat) (hl : Sl w lo 3 (l.map vVal)) (hll : l.length ≤ 9223372036854775807) (R : Ending → World → Prop)
    (h : R (.returned (.bool (decide (l.length ≤ 8) && l.all (fun r => decide (r.2.2.size ≤ 200))))) w) : Calls Tryd.prog 6 #[.slice lo l.length lc] w R := by
  refine c6 _ _ _ _ _ ?_
  unfold vc6
  refine ⟨⟨fun cs V => ∃ i : Nat, cs = [.int .i64 i] ∧ i ≤ l.length ∧ (∀ r ∈ l.take i, r.2.2.size ≤ 200) ∧ V = w, fun cs _ => l.length - (match cs with | [.int _ i] => i.toNat | _ => 0), ⟨0, rfl, Nat.zero_le _, by simp, rfl⟩, ?_⟩⟩
  rintro cs ds V ⟨i, rfl, hil, hp, rfl⟩
  dsimp only [List.getD_cons_zero]
  refine xLen22 (kBin_lss (kIf_d (fun e => ?_) (fun e => ?_)))
  · have hi : i < l.length := by omega
    obtain ⟨pb, po, rfl, hpb, hpr⟩ := hl.elem (i := i) (v := vVal l[i]) (by simp [hi])
    refine xIa22 hi (xFa41_2 (kLdS rfl (hpr 2 (.string l[i].2.2) rfl) (xLen9 (kBin_gtr (kIf_d (fun e2 => ?_) (fun e2 => ?_))))))
    · have hb : l.all (fun r => decide (r.2.2.size ≤ 200)) = false := by
        rw [List.all_eq_false]; exact ⟨l[i], List.getElem_mem hi, by simp; omega⟩
      rw [hb, Bool.and_false] at h; exact h
    · refine kBin_add (kD_i ⟨⟨i + 1, by rw [wrap_id (by omega) (by omega)]; rfl, hi, fun r hr => ?_, rfl⟩, ?_⟩)
      · rw [List.take_succ_eq_append_getElem hi] at hr
        rcases List.mem_append.1 hr with hr | hr
        · exact hp r hr
        · simp at hr; subst hr; omega
      · rw [wrap_id (by omega) (by omega)]; show l.length - ((i : Int) + 1).toNat < l.length - (i : Int).toNat; omega
  · refine xLen22 (kBin_leq ?_)
    have hie : i = l.length := by omega
    rw [hie, List.take_length] at hp
    have hb : l.all (fun r => decide (r.2.2.size ≤ 200)) = true := List.all_eq_true.2 (fun r hr => by simpa using hp r hr)
    rw [hb, Bool.and_true] at h
    have e1 : decide ((l.length : Int) ≤ 8) = decide (l.length ≤ 8) := by rw [decide_eq_decide]; omega
    rw [e1]; exact h
theorem Read16 (bs : List Nat) (w : World) (a : Option Addr) (n cp : Nat) (hB : Bs w a n cp bs) (hbyte : ∀ b ∈ bs, b < 256) (hsm : n ≤ 1000000) (R : Ending → World → Prop)
    (h0 : ∀ v m, readK bs = some (v, m) → ∀ W, Below w.heap.size w W → R (.returned (.tuple #[vVal v, .int .i64 (m : Nat)])) W)
    (h1 : readK bs = none → ∀ W, Below w.heap.size w W → R (.returned (.tuple #[vVal (0, 0, ⟨#[]⟩), .int .i64 0])) W) : Calls Tryd.prog 16 #[.slice a n cp] w R := by
  have hlen := hB.len
  refine c16 _ _ _ _ _ ?_
  unfold vc16
  refine kAlloc_st Tryd.zeroValue41 (St.start w) fun b2 W hS => ?_
  have hS : St w [.bx b2 41 (vVal (0, 0, ⟨#[]⟩)).cells] W := hS
  have bad : ∀ (N : List Own) (V : World), readK bs = none → St w (.bx b2 41 (vVal (0, 0, ⟨#[]⟩)).cells :: N) V → kBuild (cR Tryd.prog R) V 41 #[] fun v12 w_4 => kStore (cR Tryd.prog R) w_4 41 (.pointer (some ⟨b2, 0, none⟩)) v12 fun w_5 => RetK Tryd.prog [.cell (.pointer (some ⟨b2, 0, none⟩)) 41, .val (.int .i64 0)] R w_5 := by
    intro N V hr hV
    refine kBuild_i (cs := (vVal (0, 0, ⟨#[]⟩)).cells) (by kernel_rfl) (kStoreA_st hV 0 rfl rfl (by simp [Value.oneCell', vVal, Value.cells]) Tryd.sizeOf41 fun W hS => RetK_agg1 hS 0 rfl rfl (h1 hr _ hS.below))
  refine xLen25 (kEq_int (kIf_eq (fun e0 => ?_) (fun e0 => ?_)))
  · have : bs = [] := List.eq_nil_of_length_eq_zero (by omega)
    subst this
    exact bad [] W rfl hS
  obtain ⟨k, rest, rfl⟩ : ∃ k rest, bs = k :: rest := by
    cases bs with
    | nil => simp at hlen; omega
    | cons k rest => exact ⟨k, rest, rfl⟩
  have hk := hbyte k (List.mem_cons_self ..)
  have hrest : ∀ b ∈ rest, b < 256 := fun b hb => hbyte b (List.mem_cons_of_mem _ hb)
  have hln : n = rest.length + 1 := by simpa using hlen
  refine kByte0 (hB.keep hS.below) (kCv5_3 hk (kBuild_i (cs := (vVal (k, 0, ⟨#[]⟩)).cells) (by kernel_rfl) (kAlloc_st Tryd.zeroValue41 hS fun b4 W hS => kStoreAR hS rfl (by simp [Value.oneCell', vVal, Value.cells]) Tryd.sizeOf41 fun W hS => ?_)))
  have hS : St w [.bx b2 41 (vVal (0, 0, ⟨#[]⟩)).cells, .bx b4 41 (vVal (k, 0, ⟨#[]⟩)).cells] W := hS
  refine kJn_inv (fun cs V => ∃ v m, readK (k :: rest) = some (v, m) ∧ cs = [.int .i64 (m : Nat)] ∧ St w [.bx b2 41 (vVal (0, 0, ⟨#[]⟩)).cells, .bx b4 41 (vVal v).cells] V) ?_ ?_
  · rintro cs V ⟨v, m, hr, rfl, hV⟩ ds
    exact xLdB41 hV 1 rfl rfl (kStoreA_st hV 0 rfl rfl (by simp [Value.oneCell', vVal, Value.cells]) Tryd.sizeOf41 fun W hS => RetK_agg1 hS 0 rfl rfl (h0 v m hr _ hS.below))
  intro J hJ
  refine kByte0 (hB.keep hS.below) (kEq_int (kIf_eq (fun e1 => ?_) (fun e1 => kEq_int (kIf_eq (fun e2 => ?_) (fun e2 => kEq_int (kIf_eq (fun e3 => ?_) (fun e3 => ?_)))))))
  · have : k = 0 := by omega
    subst this
    exact kD_i (hJ _ _ ⟨_, 1, rfl, rfl, hS⟩)
  · have : k = 1 := by omega
    subst this
    refine kJn_inv (fun cs V => V = W ∧ ∃ c r, rest = c :: r ∧ c ≤ 1) ?_ ?_
    · rintro cs V ⟨rfl, c, r, rfl, hc⟩ ds
      have hcb := hrest c (List.mem_cons_self ..)
      refine kByte (i := 1) (hB.keep hS.below) (by simp) (kCv5_2 hcb (xFa41_1 (kSt hS 1 rfl (by simp [vVal, Value.cells]) rfl rfl rfl fun V hS => kD_i (hJ _ _ ⟨(1, (c : Int), ⟨#[]⟩), 2, by rw [readK_cons]; simp [hc], rfl, hS⟩))))
    · intro J1 hJ1
      refine xLen25 (kBin_lss (kIf_d (fun e3 => kIf_t ?_) (fun e3 => ?_)))
      · have : rest = [] := List.eq_nil_of_length_eq_zero (by omega)
        subst this
        exact bad _ W rfl hS
      · obtain ⟨c, r, rfl⟩ : ∃ c r, rest = c :: r := by
          cases rest with
          | nil => simp at hln; omega
          | cons c r => exact ⟨c, r, rfl⟩
        refine kByte (i := 1) (hB.keep hS.below) (by simp) (kBin_gtr (kIf_d (fun e4 => ?_) (fun e4 => kD_i (hJ1 _ _ ⟨rfl, c, r, rfl, by simp at e4; omega⟩))))
        refine bad _ W ?_ hS
        have : ¬ c ≤ 1 := by simp at e4; omega
        rw [readK_cons]; simp [this]
  · have : k = 2 := by omega
    subst this
    refine xLen25 (kBin_lss (kIf_d (fun e4 => ?_) (fun e4 => ?_)))
    · refine bad _ W ?_ hS
      have : ¬ 8 ≤ rest.length := by omega
      rw [readK_cons]; simp [this]
    · have hr8 : 8 ≤ rest.length := by omega
      obtain ⟨l8, hl8⟩ : ∃ l8, l8 = rest.take 8 := ⟨_, rfl⟩
      have hlt8 : l8.length = 8 := by rw [hl8]; simp; omega
      have hb8 : ∀ b ∈ l8, b < 256 := by rw [hl8]; exact fun b hb => hrest b (List.mem_of_mem_take hb)
      refine ⟨⟨fun cs V => ∃ j : Nat, cs = [.int .u64 (beV (l8.take j) : Nat), .int .i64 ((j + 1 : Nat) : Int)] ∧ j ≤ 8 ∧ V = W, fun cs _ => 9 - (match cs with | [_, .int _ j] => j.toNat | _ => 0), ⟨0, rfl, by omega, rfl⟩, ?_⟩⟩
      rintro cs ds V ⟨j, rfl, hj8, rfl⟩
      dsimp only [List.getD_cons_zero, List.getD_cons_succ]
      refine kBin_lss (kIf_d (fun e => ?_) (fun e => ?_))
      · have hjl : j < 8 := by omega
        have hjl' : j < l8.length := by omega
        have hcb := hb8 _ (List.getElem_mem hjl')
        have hsn : beV (l8.take (j + 1)) = beV (l8.take j) * 256 + l8[j] := by rw [List.take_succ_eq_append_getElem hjl', beV_snoc]
        have hlt : beV (l8.take (j + 1)) < 18446744073709551616 := by
          have := beV_lt (l8.take (j + 1)) (fun b hb => hb8 b (List.mem_of_mem_take hb))
          have p : (l8.take (j + 1)).length ≤ 8 := by simp; omega
          exact Nat.lt_of_lt_of_le this (Nat.le_trans (Nat.pow_le_pow_right (by omega) p) (by decide))
        have hget : (2 :: rest)[j + 1]'(by simp; omega) = l8[j] := by
          simp [hl8]
        refine kShl8' (by omega) (kByte (i := j + 1) (hB.keep hS.below) (by simp; omega) ?_)
        rw [hget]
        refine kCv5_84 hcb (kBin_or ?_)
        rw [or_low _ _ hcb (by omega)]
        refine kBin_add (kD_i ⟨⟨j + 1, ?_, by omega, rfl⟩, ?_⟩)
        · rw [wrap_id (by omega) (by omega), hsn]; rfl
        · rw [wrap_id (by omega) (by omega)]; show 9 - (((j + 1 : Nat) : Int) + 1).toNat < 9 - ((j + 1 : Nat) : Int).toNat; omega
      · have : j = 8 := by omega
        subst this
        have ht : l8.take 8 = l8 := List.take_of_length_le (by omega)
        rw [ht]
        have hlt : beV l8 < 18446744073709551616 := by
          have := beV_lt l8 hb8
          rw [hlt8] at this; exact this
        refine kTop hlt (xFa41_1 (kSt hS 1 rfl (by simp [vVal, Value.cells]) rfl rfl rfl fun V hS => kD_i (hJ _ _ ⟨(2, (beV l8 : Int) - 9223372036854775808, ⟨#[]⟩), 9, by rw [readK_cons, hl8]; simp [hr8], rfl, hS⟩)))
  · refine kJn_inv (fun cs V => V = W ∧ cs = [.bool (decide (k = 3 ∨ k = 4))]) ?_ ?_
    · rintro cs V ⟨rfl, rfl⟩ ds
      refine kIf_d (fun e4 => ?_) (fun e4 => bad _ V (by rw [readK_cons, if_neg (by omega), if_neg (by omega), if_neg (by omega), if_neg e4]) hS)
      have hrv : readK (k :: rest) = (readT rest).map (fun p => (((k : Int), 0, txtN p.1), p.2 + 1)) := by
        rw [readK_cons, if_neg (by omega), if_neg (by omega), if_neg (by omega), if_pos e4]
      refine ⟨⟨fun cs V => ∃ (acc : List Nat) (j : Nat), cs = [.int .i64 ((j + 1 : Nat) : Int)] ∧ j ≤ rest.length ∧ acc.length ≤ j ∧ readT rest = (readT (rest.drop j)).map (fun p => (acc ++ p.1, j + p.2)) ∧
        St w [.bx b2 41 (vVal (0, 0, ⟨#[]⟩)).cells, .bx b4 41 (vVal ((k : Int), 0, mkS acc)).cells] V, fun cs _ => n + 1 - (match cs with | [.int _ j] => j.toNat | _ => 0), ⟨[], 0, rfl, Nat.zero_le _, Nat.le_refl _, by simp, hS⟩, ?_⟩⟩
      rintro cs ds V2 ⟨acc, j, rfl, hjr, haj, heq, hV⟩
      dsimp only [List.getD_cons_zero]
      have badT : readT (rest.drop j) = none → readK (k :: rest) = none := fun q => by rw [hrv, heq, q]; rfl
      refine xLen25 (kBin_geq (kIf_d (fun e => bad _ V2 (badT (by rw [List.drop_eq_nil_of_le (by omega)]; rfl)) hV) (fun e => ?_)))
      have hjl : j < rest.length := by omega
      obtain ⟨c, hc, hcm⟩ := drop_cons hjl
      have hcb := hrest c hcm
      have hcj : (k :: rest)[j + 1]'(by simp; omega) = c := by
        have := List.drop_eq_getElem_cons hjl
        rw [hc] at this
        show rest[j] = c
        exact (List.cons.inj this).1.symm
      refine kByte (i := j + 1) (hB.keep hV.below) (by simp; omega) ?_
      rw [hcj]
      refine kBin_add ?_
      rw [wrap_id (by omega) (by omega), show (((j + 1 : Nat) : Int) + 1) = ((j + 2 : Nat) : Int) by omega]
      refine kJn_inv (fun cs V => V = V2 ∧ ∃ j', j < j' ∧ j' ≤ rest.length ∧ cs = [.int .i64 ((j' + 1 : Nat) : Int)] ∧ readT (rest.drop j) = (readT (rest.drop j')).map (fun p => (c :: p.1, j' - j + p.2))) ?_ ?_
      · rintro cs V ⟨rfl, j', hjj, hjr', rfl, heq'⟩ ds
        try dsimp only [List.getD_cons_zero]
        refine xFa41_2 (kLd hV 1 rfl rfl rfl (kBS (xE25 V) hV [vB c] rfl rfl (by omega) (by omega) (by simp [vB_size]) fun x cp2 V3 hV3 hsl => ?_))
        refine kCv_str (bs := [c]) ⟨hsl, rfl, ?_⟩ (kAdd_str ?_ ?_)
        · obtain ⟨hx1, hx2⟩ := hV3.get _ at_r
          rcases hx2 with ⟨q, q2⟩ | ⟨g, cap, cur, q, _, _, q2, _⟩
          · cases q2
          · cases q; exact q2
        · simp [mkS_size]; omega
        · rw [mkS_snoc]
          refine xFa41_2 (kSt hV3 1 rfl (by simp [vVal, Value.cells]) rfl rfl rfl fun V4 hV4 => kD_i ⟨⟨acc ++ [c], j', rfl, hjr', by simp; omega, ?_, ?_⟩, ?_⟩)
          · rw [heq, heq']
            cases readT (rest.drop j') with
            | none => rfl
            | some p => simp; omega
          · have hV4 : St w ([.bx b2 41 (vVal (0, 0, ⟨#[]⟩)).cells, .bx b4 41 (vVal ((k : Int), 0, mkS (acc ++ [c]))).cells] ++ [.row (.slice x 1 cp2) 5 1 1 (flat [vB c])]) V4 := hV4
            exact hV4.init
          · show n + 1 - ((j' + 1 : Nat) : Int).toNat < n + 1 - ((j + 1 : Nat) : Int).toNat; omega
      · intro J3 hJ3
        refine kEq_int (kIf_eq (fun e0 => ?_) (fun e0 => kD_i (hJ3 _ _ ⟨rfl, j + 1, by omega, by omega, rfl, ?_⟩)))
        · have e0 : c = 0 := by omega
          refine kJn_inv (fun cs V => V = V2 ∧ ∃ d r, rest.drop (j + 1) = d :: r ∧ (d = 1 ∨ d = 255) ∧ ((k :: rest)[j + 2]? = some d)) ?_ ?_
          · rintro cs V ⟨rfl, d, r, hd, hd', hget⟩ ds
            obtain ⟨hlt, hget⟩ := List.getElem?_eq_some_iff.1 hget
            refine kBin_add ?_
            rw [wrap_id (by omega) (by omega), show (((j + 2 : Nat) : Int) + 1) = ((j + 3 : Nat) : Int) by omega]
            refine kBin_sub ?_
            rw [wrap_id (by omega) (by omega), show (((j + 3 : Nat) : Int) - 1) = ((j + 2 : Nat) : Int) by omega]
            refine kByte (i := j + 2) (hB.keep hV.below) hlt ?_
            rw [hget]
            have hrd : rest.drop j = 0 :: d :: rest.drop (j + 2) := by
              rw [hc, e0, hd]
              congr 2
              have := congrArg (List.drop 1) hd
              simpa [List.drop_drop] using this.symm
            have hl2 : j + 2 ≤ rest.length := by simp at hlt; omega
            refine kEq_int (kIf_eq (fun e5 => ?_) (fun e5 => kD_i (hJ3 _ _ ⟨rfl, j + 2, by omega, hl2, rfl, ?_⟩)))
            · have e5 : d = 1 := by omega
              have hr : readK (k :: rest) = some (((k : Int), 0, mkS acc), j + 3) := by rw [hrv, heq, hrd, e5, readT_zero1]; simp [txtN_mkS]
              exact xLdB41 hV 1 rfl rfl (kStoreA_st hV 0 rfl rfl (by simp [Value.oneCell', vVal, Value.cells]) Tryd.sizeOf41 fun W hS => RetK_agg1 hS 0 rfl rfl (h0 _ _ hr _ hS.below))
            · rw [hrd, show d = 255 by omega, readT_zero255, e0]
              congr 1
              funext p
              simp; omega
          · intro J4 hJ4
            refine xLen25 (kBin_geq (kIf_d (fun e5 => kIf_t (bad _ V2 (badT ?_) hV)) (fun e5 => ?_)))
            · rw [hc, e0, List.drop_eq_nil_of_le (by omega)]; rfl
            · have hkl2 : j + 1 < rest.length := by omega
              obtain ⟨d, hd, hdm⟩ := drop_cons hkl2
              have hdg : (k :: rest)[j + 2]'(by simp; omega) = d := by
                have := List.drop_eq_getElem_cons hkl2
                rw [hd] at this
                show rest[j + 1] = d
                exact (List.cons.inj this).1.symm
              have hdg' : (k :: rest)[j + 2]? = some d := by rw [List.getElem?_eq_getElem (by simp; omega), hdg]
              refine kByte (i := j + 2) (hB.keep hV.below) (by simp; omega) ?_
              rw [hdg]
              refine kNe_int (kIf_ne (fun e6 => ?_) (fun e6 => kIf_f (kD_i (hJ4 _ _ ⟨rfl, d, _, hd, .inl (by omega), hdg'⟩))))
              refine kByte (i := j + 2) (hB.keep hV.below) (by simp; omega) ?_
              rw [hdg]
              refine kNe_int (kIf_ne (fun e7 => bad _ V2 (badT ?_) hV) (fun e7 => kD_i (hJ4 _ _ ⟨rfl, d, _, hd, .inr (by omega), hdg'⟩)))
              rw [hc, e0, hd, readT_zero _ (by omega) (by omega)]
        · rw [hc, readT_c _ (by omega)]
          congr 1
          funext p
          simp; omega
    · intro J2 hJ2
      refine kEq_int (kIf_eq (fun e4 => kD_i (hJ2 _ _ ⟨rfl, ?_⟩)) (fun e4 => kEq_int (kD_i (hJ2 _ _ ⟨rfl, ?_⟩))))
      · have : k = 3 := by omega
        subst this; rfl
      · have h3 : k ≠ 3 := by omega
        by_cases h4 : k = 4
        · subst h4; rfl
        · have : ¬ ((k : Int) = 4) := by omega
          simp [h3, h4, this]
end Go.L
