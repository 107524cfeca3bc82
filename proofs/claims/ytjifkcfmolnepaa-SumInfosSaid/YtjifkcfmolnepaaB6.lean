/- Contracts of single functions: no condition but those that each states. -/
import Derived.Test.YtjifkcfmolnepaaB5
set_option linter.unusedVariables false
set_option linter.unusedSimpArgs false
namespace Go.L
open Go Go.RowKit Go.Proofs
set_option linter.unusedSimpArgs false
set_option linter.unusedVariables false

theorem checkL_iv (a b : Int) : checkL [iv a, iv b] = true := by
  unfold checkL
  simp [checkE, iv]
  show 0 ≤ 1000
  omega
theorem doR_num {o : Int} (ho : 1 ≤ o ∧ o ≤ 5) (a b : Int) : doR o [iv a, iv b] = if wholeE o a b ≠ 0 then (z0, wholeE o a b) else (iv (wholeZ o a b), 0) := by
  have hc : o = 1 ∨ o = 2 ∨ o = 3 ∨ o = 4 ∨ o = 5 := by omega
  have hm : mkE o [2, 2] = 0 := by rcases hc with rfl | rfl | rfl | rfl | rfl <;> decide +kernel
  unfold doR
  rw [if_neg (by simp [checkL_iv]), if_neg (by intro q; exact q hm)]
  rcases hc with rfl | rfl | rfl | rfl | rfl <;> rfl
theorem rng_iv {z : Int} (h : big z) : Rng (iv z) := h
theorem rng_z0 : Rng z0 := ⟨by decide, by decide⟩
theorem rng_do {o : Int} (ho : 1 ≤ o ∧ o ≤ 5) (a b : Int) : Rng (doR o [iv a, iv b]).1 := by
  rw [doR_num ho]
  by_cases q : wholeE o a b ≠ 0
  · rw [if_pos q]; exact rng_z0
  · rw [if_neg q]
    unfold wholeE at q
    split at q
    · omega
    · unfold fitE at q
      split at q
      · assumption
      · omega
theorem SumUndoes8 (a b : Int) (ha : Rng (iv a)) (hb : Rng (iv b)) (w : World) (R : Ending → World → Prop)
    (h : ∀ W, Below w.heap.size w W → R (.returned (.bool true)) W) : Calls Try.prog 8 #[.int .i64 a, .int .i64 b] w R := by
  have hS := St.start w
  have ha' : big a := ha
  have hb' : big b := hb
  have endT : ∀ V, Below w.heap.size w V → kCall (cR Try.prog R) V 22 #[] fun v15 w_3 => R (.returned v15) w_3 := fun V hV => kCall_i (Try.call22 _ _) (works22 _ _ fun W hB => h W ((St.start w).bel hV |>.bel hB).below)
  have hs : Rng (doR 1 [iv a, iv b]).1 := rng_do (by omega) a b
  have first : (doR 1 [iv a, iv b]).2 = 0 → doR 2 [(doR 1 [iv a, iv b]).1, iv b] = (iv a, 0) := by
    intro e
    rw [doR_num (by omega)] at e ⊢
    by_cases q : wholeE 1 a b ≠ 0
    · rw [if_pos q] at e; exact absurd e q
    · rw [if_neg q]
      rw [doR_num (by omega)]
      have : wholeE 2 (a + b) b = 0 := by
        unfold wholeE wholeZ; rw [if_neg (by omega)]
        simp only [if_neg (show ¬ (2 : Int) = 1 by omega), if_pos]
        unfold fitE; rw [show a + b - b = a by omega, if_pos ha']
      rw [if_neg (by show ¬ wholeE 2 (a + b) b ≠ 0; omega)]
      show (iv (a + b - b), (0 : Int)) = (iv a, 0)
      rw [show a + b - b = a by omega]
  have h5 : b ≠ 0 → doR 5 [iv a, iv b] = (iv (a.tmod b), 0) := by
    intro q
    rw [doR_num (by omega)]
    have : wholeE 5 a b = 0 := by
      unfold wholeE; rw [if_neg (by omega)]
      show fitE (a.tmod b) = 0
      unfold fitE; rw [if_pos (tmod_big hb' q)]
    rw [if_neg (by omega)]; rfl
  have h4 : b ≠ 0 → doR 4 [iv a, iv b] = if a ≠ -9223372036854775808 ∨ b ≠ -1 then (iv (a.tdiv b), 0) else (z0, 122) := by
    intro q
    rw [doR_num (by omega)]
    have hE : wholeE 4 a b = if a ≠ -9223372036854775808 ∨ b ≠ -1 then 0 else 122 := by
      unfold wholeE; rw [if_neg (by omega)]
      show fitE (a.tdiv b) = _
      unfold fitE
      by_cases p : a ≠ -9223372036854775808 ∨ b ≠ -1
      · rw [if_pos p, if_pos ((tdiv_big ha' hb' q).2 p)]
      · rw [if_neg p, if_neg (fun r => p ((tdiv_big ha' hb' q).1 r))]
    rw [hE]
    by_cases p : a ≠ -9223372036854775808 ∨ b ≠ -1
    · simp only [if_pos p]; rfl
    · simp only [if_neg p]; rfl
  have g4 : b = 0 → (doR 4 [iv a, iv b]).2 = 121 := by
    intro e0
    rw [doR_num (by omega)]
    have : wholeE 4 a b = 121 := by unfold wholeE; rw [if_pos ⟨.inl rfl, e0⟩]
    rw [if_pos (by omega)]; exact this
  have g5 : b = 0 → (doR 5 [iv a, iv b]).2 = 121 := by
    intro e0
    rw [doR_num (by omega)]
    have : wholeE 5 a b = 121 := by unfold wholeE; rw [if_pos ⟨.inr rfl, e0⟩]
    rw [if_pos (by omega)]; exact this
  have hrq : Rng (doR 4 [iv a, iv b]).1 := rng_do (by omega) a b
  generalize hd1 : doR 1 [iv a, iv b] = d1 at hs first
  obtain ⟨s, e1⟩ := d1
  have hs : Rng s := hs
  have first : e1 = 0 → doR 2 [s, iv b] = (iv a, 0) := first
  generalize hd2 : doR 2 [s, iv b] = d2 at first
  obtain ⟨d, e2⟩ := d2
  generalize hd4 : doR 4 [iv a, iv b] = d4 at h4 g4 hrq
  obtain ⟨q, e4⟩ := d4
  have hrq : Rng q := hrq
  generalize hd5 : doR 5 [iv a, iv b] = d5 at h5 g5
  obtain ⟨r, e5⟩ := d5
  refine c8 _ _ _ _ ?_
  unfold vc8
  refine kCall_i (Try.call27 _ _) (of27 a _ _ fun W hB => kCall_i (Try.call27 _ _) (of27 b _ _ fun W hB' => kBD (r := s) (e := e1) ((hS.bel hB).bel hB') ha hb hd1 fun W hS => kExt_0 (kExt_1 (kAlloc_st Try.zeroValue49 hS fun b5 W hS => kStoreAR hS rfl (by simp [Value.oneCell']) Try.sizeOf49 fun W hS => ?_))))
  have hS : St w [.bx b5 49 (vVal s).cells] W := hS
  refine kDrawn_i (kDrawn_i (kJn_inv (fun cs V => ∃ pp : Nat, cs.getD 7 undef = .int .i64 e2 ∧ cs.getD 8 undef = .pointer (some ⟨pp, 0, none⟩) ∧ St w ([.bx b5 49 (vVal s).cells] ++ [.bx pp 49 (vVal d).cells]) V) ?_ ?_))
  rotate_left
  · intro J hJ
    have fin : ∀ (pp : Nat) (M : List Own) (V : World) (cs : List Value), St w ([.bx b5 49 (vVal s).cells] ++ M ++ [.bx pp 49 (vVal d).cells]) V → cs.getD 7 undef = .int .i64 e2 → cs.getD 8 undef = .pointer (some ⟨pp, 0, none⟩) → J cs V := fun pp M V cs hV h6 h7 => hJ _ _ ⟨pp, h6, h7, hV.sub (List.Sublist.append (List.sublist_append_left _ _) (List.Sublist.refl _))⟩
    refine kLoadA_st (c := cQ Try.prog) hS 0 rfl Try.underlying49 rfl Try.sizeOf49 rfl (kBoth_i (kDrew_st hS fun W hS => kCall_i (Try.call27 _ _) (of27 b _ _ fun W hB => ?_)) (kDrew_st hS fun W hS => kAlloc_st Try.zeroValue49 hS fun p W hS => ?_))
    · have hS := hS.bel hB
      refine kLoadA_st (c := cQ Try.prog) hS 0 rfl Try.underlying49 rfl Try.sizeOf49 rfl (kSame_i (kBoth_i (kDrew_st hS fun W hS => ?_) (kDrew_st hS fun W hS => kAlloc_st Try.zeroValue49 hS fun p W hS => ?_)))
      · refine kBS (E22 W) hS [vVal s, vVal (iv b)] rfl rfl (by omega) (by omega) (by intro v hv; simp at hv; rcases hv with rfl | rfl <;> rfl) fun x cp W hS hl => kBoth_i (kDrew_st hS fun W hS => ?_) (kDrew_st hS fun W hS => kAlloc_st Try.zeroValue49 hS fun p W hS => kDrew_st hS fun W hS => ?_)
        · refine kDo2 (r := d) (e := e2) (hS.sl _ at_r (by intro v hv; simp at hv; rcases hv with rfl | rfl <;> rfl) rfl) hs hb hd2 fun W hB => kExt_0 (kExt_1 (kDrew_st (hS.bel hB) fun W hS => kAlloc_st Try.zeroValue49 hS fun p W hS => kDrew_st hS fun W hS => kStoreAR hS rfl (by simp [Value.oneCell']) Try.sizeOf49 fun W hS => kDrew_st hS fun W hS => fin p _ _ _ hS rfl rfl))
        · refine kDo2 (r := d) (e := e2) (hS.sl _ (at_l at_r) (by intro v hv; simp at hv; rcases hv with rfl | rfl <;> rfl) rfl) hs hb hd2 fun W hB => kExt_0 (kExt_1 (kDrew_st (hS.bel hB) fun W hS => kStoreAR hS rfl (by simp [Value.oneCell']) Try.sizeOf49 fun W hS => kDrew_st hS fun W hS => fin p _ _ _ hS rfl rfl))
      · refine kLoadA_st (c := cQ Try.prog) hS 0 rfl Try.underlying49 rfl Try.sizeOf49 rfl (kSame_i (kDrew_st hS fun W hS => kBS22 (a := s) (b := iv b) hS fun x cp W hS hl => ⟨fun m => ?_⟩))
        refine kDo2 (r := d) (e := e2) (hl _ ⟨rfl, rfl, rfl, Nat.le_refl _, fun _ _ => rfl⟩) hs hb hd2 fun W hB => kExt_0 (kExt_1 (kDrew_st ((hS.drewN m).bel hB) fun W hS => kStoreAR hS rfl (by simp [Value.oneCell']) Try.sizeOf49 fun W hS => kDrew_st hS fun W hS => fin p [] _ _ hS rfl rfl))
    · refine kLoadA_st (c := cQ Try.prog) hS 0 rfl Try.underlying49 rfl Try.sizeOf49 rfl (kSame_i (kDrew_st hS fun W hS => kCall_i (Try.call27 _ _) (of27 b _ _ fun W hB => ?_)))
      have hS := hS.bel hB
      refine kLoadA_st (c := cQ Try.prog) hS 0 rfl Try.underlying49 rfl Try.sizeOf49 rfl (kSame_i (kDrew_st hS fun W hS => kBS22 (a := s) (b := iv b) hS fun x cp W hS hl => ⟨fun m => ?_⟩))
      refine kDo2 (r := d) (e := e2) (hl _ ⟨rfl, rfl, rfl, Nat.le_refl _, fun _ _ => rfl⟩) hs hb hd2 fun W hB => kExt_0 (kExt_1 (kDrew_st ((hS.drewN m).bel hB) fun W hS => kStoreAR hS rfl (by simp [Value.oneCell']) Try.sizeOf49 fun W hS => kDrew_st hS fun W hS => fin p [] _ _ hS rfl rfl))
  rintro cs V ⟨b7, e7, e8, hS⟩
  rw [e7, e8]
  clear e7 e8
  try dsimp only
  have hS : St w [.bx b5 49 (vVal s).cells, .bx b7 49 (vVal d).cells] V := hS
  refine kJn_inv (fun cs V => St w [.bx b5 49 (vVal s).cells, .bx b7 49 (vVal d).cells] V) ?_ ?_
  rotate_left
  · intro J hJ
    refine kDrawn_i (kDrawn_i (kDrew_st hS fun W hS => kCall_i (Try.call25 _ _) (num25 _ _ _ (kEq_int (kIf_eq (fun e => ?_) (fun e => ?_))))))
    · have f := first e
      refine kDrew_st hS fun W hS => kCall_i (Try.call25 _ _) (num25 _ _ _ (kNe_int (kIf_ne (fun e => absurd (congrArg Prod.snd f) e) (fun e => ?_))))
      refine kLoadA_st (c := cQ Try.prog) hS 1 rfl Try.underlying49 rfl Try.sizeOf49 rfl (kDrew_st hS fun W hS => kCall_i (Try.call27 _ _) (of27 a _ _ fun W hB => ?_))
      have hS := hS.bel hB
      refine kLoadA_st (c := cQ Try.prog) hS 1 rfl Try.underlying49 rfl Try.sizeOf49 rfl (kSame_i (kNe_49 (a := d) (b := iv a) ?_))
      rw [decide_eq_true (congrArg Prod.fst f)]
      exact kDrew_st hS fun W hS => kIf_f (kD_i (hJ _ _ hS))
    · exact kDrew_st hS fun W hS => kIf_f (kD_i (hJ _ _ hS))
  rintro cs V hS ds
  clear first hd1 hd2
  refine kCall_i (Try.call27 _ _) (of27 a _ _ fun W hB => kCall_i (Try.call27 _ _) (of27 b _ _ fun W hB' => kBD (r := q) (e := e4) ((hS.bel hB).bel hB') ha hb hd4 fun W hS => kExt_0 (kExt_1 (kAlloc_st Try.zeroValue49 hS fun b9 W hS => kStoreAR hS rfl (by simp [Value.oneCell']) Try.sizeOf49 fun W hS => ?_))))
  have hS : St w [.bx b5 49 (vVal s).cells, .bx b7 49 (vVal d).cells, .bx b9 49 (vVal q).cells] W := hS
  refine kCall_i (Try.call27 _ _) (of27 a _ _ fun W hB => kCall_i (Try.call27 _ _) (of27 b _ _ fun W hB' => kBD (r := r) (e := e5) ((hS.bel hB).bel hB') ha hb hd5 fun W hS => kExt_0 (kExt_1 (kAlloc_st Try.zeroValue49 hS fun b11 W hS => kStoreAR hS rfl (by simp [Value.oneCell']) Try.sizeOf49 fun W hS => ?_))))
  have hS : St w [.bx b5 49 (vVal s).cells, .bx b7 49 (vVal d).cells, .bx b9 49 (vVal q).cells, .bx b11 49 (vVal r).cells] W := hS
  refine kEq_int (kIf_eq (fun e0 => ?_) (fun e0 => ?_))
  · exact kCall_i (Try.call25 _ _) (num25 _ _ _ (kEq_int (kIf_eq (fun _ => kCall_i (Try.call25 _ _) (num25 _ _ _ (kEq_int (kIf_eq (fun _ => endT _ hS.below) (fun q => absurd (g5 e0) q))))) (fun q => absurd (g4 e0) q))))
  · have h5 := h5 e0
    have h4 := h4 e0
    by_cases p : a ≠ -9223372036854775808 ∨ b ≠ -1
    · rw [if_pos p] at h4
      have e40 : e4 = 0 := congrArg Prod.snd h4
      have e50 : e5 = 0 := congrArg Prod.snd h5
      have eq : q = iv (a.tdiv b) := congrArg Prod.fst h4
      have er : r = iv (a.tmod b) := congrArg Prod.fst h5
      have habs : a.tdiv b * b = a - a.tmod b := by have := Int.tmod_add_mul_tdiv a b; rw [Int.mul_comm b] at this; omega
      have hfit : big (a.tdiv b * b) := by
        rw [habs]
        have h1 : (a.tmod b).natAbs ≤ a.natAbs := by rw [Int.natAbs_tmod]; exact Nat.mod_le _ _
        have h2 : 0 ≤ a → 0 ≤ a.tmod b := fun h => Int.tmod_nonneg b h
        have h3 : a ≤ 0 → a.tmod b ≤ 0 := by
          intro h
          have := Int.tmod_nonneg b (a := -a) (by omega)
          rw [Int.neg_tmod] at this; omega
        have := ha
        unfold Rng iv at this
        unfold big
        dsimp only at this
        omega
      have h3 : doR 3 [q, iv b] = (iv (a.tdiv b * b), 0) := by
        rw [eq, doR_num (by omega)]
        have : wholeE 3 (a.tdiv b) b = 0 := by
          unfold wholeE; rw [if_neg (by omega)]
          show fitE (a.tdiv b * b) = 0
          unfold fitE; rw [if_pos hfit]
        rw [if_neg (by omega)]; rfl
      have h1 : doR 1 [iv (a.tdiv b * b), r] = (iv a, 0) := by
        rw [er, doR_num (by omega)]
        have hs : a.tdiv b * b + a.tmod b = a := by omega
        have : wholeE 1 (a.tdiv b * b) (a.tmod b) = 0 := by
          unfold wholeE; rw [if_neg (by omega)]
          show fitE (a.tdiv b * b + a.tmod b) = 0
          rw [hs]; unfold fitE; rw [if_pos ha']
        rw [if_neg (by omega)]
        show (iv (a.tdiv b * b + a.tmod b), (0 : Int)) = _
        rw [hs]
      have hpr : Rng (iv (a.tdiv b * b)) := hfit
      have hrr : Rng r := by rw [er]; exact tmod_big hb' e0
      generalize iv (a.tdiv b * b) = pv at h3 h1 hpr
      clear eq er habs hfit h4 h5 hd4 hd5 g4 g5
      subst e40 e50
      refine kCall_i (Try.call25 _ _) (num25 _ _ _ (kNe_int (kIf_ne (fun q => absurd rfl q) (fun _ => ?_))))
      refine kDrawn_i (kDrawn_i (kJn_inv (fun cs V => ∃ pp : Nat, cs.getD 7 undef = .int .i64 (0 : Int) ∧ cs.getD 8 undef = .pointer (some ⟨pp, 0, none⟩) ∧ St w ([.bx b5 49 (vVal s).cells, .bx b7 49 (vVal d).cells, .bx b9 49 (vVal q).cells, .bx b11 49 (vVal r).cells] ++ [.bx pp 49 (vVal pv).cells]) V) ?_ ?_))
      rotate_left
      · intro J hJ
        have fin : ∀ (pp : Nat) (M : List Own) (V : World) (cs : List Value), St w ([.bx b5 49 (vVal s).cells, .bx b7 49 (vVal d).cells, .bx b9 49 (vVal q).cells, .bx b11 49 (vVal r).cells] ++ M ++ [.bx pp 49 (vVal pv).cells]) V → cs.getD 7 undef = .int .i64 (0 : Int) → cs.getD 8 undef = .pointer (some ⟨pp, 0, none⟩) → J cs V := fun pp M V cs hV h6 h7 => hJ _ _ ⟨pp, h6, h7, hV.sub (List.Sublist.append (List.sublist_append_left _ _) (List.Sublist.refl _))⟩
        refine kLoadA_st (c := cQ Try.prog) hS 2 rfl Try.underlying49 rfl Try.sizeOf49 rfl (kBoth_i (kDrew_st hS fun W hS => kCall_i (Try.call27 _ _) (of27 b _ _ fun W hB => ?_)) (kDrew_st hS fun W hS => kAlloc_st Try.zeroValue49 hS fun p W hS => ?_))
        · have hS := hS.bel hB
          refine kLoadA_st (c := cQ Try.prog) hS 2 rfl Try.underlying49 rfl Try.sizeOf49 rfl (kSame_i (kBoth_i (kDrew_st hS fun W hS => ?_) (kDrew_st hS fun W hS => kAlloc_st Try.zeroValue49 hS fun p W hS => ?_)))
          · refine kBS (E22 W) hS [vVal q, vVal (iv b)] rfl rfl (by omega) (by omega) (by intro v hv; simp at hv; rcases hv with rfl | rfl <;> rfl) fun x cp W hS hl => kBoth_i (kDrew_st hS fun W hS => ?_) (kDrew_st hS fun W hS => kAlloc_st Try.zeroValue49 hS fun p W hS => kDrew_st hS fun W hS => ?_)
            · refine kDo2 (r := pv) (e := (0 : Int)) (hS.sl _ at_r (by intro v hv; simp at hv; rcases hv with rfl | rfl <;> rfl) rfl) hrq hb h3 fun W hB => kExt_0 (kExt_1 (kDrew_st (hS.bel hB) fun W hS => kAlloc_st Try.zeroValue49 hS fun p W hS => kDrew_st hS fun W hS => kStoreAR hS rfl (by simp [Value.oneCell']) Try.sizeOf49 fun W hS => kDrew_st hS fun W hS => fin p _ _ _ hS rfl rfl))
            · refine kDo2 (r := pv) (e := (0 : Int)) (hS.sl _ (at_l at_r) (by intro v hv; simp at hv; rcases hv with rfl | rfl <;> rfl) rfl) hrq hb h3 fun W hB => kExt_0 (kExt_1 (kDrew_st (hS.bel hB) fun W hS => kStoreAR hS rfl (by simp [Value.oneCell']) Try.sizeOf49 fun W hS => kDrew_st hS fun W hS => fin p _ _ _ hS rfl rfl))
          · refine kLoadA_st (c := cQ Try.prog) hS 2 rfl Try.underlying49 rfl Try.sizeOf49 rfl (kSame_i (kDrew_st hS fun W hS => kBS22 (a := q) (b := iv b) hS fun x cp W hS hl => ⟨fun m => ?_⟩))
            refine kDo2 (r := pv) (e := (0 : Int)) (hl _ ⟨rfl, rfl, rfl, Nat.le_refl _, fun _ _ => rfl⟩) hrq hb h3 fun W hB => kExt_0 (kExt_1 (kDrew_st ((hS.drewN m).bel hB) fun W hS => kStoreAR hS rfl (by simp [Value.oneCell']) Try.sizeOf49 fun W hS => kDrew_st hS fun W hS => fin p [] _ _ hS rfl rfl))
        · refine kLoadA_st (c := cQ Try.prog) hS 2 rfl Try.underlying49 rfl Try.sizeOf49 rfl (kSame_i (kDrew_st hS fun W hS => kCall_i (Try.call27 _ _) (of27 b _ _ fun W hB => ?_)))
          have hS := hS.bel hB
          refine kLoadA_st (c := cQ Try.prog) hS 2 rfl Try.underlying49 rfl Try.sizeOf49 rfl (kSame_i (kDrew_st hS fun W hS => kBS22 (a := q) (b := iv b) hS fun x cp W hS hl => ⟨fun m => ?_⟩))
          refine kDo2 (r := pv) (e := (0 : Int)) (hl _ ⟨rfl, rfl, rfl, Nat.le_refl _, fun _ _ => rfl⟩) hrq hb h3 fun W hB => kExt_0 (kExt_1 (kDrew_st ((hS.drewN m).bel hB) fun W hS => kStoreAR hS rfl (by simp [Value.oneCell']) Try.sizeOf49 fun W hS => kDrew_st hS fun W hS => fin p [] _ _ hS rfl rfl))
      rintro cs V ⟨b13, e7, e8, hS⟩
      rw [e7, e8]
      clear e7 e8
      try dsimp only
      have hS : St w [.bx b5 49 (vVal s).cells, .bx b7 49 (vVal d).cells, .bx b9 49 (vVal q).cells, .bx b11 49 (vVal r).cells, .bx b13 49 (vVal pv).cells] V := hS
      refine kLoadA_st (c := ⟨Try.prog, _, false⟩) hS 4 rfl Try.underlying49 rfl Try.sizeOf49 rfl (kLoadA_st (c := ⟨Try.prog, _, false⟩) hS 3 rfl Try.underlying49 rfl Try.sizeOf49 rfl ?_)
      refine kBD (a := pv) (b := r) (r := iv a) (e := 0) hS hpr hrr h1 fun W hS => kExt_0 (kExt_1 (kAlloc_st Try.zeroValue49 hS fun b15 W hS => kStoreAR hS rfl (by simp [Value.oneCell']) Try.sizeOf49 fun W hS => ?_))
      have hS : St w [.bx b5 49 (vVal s).cells, .bx b7 49 (vVal d).cells, .bx b9 49 (vVal q).cells, .bx b11 49 (vVal r).cells, .bx b13 49 (vVal pv).cells, .bx b15 49 (vVal (iv a)).cells] W := hS
      refine kDrawn_i (kDrawn_i (kDrew_st hS fun W hS => kCall_i (Try.call25 _ _) (num25 _ _ _ (kDrew_st hS fun W hS => kCall_i (Try.call25 _ _) (num25 _ _ _ (kBin_add (kDrew_st hS fun W hS => kCall_i (Try.call25 _ _) (num25 _ _ _ (kBin_add (kSame_i (kBin_add (kEq_int (kIf_t ?_)))))))))))))
      refine kLoadA_st (c := cQ Try.prog) hS 5 rfl Try.underlying49 rfl Try.sizeOf49 rfl (kDrew_st hS fun W hS => kCall_i (Try.call27 _ _) (of27 a _ _ fun W hB => ?_))
      have hS := hS.bel hB
      refine kLoadA_st (c := cQ Try.prog) hS 5 rfl Try.underlying49 rfl Try.sizeOf49 rfl (kSame_i (kEq_49 (a := iv a) (b := iv a) (kIf_d (fun _ => kDrew_st hS fun W hS => kCall_i (Try.call22 _ _) (works22 _ _ fun W hB => kDrew_st (hS.bel hB) fun W hS => h W hS.below)) (fun q => absurd rfl q))))
    · rw [if_neg p] at h4
      have e40 : e4 = 122 := congrArg Prod.snd h4
      exact kCall_i (Try.call25 _ _) (num25 _ _ _ (kNe_int (kIf_ne (fun _ => kCall_i (Try.call25 _ _) (num25 _ _ _ (kEq_int (kIf_eq (fun _ => kEq_int (kIf_eq (fun _ => endT _ hS.below) (fun q => by omega))) (fun q => absurd e40 q))))) (fun q => by omega))))
end Go.L
namespace Go.L
open Go Go.RowKit Go.Proofs
set_option linter.unusedSimpArgs false
set_option linter.unusedVariables false

/-- A range over a function, behind others whose marks are left. -/
theorem kRange_mk {P : Program} {w0 w : World} {g : Value} {np : Nat} {round : Nat → Nat → List Value → World → (Exit → World → Prop) → Prop} {Kn Kr : Nat → World → Prop} {Kx : Nat → Nat → World → Prop} {Kp : Nat → Chain → World → Prop} {ds : List Nat}
    (n : Nat) (xs : Nat → List Value) (A : Nat → List Own → Prop) (Z : Exit → List Own → Prop) (hs : w0.heap.size ≤ w.heap.size) (hnd : ds.Nodup) (hdlt : ∀ D ∈ ds, D < w.heap.size)
    (hA : ∀ i L, A i L → ∀ o ∈ L, o.cl) (hZ : ∀ ex L, Z ex L → ∀ o ∈ L, o.cl) (hlen : ∀ i, (xs i).length = np)
    (h0 : ∃ L, A 0 L ∧ St w0 (L ++ marks ds) w)
    (hround : ∀ i l D lo W L, i < n → w0.heap.size ≤ l → w0.heap.size ≤ D → A i L → St w0 (L ++ marks ds ++ lpD l lo D) W → round l D (xs i) W (fun ex W' => match ex with | .normal => ∃ L, A (i + 1) L ∧ St w0 (L ++ marks ds) W' | ex => ∃ L, Z ex L ∧ St w0 (L ++ marks ds) W'))
    (hiter : Iter P g n (fun i => (xs i).toArray) (fun i W => ∃ L, A i L ∧ St w0 (L ++ marks ds) W) w)
    (hn : ∀ D W L, A n L → (D :: ds).Nodup → w0.heap.size ≤ D → St w0 (L ++ marks (D :: ds)) W → Kn D W)
    (hr : ∀ D W L, Z .ret L → (D :: ds).Nodup → w0.heap.size ≤ D → St w0 (L ++ marks (D :: ds)) W → Kr D W)
    (hx : ∀ id D W L, Z (.exit id) L → (D :: ds).Nodup → w0.heap.size ≤ D → St w0 (L ++ marks (D :: ds)) W → Kx D id W)
    (hp : ∀ ch D W L, Z (.panic ch) L → (D :: ds).Nodup → w0.heap.size ≤ D → St w0 (L ++ marks (D :: ds)) W → Kp D ch W) : kRange P none w g np round Kn Kr Kx Kp := by
  have more : ∀ D (W : World) L, (∀ o ∈ L, o.cl) → w.heap.size ≤ D → W.heap[D]? = some (.deferred (some [])) → St w0 (L ++ marks ds) W → (D :: ds).Nodup ∧ w0.heap.size ≤ D ∧ St w0 (L ++ marks (D :: ds)) W := by
    intro D W L hcl hD hdf hS
    have hlt : ∀ D' ∈ ds, D' < D := fun D' h' => Nat.lt_of_lt_of_le (hdlt D' h') hD
    refine ⟨List.nodup_cons.2 ⟨fun hm => Nat.lt_irrefl _ (hlt D hm), hnd⟩, Nat.le_trans hs hD, ?_⟩
    have := (hS.adopt (o := .ob D (.deferred (some []))) ⟨Nat.le_trans hs hD, hdf⟩ (rr_adopt hS hcl hlt (Nat.le_trans hs hD) hdf rfl)).ins L.length
    have e1 : (L ++ marks ds).take L.length = L := by simp
    have e2 : (L ++ marks ds).drop L.length = marks ds := by simp
    rw [e1, e2] at this
    exact this
  refine ⟨rfl, n, xs, fun i W => ∃ L, A i L ∧ St w0 (L ++ marks ds) W, fun ex W => ∃ L, Z ex L ∧ St w0 (L ++ marks ds) W, ?_, ?_, hlen, h0, ?_, hiter, ?_, ?_, ?_, ?_⟩
  · rintro i _ V V' row ⟨L, ha, hV⟩ hg hrow
    exact ⟨L, ha, rr_turn hV (hA _ _ ha) hdlt hs hg hrow⟩
  · rintro i _ V V' row ⟨L, ha, hV⟩ hg hrow
    exact ⟨L, ha, rr_turn hV (hZ _ _ ha) hdlt hs hg hrow⟩
  · rintro i l D lo W hi hD hl hlD hlo hdf ⟨L, ha, hV⟩
    have hltl : ∀ D' ∈ ds, D' < l := fun D' h' => Nat.lt_of_lt_of_le (hdlt D' h') hl
    have hltD : ∀ D' ∈ ds, D' < D := fun D' h' => Nat.lt_of_lt_of_le (hdlt D' h') hD
    have hV2 := hV.adopt (o := .ob l (.loop lo)) ⟨Nat.le_trans hs hl, hlo⟩ (rr_adopt hV (hA _ _ ha) hltl (Nat.le_trans hs hl) hlo rfl)
    have hV3 := hV2.adopt (o := .ob D (.deferred (some []))) ⟨Nat.le_trans hs hD, hdf⟩ (fun p hp => by
      rcases List.mem_append.1 hp with hp | hp
      · exact rr_adopt hV (hA _ _ ha) hltD (Nat.le_trans hs hD) hdf rfl p hp
      · simp at hp; subst hp; right; intro he; cases he; exact hlD rfl)
    have e : (L ++ marks ds ++ [Own.ob l (.loop lo)] ++ [Own.ob D (.deferred (some []))]) = L ++ marks ds ++ lpD l lo D := by simp
    rw [e] at hV3
    exact hround i l D lo W L hi (Nat.le_trans hs hl) (Nat.le_trans hs hD) ha hV3
  · rintro D W hD hdf ⟨L, ha, hV⟩; obtain ⟨m1, m2, m3⟩ := more D W L (hA _ _ ha) hD hdf hV; exact hn D W L ha m1 m2 m3
  · rintro D W hD hdf ⟨L, ha, hV⟩; obtain ⟨m1, m2, m3⟩ := more D W L (hZ _ _ ha) hD hdf hV; exact hr D W L ha m1 m2 m3
  · rintro id D W hD hdf ⟨L, ha, hV⟩; obtain ⟨m1, m2, m3⟩ := more D W L (hZ _ _ ha) hD hdf hV; exact hx id D W L ha m1 m2 m3
  · rintro ch D W hD hdf ⟨L, ha, hV⟩; obtain ⟨m1, m2, m3⟩ := more D W L (hZ _ _ ha) hD hdf hV; exact hp ch D W L ha m1 m2 m3
/-- All marks are taken back. -/
theorem Lv_mks {rs : List RV} {R : Ending → World → Prop} {u : FrameMode} (hu : u ≠ .run) {w0 W : World} {X : List Own} {ds : List Nat} {b4 : Nat} {t4 : TypeId} {c4 : Array Value} (hnd : ds.Nodup) (hS : St w0 (X ++ marks ds) W) (i : Nat) (hi : X[i]? = some (.bx b4 t4 c4))
    (h : ∀ V, Below w0.heap.size w0 V → V.heap[b4]? = some (.cells c4 t4 (0, 0)) → RetK Try.prog rs R V) (hu' : u = .returning) : Lv Try.prog rs R (ds.map markOf) u W := by
  subst hu'
  have h4 := hS.get i (at_l hi)
  refine Lv_marks (by simp) ds W hnd (fun D hD => ?_) hS.below h4.2 (fun V hB h4 => h V hB h4)
  have := hS.all (.ob D (.deferred (some []))) (List.mem_append_right _ (List.mem_map.2 ⟨D, hD, rfl⟩))
  exact ⟨this.1, this.2⟩
theorem kEq_fn68 {X : Chain → World → Prop} {q : Bool} {w : World} {k : Value → World → Prop} {ox oy : Operand} {f : FuncId} {caps : Array Value} (h : k (.bool false) w) : kEq ⟨Try.prog, X, q⟩ w .eql 68 ox oy (.func (.func f) #[] caps) .nilFunc k :=
  ⟨kVal_pure (c := ⟨Try.prog, X, q⟩) (v := .bool false) (fun w' => by
    simp only [go_sem]
    show Sem.run Try.prog (do pure (.bool (← Op.equal 68 (.func (.func f) #[] caps) .nilFunc)) : Sem Value) w' = _
    have : (Op.equal 68 (.func (.func f) #[] caps) .nilFunc).run Try.prog w' = .ok false w' := by
      unfold Op.equal Op.maxDepth Op.equalIn
      simp [run_underlying Try.underlying68]
    simp [this]) h⟩
theorem ne62 (a b : IV) (ox oy : Operand) (w : World) : (do eqGuard .neq 62 ox oy (iVal a) (iVal b); binOp .neq 62 (iVal a) (iVal b) : Sem Value).run Try.prog w = .ok (.bool (!decide (a = b))) w := by
  obtain ⟨a1, a2, a3, a4⟩ := a
  obtain ⟨b1, b2, b3, b4⟩ := b
  simp [go_sem, iVal, Try.underlying62, Try.eqGuardType62, Try.stoodInHeld62, Try.underlying27, Try.underlying3, Try.underlying9, Op.eqFields, bytes_toList_inj]
  by_cases h1 : a1 = b1 <;> by_cases h2 : a2 = b2 <;> by_cases h3 : a3 = b3 <;> by_cases h4 : a4 = b4 <;> simp [h1, h2, h3, h4]
theorem kNe_62 {X : Chain → World → Prop} {w : World} {k : Value → World → Prop} {q : Bool} {a b : IV} {ox oy : Operand} (h : k (.bool (!decide (a = b))) w) : kEq ⟨Try.prog, X, q⟩ w .neq 62 ox oy (iVal a) (iVal b) k := ⟨kVal_pure (c := ⟨Try.prog, X, q⟩) (fun w' => by exact ne62 a b ox oy w') h⟩
theorem infoO_nat {k : Nat} (h1 : 1 ≤ k) (h2 : k < 21) : infoO k = infoT.getD k info0 := by
  unfold infoO
  rw [if_pos (by omega)]; rfl
/-- The iterator over the operators. -/
theorem iter75 {w : World} {J : Nat → World → Prop} : Iter Try.prog (.func (.func 75) #[] #[]) 20 (fun i => [.int .i64 ((i + 1 : Nat) : Int), iVal (infoO ((i + 1 : Nat) : Int))].toArray) J w := by
  refine ⟨75, #[], rfl, Try.call75, ?_⟩
  intro l J' Z' W hB hsJ hsZ hJ' hy h0
  show Calls Try.prog 75 #[.func (.yield l) #[] #[]] W _
  refine c75 _ _ _ ?_
  unfold vc75
  refine kCall_i (Try.call74 _ _) (rows74 _ _ fun W1 hB1 => ?_)
  have h1 := hsJ 0 W W1 h0 hB1
  refine ⟨⟨fun cs V => ∃ i : Nat, cs = [.int .i64 i] ∧ i ≤ 21 ∧ J' (i - 1) V, fun cs _ => 21 - (match cs with | [.int _ i] => i.toNat | _ => 0), ⟨0, rfl, Nat.zero_le _, h1⟩, ?_⟩⟩
  rintro cs ds V ⟨i, rfl, hile, hJi⟩
  dsimp only [List.getD_cons_zero]
  refine kBin_lss (kIf_d (fun e => ?_) (fun e => ?_))
  · have hil : i < 21 := by omega
    have hm : 21 - ((i : Int) + 1).toNat < 21 - (i : Int).toNat := by omega
    refine kIx_i (fun w => ix116 w i hil) ?_
    refine kAlloc_st Try.zeroValue62 (St.start V) fun b3 V1 hS => kStoreA_st hS 0 rfl rfl (by simp [Value.oneCell']) Try.sizeOf62 fun V2 hS => ?_
    refine kBin_gtr (kIf_d (fun e0 => ?_) (fun e0 => ?_))
    · refine kLoadA_st (c := ⟨Try.prog, _, false⟩) hS 0 rfl Try.underlying62 rfl Try.sizeOf62 rfl ?_
      obtain ⟨j, rfl⟩ : ∃ j, i = j + 1 := ⟨i - 1, by omega⟩
      have hyy := hy j V2 (by omega) (hsJ j V V2 hJi hS.below)
      dsimp only at hyy
      rw [infoO_nat (by omega) hil] at hyy
      refine kCallV_y hyy ?_
      intro en W' hen
      cases en with
      | outgrown => exact hen.elim
      | panicked ch => exact hen
      | returned v =>
        rcases hen with ⟨rfl, hj⟩ | ⟨rfl, hz⟩
        · refine kUn_not (kIf_f (kBin_add (kD_i ⟨⟨j + 1 + 1, by rw [wrap_id (by omega) (by omega)]; rfl, by omega, hj⟩, ?_⟩)))
          rw [wrap_id (by omega) (by omega)]; exact hm
        · exact kUn_not (kIf_t (.inr hz))
    · have hi0 : i = 0 := by omega
      subst hi0
      refine kIf_f (kBin_add (kD_i ⟨⟨1, by rw [wrap_id (by omega) (by omega)]; rfl, by omega, hsJ 0 V V2 hJi hS.below⟩, ?_⟩))
      rw [wrap_id (by omega) (by omega)]; exact hm
  · have : i = 21 := by omega
    subst this
    exact .inl hJi
theorem Ops30 (w : World) (R : Ending → World → Prop) (h : R (.returned (.func (.func 75) #[] #[])) w) : Calls Try.prog 30 #[] w R := by
  refine c30 _ _ ?_
  unfold vc30
  exact h
end Go.L
namespace Go.L
open Go Go.RowKit Go.Proofs
set_option linter.unusedSimpArgs false
set_option linter.unusedVariables false

def siN (many t : Int) : Int := if t = 0 then (if (if many > 1 then many else 1) < 20 then (if many > 1 then many else 1) else 20) else 20
theorem kName {o : Int} : (decide (1 ≤ o ∧ o ≤ 20) != !decide ((infoO o).1 = ⟨#[]⟩)) = false := by
  by_cases h : 1 ≤ o ∧ o ≤ 20
  · obtain ⟨k, rfl⟩ : ∃ k : Nat, o = (k : Int) := ⟨o.toNat, by omega⟩
    have h1 : 1 ≤ k := by omega
    have h2 : k < 21 := by omega
    rw [infoO_name k h2 h1, decide_eq_true h, decide_eq_false (nameT_ne k h1 h2)]; rfl
  · rw [decide_eq_false h, show infoO o = info0 from if_neg h, decide_eq_true (show info0.1 = ⟨#[]⟩ from rfl)]; rfl
theorem SumInfos9 (o many : Int) (l : List Int) (w : World) (lo : Option Addr) (lc : Nat) (hl : Sl w lo 1 (l.map vInt)) (R : Ending → World → Prop)
    (h : ∀ W, Below w.heap.size w W → R (.returned (.bool true)) W) : Calls Try.prog 9 #[.int .i64 o, .slice lo l.length lc, .int .i64 many] w R := by
  refine c9 _ _ _ _ _ _ _ ?_
  unfold vc9
  refine kBox_st (St.start w) fun b5 W hS => kAlloc_st Try.zeroValue4 hS fun b6 W hS => ?_
  have hS : St w [.bx b5 3 #[.int .i64 many], .bx b6 4 #[.bool false]] W := hS
  refine kLen24 (kBin_gtr (kIf_d (fun hbig => ?_) (fun hsm => ?_)))
  · refine kCall_i (Try.call22 _ _) (works22 W _ fun W' hBe => ?_)
    have hS := hS.bel hBe
    exact kSt hS 1 rfl (by simp [Value.cells]) rfl rfl rfl fun W hS => RetK_cell rfl (hS.cell 1 rfl 0 rfl) (h _ hS.below)
  refine ⟨⟨fun cs V => ∃ (i : Nat) (x : Value), cs = [x, .int .i64 i] ∧ i ≤ l.length ∧ St w ([.bx b5 3 #[.int .i64 many], .bx b6 4 #[.bool false]] ++ [.row x 3 1 (l.take i).length ((l.take i).map vInt)]) V, fun cs _ => l.length - (match cs with | [_, .int _ i] => i.toNat | _ => 0),
    ⟨0, _, rfl, Nat.zero_le _, hS.adopt (o := .row (.slice none 0 0) 3 1 0 []) (World.ownsRow_nil _ _ _ _) (fun p hp => by simp at hp; rcases hp with rfl | rfl <;> (right; intro q; cases q))⟩, ?_⟩⟩
  rintro cs ds V ⟨i, x, rfl, hile, hV⟩
  dsimp only [List.getD_cons_zero, List.getD_cons_succ]
  refine kLen24 (kBin_lss (kIf_d (fun e => ?_) (fun e => ?_)))
  · have hil : i < l.length := by omega
    obtain ⟨pb, po, rfl, hpb, hpr⟩ := (hl.below hV.below).elem (i := i) (v := vInt l[i]) (by simp [hil])
    refine kIa24 hil (kLdS rfl (hpr 0 (.int .i64 l[i]) rfl) (kAppInt (E23 V) hV (by simp; omega) fun x' V3 hV3 => kBin_add (kD_i ⟨⟨i + 1, x', ?_, hil, ?_⟩, ?_⟩)))
    · rw [wrap_id (by omega) (by omega)]; rfl
    · rw [List.take_succ_eq_append_getElem hil]; exact hV3
    · rw [wrap_id (by omega) (by omega)]; show l.length - ((i : Int) + 1).toNat < l.length - (i : Int).toNat; omega
  have hil : i = l.length := by omega
  subst hil
  rw [List.take_length] at hV
  have hown : V.ownsRow w.heap.size 3 1 x l.length (l.map vInt) := hV.get 2 rfl
  obtain ⟨a, cp, rfl, hls⟩ := Sl.of_owns (base := w.heap.size) (e := 3) (sz := 1) (n := l.length) (vs := l.map vInt) (by simp [vInt, Value.cells]) (by rw [flatI]; exact hown) (by simp)
  refine kCall_i (Try.call28 _ _) (Info28 o _ _ fun W hB1 => kExt_0 (kExt_1 (kAlloc_st Try.zeroValue62 (hV.bel hB1) fun b9 W hS => kStoreAR hS rfl (by simp [Value.oneCell']) Try.sizeOf62 fun W hS => ?_)))
  obtain ⟨L, hL⟩ : ∃ L : List Own, L = [.bx b5 3 #[.int .i64 many], .bx b6 4 #[.bool false], .row (.slice a l.length cp) 3 1 l.length (l.map vInt), .bx b9 62 (iVal (infoO o)).cells] := ⟨_, rfl⟩
  have hS : St w L W := by rw [hL]; exact hS
  have hcl : ∀ o ∈ L, o.cl := by rw [hL]; intro o ho; simp at ho; rcases ho with rfl | rfl | rfl | rfl <;> trivial
  have i0 : L[0]? = some (.bx b5 3 #[.int .i64 many]) := by rw [hL]; rfl
  have i1 : L[1]? = some (.bx b6 4 #[.bool false]) := by rw [hL]; rfl
  have i2 : L[2]? = some (.row (.slice a l.length cp) 3 1 l.length (l.map vInt)) := by rw [hL]; rfl
  have i3 : L[3]? = some (.bx b9 62 (iVal (infoO o)).cells) := by rw [hL]; rfl
  have i4 : L.length = 4 := by rw [hL]; rfl
  refine kCall_i (Try.call26 _ _) (Makes26 o l W lo lc (hl.below hS.below) (by omega) _ fun W hB => kExt_0 (kExt_1 ?_))
  have hS := hS.bel hB
  refine kCall_i (Try.call29 _ _) (refMakes29 o l W a cp (hS.sl (e := 3) 2 (by rw [i2, show flat (l.map vInt) = l.map vInt from flatI l]) (by simp [vInt, Value.cells]) (by simp)) (by omega) _ fun W hB => kExt_0 (kExt_1 ?_))
  have hS := hS.bel hB
  refine kCall_i (Try.call30 _ _) (Ops30 _ _ ?_)
  refine kJn_inv (fun cs V => St w L V) ?_ ?_
  rotate_left
  · intro J hJ
    refine kDrawn_i (kDrawn_i (kEq_fn68 (kIf_f (kLoadA_st (c := cQ Try.prog) hS 3 i3 Try.underlying62 rfl Try.sizeOf62 rfl (kDrew_st hS fun W hS => kCall_i (Try.call31 _ _) (Info31 o _ _ fun W hB => ?_))))))
    have hS := hS.bel hB
    refine kLoadA_st (c := cQ Try.prog) hS 3 i3 Try.underlying62 rfl Try.sizeOf62 rfl (kSame_i (kNe_62 (a := infoO o) (b := infoO o) (kIf_nd (fun q => absurd rfl q) (fun _ => ?_))))
    refine kFa62 0 (by omega) (kLd hS 3 i3 rfl rfl (kNe_str (kNe_b4 ?_)))
    rw [kName]
    exact kIf_f (kNe_int (kIf_ne (fun q => absurd rfl q) (fun _ => kDrew_st hS fun W hS => kCall_i (Try.call25 _ _) (num25 _ _ _ (kNe_int (kDrew_st hS fun W hS => kIf_ne (fun q => absurd rfl q) (fun _ => kD_i (hJ _ _ hS))))))))
  rintro cs0 W hS ds0
  refine kAlloc_st Try.zeroValue3 hS fun b16 W hS => ?_
  have hS : St w (L ++ [.bx b16 3 #[.int .i64 0]]) W := hS
  refine kSt hS L.length at_r (by simp) rfl rfl rfl fun W hS => ?_
  rw [set_r] at hS
  refine ⟨⟨fun cs d W => ∃ (t : Nat) (b16 : Nat) (ds : List Nat), cs = [.pointer (some ⟨b16, 0, none⟩)] ∧ d = ds.map markOf ∧ ds.Nodup ∧ (∀ D ∈ ds, w.heap.size ≤ D) ∧ ds.length = t ∧ t ≤ 2 ∧ St w (L ++ [.bx b16 3 #[.int .i64 t]] ++ marks ds) W, fun _ d _ => 2 - d.length, ⟨0, b16, [], rfl, rfl, by simp, by simp, rfl, by omega, by rw [show marks [] = [] from rfl, List.append_nil]; exact hS⟩, ?_⟩⟩
  rintro cs ds' d W ⟨t, b16, ds, rfl, rfl, hnd, hge, hdl, ht2, hS⟩
  dsimp only [List.getD_cons_zero]
  have it : ∀ M : List Own, (L ++ [Own.bx b16 3 #[.int .i64 t]] ++ M)[4]? = some (.bx b16 3 #[.int .i64 t]) := by intro M; rw [hL]; rfl
  refine kLd hS 4 (it _) rfl rfl (kBin_lss (kIf_d (fun hlt => ?_) (fun hge2 => ?_)))
  rotate_left
  · refine kCall_i (Try.call22 _ _) (works22 W _ fun W' hBe => ?_)
    have hS := hS.bel hBe
    refine kSt hS 1 (at_l (at_l i1)) (by simp [Value.cells]) rfl rfl rfl fun W hS => ?_
    have hS : St w ([.bx b5 3 #[.int .i64 many], .bx b6 4 #[.bool true], .row (.slice a l.length cp) 3 1 l.length (l.map vInt), .bx b9 62 (iVal (infoO o)).cells, .bx b16 3 #[.int .i64 t]] ++ marks ds) W := by rw [hL] at hS; exact hS
    exact Lv_mks (by simp) hnd hS 1 rfl (fun V hB h4 => RetK_cell rfl (by rw [cell_of_row V b6 0 _ 4 (0, 0) h4]; rfl) (h V hB)) rfl
  have ht : t = 0 ∨ t = 1 := by omega
  refine kJnD_inv (fun _ d V => ∃ D, d = (D :: ds).map markOf ∧ (D :: ds).Nodup ∧ w.heap.size ≤ D ∧ St w (L ++ [.bx b16 3 #[.int .i64 t]] ++ marks (D :: ds)) V) ?_ ?_
  · rintro cs d V ⟨D, rfl, hnd', hgeD, hS⟩ ds2
    refine kLd hS 4 (it _) rfl rfl (kAlloc_st Try.zeroValue3 hS fun b16' V hS => ?_)
    refine kSt hS _ at_r (by simp [Value.cells]) rfl rfl rfl fun V hS => ?_
    rw [set_r] at hS
    refine kLd hS _ at_r rfl rfl (kBin_add (kSt hS _ at_r (by simp [Value.cells]) rfl rfl rfl fun V hS => ?_))
    rw [set_r, wrap_id (by omega) (by omega)] at hS
    have hS : St w (L ++ [.bx b16' 3 #[.int .i64 ((t + 1 : Nat) : Int)]] ++ marks (D :: ds)) V := by
      have := hS.ins 5
      have := this.del 4
      rw [hL] at this ⊢; exact this
    refine ⟨⟨t + 1, b16', D :: ds, rfl, rfl, hnd', ?_, by simp [hdl], by omega, hS⟩, by simp; omega⟩
    intro D' hD'
    rcases List.mem_cons.1 hD' with rfl | hD'
    · exact hgeD
    · exact hge D' hD'
  intro J1 hJ1
  refine kAlloc_st Try.zeroValue3 hS fun b17 W hS => ?_
  refine kSt hS _ at_r (by simp [Value.cells]) rfl rfl rfl fun W hS => ?_
  rw [set_r] at hS
  have hS : St w (L ++ [.bx b16 3 #[.int .i64 t], .bx b17 3 #[.int .i64 0]] ++ marks ds) W := by
    have := hS.ins 5
    rw [hL] at this ⊢; exact this
  have jt : ∀ (c : Int) (M : List Own), (L ++ [Own.bx b16 3 #[.int .i64 t], .bx b17 3 #[.int .i64 c]] ++ M)[4]? = some (.bx b16 3 #[.int .i64 t]) := by intro c M; rw [hL]; rfl
  have jn : ∀ (c : Int) (M : List Own), (L ++ [Own.bx b16 3 #[.int .i64 t], .bx b17 3 #[.int .i64 c]] ++ M)[5]? = some (.bx b17 3 #[.int .i64 c]) := by intro c M; rw [hL]; rfl
  have jm : ∀ (c : Int) (M : List Own), (L ++ [Own.bx b16 3 #[.int .i64 t], .bx b17 3 #[.int .i64 c]] ++ M)[0]? = some (.bx b5 3 #[.int .i64 many]) := by intro c M; rw [hL]; rfl
  refine kJnD_inv (fun _ d V => ∃ D, d = (D :: ds).map markOf ∧ (D :: ds).Nodup ∧ w.heap.size ≤ D ∧ St w (L ++ [.bx b16 3 #[.int .i64 t], .bx b17 3 #[.int .i64 (siN many t)]] ++ marks (D :: ds)) V) ?_ ?_
  · rintro cs d V ⟨D, rfl, hnd', hgeD, hS⟩ ds2
    have fin : J1 [] ((D :: ds).map markOf) V := hJ1 _ _ _ ⟨D, rfl, hnd', hgeD, by have := hS.del 5; rw [hL] at this ⊢; exact this⟩
    rcases ht with rfl | rfl
    · refine kLd hS 4 (jt _ _) rfl rfl (kEq_int (kIf_eq (fun _ => ?_) (fun hne => absurd rfl hne)))
      refine kLd hS 5 (jn _ _) rfl rfl (kLd hS 0 (jm _ _) rfl rfl (kMax2 (kMin2 (kNe_int (kIf_ne (fun hne => ?_) (fun _ => ?_))))))
      · exact absurd (by simp [siN]) hne
      · exact kLd hS 4 (jt _ _) rfl rfl (kEq_int (kIf_eq (fun h0 => by simp at h0) (fun _ => kIf_f fin)))
    · refine kLd hS 4 (jt _ _) rfl rfl (kEq_int (kIf_eq (fun h0 => by simp at h0) (fun _ => ?_)))
      refine kLd hS 4 (jt _ _) rfl rfl (kEq_int (kIf_eq (fun _ => ?_) (fun hne => absurd rfl hne)))
      refine kLd hS 5 (jn _ _) rfl rfl (kNe_int (kIf_ne (fun hne => ?_) (fun _ => fin)))
      exact absurd (by simp [siN]) hne
  intro J2 hJ2
  have hdlt : ∀ D ∈ ds, D < W.heap.size := fun D hD => (Own.lt (hS.all (.ob D (.deferred (some []))) (List.mem_append_right _ (List.mem_map.2 ⟨D, hD, rfl⟩))) D rfl).2
  have hXcl : ∀ c : Int, ∀ o ∈ L ++ [.bx b16 3 #[.int .i64 t], .bx b17 3 #[.int .i64 c]], o.cl := by
    intro c o ho
    rcases List.mem_append.1 ho with ho | ho
    · exact hcl o ho
    · simp at ho; rcases ho with rfl | rfl <;> trivial
  refine kRange_mk (w0 := w) 20 (fun i => [.int .i64 ((i + 1 : Nat) : Int), iVal (infoO ((i + 1 : Nat) : Int))])
    (fun i X => X = L ++ [.bx b16 3 #[.int .i64 t], .bx b17 3 #[.int .i64 (i : Nat)]] ∧ (t = 0 → i = 0 ∨ (i : Int) < many))
    (fun ex X => ex = .exit 4 ∧ X = L ++ [.bx b16 3 #[.int .i64 t], .bx b17 3 #[.int .i64 (siN many t)]])
    hS.size hnd hdlt (fun i X h => h.1 ▸ hXcl _) (fun ex X h => h.2 ▸ hXcl _) (fun _ => rfl) ⟨_, ⟨rfl, fun _ => .inl rfl⟩, hS⟩ ?_ iter75 ?_ ?_ ?_ ?_
  · rintro i l1 D lo1 W1 X hi hl1 hD ⟨rfl, hcond⟩ hV
    refine kAlloc_st Try.zeroValue62 hV fun b19 V1 hS1 => kStoreAR hS1 rfl (by simp [Value.oneCell']) Try.sizeOf62 fun V2 hS2 => ?_
    refine rndMid_cl hV hS2 fun lo2 V3 hS3 => ?_
    have k8 : ∀ c : Int, (L ++ [Own.bx b16 3 #[.int .i64 t], .bx b17 3 #[.int .i64 c]] ++ marks ds ++ lpD l1 lo2 D ++ [.bx b19 62 (iVal (infoO ((i + 1 : Nat) : Int))).cells])[(L ++ [Own.bx b16 3 #[.int .i64 t], .bx b17 3 #[.int .i64 c]] ++ marks ds ++ lpD l1 lo2 D).length]? = some (.bx b19 62 (iVal (infoO ((i + 1 : Nat) : Int))).cells) := fun c => at_r
    have kt : ∀ c : Int, (L ++ [Own.bx b16 3 #[.int .i64 t], .bx b17 3 #[.int .i64 c]] ++ marks ds ++ lpD l1 lo2 D ++ [.bx b19 62 (iVal (infoO ((i + 1 : Nat) : Int))).cells])[4]? = some (.bx b16 3 #[.int .i64 t]) := fun c => at_l (at_l (jt c _))
    have kn : ∀ c : Int, (L ++ [Own.bx b16 3 #[.int .i64 t], .bx b17 3 #[.int .i64 c]] ++ marks ds ++ lpD l1 lo2 D ++ [.bx b19 62 (iVal (infoO ((i + 1 : Nat) : Int))).cells])[5]? = some (.bx b17 3 #[.int .i64 c]) := fun c => at_l (at_l (jn c _))
    have km : ∀ c : Int, (L ++ [Own.bx b16 3 #[.int .i64 t], .bx b17 3 #[.int .i64 c]] ++ marks ds ++ lpD l1 lo2 D ++ [.bx b19 62 (iVal (infoO ((i + 1 : Nat) : Int))).cells])[0]? = some (.bx b5 3 #[.int .i64 many]) := fun c => at_l (at_l (jm c _))
    refine kLd hS3 5 (kn _) rfl rfl (kBin_add (kSt hS3 5 (kn _) (by simp) rfl rfl rfl fun V4 hS4 => ?_))
    have hS4 : St w (L ++ [Own.bx b16 3 #[.int .i64 t], .bx b17 3 #[.int .i64 ((i + 1 : Nat) : Int)]] ++ marks ds ++ lpD l1 lo2 D ++ [.bx b19 62 (iVal (infoO ((i + 1 : Nat) : Int))).cells]) V4 := by
      rw [wrap_id (by omega) (by omega)] at hS4
      rw [hL] at hS4 ⊢; exact hS4
    refine kJn_inv (fun cs V => St w (L ++ [Own.bx b16 3 #[.int .i64 t], .bx b17 3 #[.int .i64 ((i + 1 : Nat) : Int)]] ++ marks ds ++ lpD l1 lo2 D ++ [.bx b19 62 (iVal (infoO ((i + 1 : Nat) : Int))).cells]) V) ?_ ?_
    rotate_left
    · intro J3 hJ3
      refine kDrawn_i (kDrawn_i (kLd hS4 5 (kn _) rfl rfl (kNe_int (kIf_ne (fun q => absurd rfl q) (fun _ => kLd hS4 5 (kn _) rfl rfl (kBin_gtr (kIf_d (fun q => by omega) (fun _ => ?_))))))))
      refine kLoadA_st (c := cQ Try.prog) hS4 _ (k8 _) Try.underlying62 rfl Try.sizeOf62 rfl (kLd hS4 5 (kn _) rfl rfl (kDrew_st hS4 fun V5 hS5 => kCall_i (Try.call31 _ _) (Info31 _ _ _ fun V6 hB => ?_)))
      have hS6 := hS5.bel hB
      refine kLoadA_st (c := cQ Try.prog) hS6 _ (k8 _) Try.underlying62 rfl Try.sizeOf62 rfl (kSame_i (kNe_62 (a := infoO ((i + 1 : Nat) : Int)) (b := infoO ((i + 1 : Nat) : Int)) (kDrew_st hS6 fun V7 hS7 => kIf_nd (fun q => absurd rfl q) (fun _ => kD_i (hJ3 _ _ hS7)))))
    rintro cs V5 hS5 ds5
    refine kLd hS5 4 (kt _) rfl rfl (kEq_int (kIf_eq (fun e0 => ?_) (fun e0 => ?_)))
    · have h0 : t = 0 := by omega
      refine kLd hS5 5 (kn _) rfl rfl (kLd hS5 0 (km _) rfl rfl (kBin_geq (kIf_d (fun hg => rndEnd_cl hV hS5 fun hV' => ⟨_, ⟨rfl, rfl⟩, ?_⟩) (fun hg => rndEnd_cl hV hS5 fun hV' => ⟨_, ⟨rfl, fun _ => .inr (by omega)⟩, hV'⟩))))
      have e : siN many t = ((i + 1 : Nat) : Int) := by
        have := hcond h0
        subst h0
        simp only [siN]
        rw [if_pos (by simp)]
        repeat' split
        all_goals omega
      rw [e]; exact hV'
    · exact kIf_f (rndEnd_cl hV hS5 fun hV' => ⟨_, ⟨rfl, fun q => by omega⟩, hV'⟩)
  · rintro D V X ⟨rfl, hc⟩ m1 m2 m3
    refine hJ2 _ _ _ ⟨D, rfl, m1, m2, ?_⟩
    have e : siN many t = ((20 : Nat) : Int) := by
      simp only [siN]
      split
      · have := hc (by omega)
        repeat' split
        all_goals omega
      · rfl
    rw [e]; exact m3
  · rintro D V X ⟨he, _⟩; cases he
  · rintro id D V X ⟨he, rfl⟩ m1 m2 m3
    cases he
    have hj : J2 [] ((D :: ds).map markOf) V := hJ2 _ _ _ ⟨D, rfl, m1, m2, m3⟩
    exact ⟨hj⟩
  · rintro ch D V X ⟨he, _⟩; cases he
end Go.L
