/- Contracts of single functions: no condition but those that each states. -/
import Derived.Test.YtjifkcfmolnepaaB5
set_option linter.unusedVariables false
set_option linter.unusedSimpArgs false
namespace Go.L
open Go Go.RowKit Go.Proofs
set_option linter.unusedSimpArgs false
set_option linter.unusedVariables false

theorem checkL_iv (a b : Int) : checkL [iv a, iv b] = true := by
  unfold checkL
  simp [checkE, iv]
  show 0 ≤ 1000
  omega
theorem doR_num {o : Int} (ho : 1 ≤ o ∧ o ≤ 5) (a b : Int) : doR o [iv a, iv b] = if wholeE o a b ≠ 0 then (z0, wholeE o a b) else (iv (wholeZ o a b), 0) := by
  have hc : o = 1 ∨ o = 2 ∨ o = 3 ∨ o = 4 ∨ o = 5 := by omega
  have hm : mkE o [2, 2] = 0 := by rcases hc with rfl | rfl | rfl | rfl | rfl <;> decide +kernel
  unfold doR
  rw [if_neg (by simp [checkL_iv]), if_neg (by intro q; exact q hm)]
  rcases hc with rfl | rfl | rfl | rfl | rfl <;> rfl
theorem rng_iv {z : Int} (h : big z) : Rng (iv z) := h
theorem rng_z0 : Rng z0 := ⟨by decide, by decide⟩
theorem rng_do {o : Int} (ho : 1 ≤ o ∧ o ≤ 5) (a b : Int) : Rng (doR o [iv a, iv b]).1 := by
  rw [doR_num ho]
  by_cases q : wholeE o a b ≠ 0
  · rw [if_pos q]; exact rng_z0
  · rw [if_neg q]
    unfold wholeE at q
    split at q
    · omega
    · unfold fitE at q
      split at q
      · assumption
      · omega
theorem SumUndoes8 (a b : Int) (ha : Rng (iv a)) (hb : Rng (iv b)) (w : World) (R : Ending → World → Prop)
    (h : ∀ W, Below w.heap.size w W → R (.returned (.bool true)) W) : Calls Try.prog 8 #[.int .i64 a, .int .i64 b] w R := by
  have hS := St.start w
  have ha' : big a := ha
  have hb' : big b := hb
  have endT : ∀ V, Below w.heap.size w V → kCall (cR Try.prog R) V 22 #[] fun v15 w_3 => R (.returned v15) w_3 := fun V hV => kCall_i (Try.call22 _ _) (works22 _ _ fun W hB => h W ((St.start w).bel hV |>.bel hB).below)
  have hs : Rng (doR 1 [iv a, iv b]).1 := rng_do (by omega) a b
  have first : (doR 1 [iv a, iv b]).2 = 0 → doR 2 [(doR 1 [iv a, iv b]).1, iv b] = (iv a, 0) := by
    intro e
    rw [doR_num (by omega)] at e ⊢
    by_cases q : wholeE 1 a b ≠ 0
    · rw [if_pos q] at e; exact absurd e q
    · rw [if_neg q]
      rw [doR_num (by omega)]
      have : wholeE 2 (a + b) b = 0 := by
        unfold wholeE wholeZ; rw [if_neg (by omega)]
        simp only [if_neg (show ¬ (2 : Int) = 1 by omega), if_pos]
        unfold fitE; rw [show a + b - b = a by omega, if_pos ha']
      rw [if_neg (by show ¬ wholeE 2 (a + b) b ≠ 0; omega)]
      show (iv (a + b - b), (0 : Int)) = (iv a, 0)
      rw [show a + b - b = a by omega]
  have h5 : b ≠ 0 → doR 5 [iv a, iv b] = (iv (a.tmod b), 0) := by
    intro q
    rw [doR_num (by omega)]
    have : wholeE 5 a b = 0 := by
      unfold wholeE; rw [if_neg (by omega)]
      show fitE (a.tmod b) = 0
      unfold fitE; rw [if_pos (tmod_big hb' q)]
    rw [if_neg (by omega)]; rfl
  have h4 : b ≠ 0 → doR 4 [iv a, iv b] = if a ≠ -9223372036854775808 ∨ b ≠ -1 then (iv (a.tdiv b), 0) else (z0, 122) := by
    intro q
    rw [doR_num (by omega)]
    have hE : wholeE 4 a b = if a ≠ -9223372036854775808 ∨ b ≠ -1 then 0 else 122 := by
      unfold wholeE; rw [if_neg (by omega)]
      show fitE (a.tdiv b) = _
      unfold fitE
      by_cases p : a ≠ -9223372036854775808 ∨ b ≠ -1
      · rw [if_pos p, if_pos ((tdiv_big ha' hb' q).2 p)]
      · rw [if_neg p, if_neg (fun r => p ((tdiv_big ha' hb' q).1 r))]
    rw [hE]
    by_cases p : a ≠ -9223372036854775808 ∨ b ≠ -1
    · simp only [if_pos p]; rfl
    · simp only [if_neg p]; rfl
  have g4 : b = 0 → (doR 4 [iv a, iv b]).2 = 121 := by
    intro e0
    rw [doR_num (by omega)]
    have : wholeE 4 a b = 121 := by unfold wholeE; rw [if_pos ⟨.inl rfl, e0⟩]
    rw [if_pos (by omega)]; exact this
  have g5 : b = 0 → (doR 5 [iv a, iv b]).2 = 121 := by
    intro e0
    rw [doR_num (by omega)]
    have : wholeE 5 a b = 121 := by unfold wholeE; rw [if_pos ⟨.inr rfl, e0⟩]
    rw [if_pos (by omega)]; exact this
  have hrq : Rng (doR 4 [iv a, iv b]).1 := rng_do (by omega) a b
  generalize hd1 : doR 1 [iv a, iv b] = d1 at hs first
  obtain ⟨s, e1⟩ := d1
  have hs : Rng s := hs
  have first : e1 = 0 → doR 2 [s, iv b] = (iv a, 0) := first
  generalize hd2 : doR 2 [s, iv b] = d2 at first
  obtain ⟨d, e2⟩ := d2
  generalize hd4 : doR 4 [iv a, iv b] = d4 at h4 g4 hrq
  obtain ⟨q, e4⟩ := d4
  have hrq : Rng q := hrq
  generalize hd5 : doR 5 [iv a, iv b] = d5 at h5 g5
  obtain ⟨r, e5⟩ := d5
  refine c8 _ _ _ _ ?_
  unfold vc8
  refine kCall_i (Try.call27 _ _) (of27 a _ _ fun W hB => kCall_i (Try.call27 _ _) (of27 b _ _ fun W hB' => kBD (r := s) (e := e1) ((hS.bel hB).bel hB') ha hb hd1 fun W hS => kExt_0 (kExt_1 (kAlloc_st Try.zeroValue49 hS fun b5 W hS => kStoreAR hS rfl (by simp [Value.oneCell']) Try.sizeOf49 fun W hS => ?_))))
  have hS : St w [.bx b5 49 (vVal s).cells] W := hS
  refine kDrawn_i (kDrawn_i (kJn_inv (fun cs V => ∃ pp : Nat, cs.getD 7 undef = .int .i64 e2 ∧ cs.getD 8 undef = .pointer (some ⟨pp, 0, none⟩) ∧ St w ([.bx b5 49 (vVal s).cells] ++ [.bx pp 49 (vVal d).cells]) V) ?_ ?_))
  rotate_left
  · intro J hJ
    have fin : ∀ (pp : Nat) (M : List Own) (V : World) (cs : List Value), St w ([.bx b5 49 (vVal s).cells] ++ M ++ [.bx pp 49 (vVal d).cells]) V → cs.getD 7 undef = .int .i64 e2 → cs.getD 8 undef = .pointer (some ⟨pp, 0, none⟩) → J cs V := fun pp M V cs hV h6 h7 => hJ _ _ ⟨pp, h6, h7, hV.sub (List.Sublist.append (List.sublist_append_left _ _) (List.Sublist.refl _))⟩
    refine kLoadA_st (c := cQ Try.prog) hS 0 rfl Try.underlying49 rfl Try.sizeOf49 rfl (kBoth_i (kDrew_st hS fun W hS => kCall_i (Try.call27 _ _) (of27 b _ _ fun W hB => ?_)) (kDrew_st hS fun W hS => kAlloc_st Try.zeroValue49 hS fun p W hS => ?_))
    · have hS := hS.bel hB
      refine kLoadA_st (c := cQ Try.prog) hS 0 rfl Try.underlying49 rfl Try.sizeOf49 rfl (kSame_i (kBoth_i (kDrew_st hS fun W hS => ?_) (kDrew_st hS fun W hS => kAlloc_st Try.zeroValue49 hS fun p W hS => ?_)))
      · refine kBS (E22 W) hS [vVal s, vVal (iv b)] rfl rfl (by omega) (by omega) (by intro v hv; simp at hv; rcases hv with rfl | rfl <;> rfl) fun x cp W hS hl => kBoth_i (kDrew_st hS fun W hS => ?_) (kDrew_st hS fun W hS => kAlloc_st Try.zeroValue49 hS fun p W hS => kDrew_st hS fun W hS => ?_)
        · refine kDo2 (r := d) (e := e2) (hS.sl _ at_r (by intro v hv; simp at hv; rcases hv with rfl | rfl <;> rfl) rfl) hs hb hd2 fun W hB => kExt_0 (kExt_1 (kDrew_st (hS.bel hB) fun W hS => kAlloc_st Try.zeroValue49 hS fun p W hS => kDrew_st hS fun W hS => kStoreAR hS rfl (by simp [Value.oneCell']) Try.sizeOf49 fun W hS => kDrew_st hS fun W hS => fin p _ _ _ hS rfl rfl))
        · refine kDo2 (r := d) (e := e2) (hS.sl _ (at_l at_r) (by intro v hv; simp at hv; rcases hv with rfl | rfl <;> rfl) rfl) hs hb hd2 fun W hB => kExt_0 (kExt_1 (kDrew_st (hS.bel hB) fun W hS => kStoreAR hS rfl (by simp [Value.oneCell']) Try.sizeOf49 fun W hS => kDrew_st hS fun W hS => fin p _ _ _ hS rfl rfl))
      · refine kLoadA_st (c := cQ Try.prog) hS 0 rfl Try.underlying49 rfl Try.sizeOf49 rfl (kSame_i (kDrew_st hS fun W hS => kBS22 (a := s) (b := iv b) hS fun x cp W hS hl => ⟨fun m => ?_⟩))
        refine kDo2 (r := d) (e := e2) (hl _ ⟨rfl, rfl, rfl, Nat.le_refl _, fun _ _ => rfl⟩) hs hb hd2 fun W hB => kExt_0 (kExt_1 (kDrew_st ((hS.drewN m).bel hB) fun W hS => kStoreAR hS rfl (by simp [Value.oneCell']) Try.sizeOf49 fun W hS => kDrew_st hS fun W hS => fin p [] _ _ hS rfl rfl))
    · refine kLoadA_st (c := cQ Try.prog) hS 0 rfl Try.underlying49 rfl Try.sizeOf49 rfl (kSame_i (kDrew_st hS fun W hS => kCall_i (Try.call27 _ _) (of27 b _ _ fun W hB => ?_)))
      have hS := hS.bel hB
      refine kLoadA_st (c := cQ Try.prog) hS 0 rfl Try.underlying49 rfl Try.sizeOf49 rfl (kSame_i (kDrew_st hS fun W hS => kBS22 (a := s) (b := iv b) hS fun x cp W hS hl => ⟨fun m => ?_⟩))
      refine kDo2 (r := d) (e := e2) (hl _ ⟨rfl, rfl, rfl, Nat.le_refl _, fun _ _ => rfl⟩) hs hb hd2 fun W hB => kExt_0 (kExt_1 (kDrew_st ((hS.drewN m).bel hB) fun W hS => kStoreAR hS rfl (by simp [Value.oneCell']) Try.sizeOf49 fun W hS => kDrew_st hS fun W hS => fin p [] _ _ hS rfl rfl))
  rintro cs V ⟨b7, e7, e8, hS⟩
  rw [e7, e8]
  clear e7 e8
  try dsimp only
  have hS : St w [.bx b5 49 (vVal s).cells, .bx b7 49 (vVal d).cells] V := hS
  refine kJn_inv (fun cs V => St w [.bx b5 49 (vVal s).cells, .bx b7 49 (vVal d).cells] V) ?_ ?_
  rotate_left
  · intro J hJ
    refine kDrawn_i (kDrawn_i (kDrew_st hS fun W hS => kCall_i (Try.call25 _ _) (num25 _ _ _ (kEq_int (kIf_eq (fun e => ?_) (fun e => ?_))))))
    · have f := first e
      refine kDrew_st hS fun W hS => kCall_i (Try.call25 _ _) (num25 _ _ _ (kNe_int (kIf_ne (fun e => absurd (congrArg Prod.snd f) e) (fun e => ?_))))
      refine kLoadA_st (c := cQ Try.prog) hS 1 rfl Try.underlying49 rfl Try.sizeOf49 rfl (kDrew_st hS fun W hS => kCall_i (Try.call27 _ _) (of27 a _ _ fun W hB => ?_))
      have hS := hS.bel hB
      refine kLoadA_st (c := cQ Try.prog) hS 1 rfl Try.underlying49 rfl Try.sizeOf49 rfl (kSame_i (kNe_49 (a := d) (b := iv a) ?_))
      rw [decide_eq_true (congrArg Prod.fst f)]
      exact kDrew_st hS fun W hS => kIf_f (kD_i (hJ _ _ hS))
    · exact kDrew_st hS fun W hS => kIf_f (kD_i (hJ _ _ hS))
  rintro cs V hS ds
  clear first hd1 hd2
  refine kCall_i (Try.call27 _ _) (of27 a _ _ fun W hB => kCall_i (Try.call27 _ _) (of27 b _ _ fun W hB' => kBD (r := q) (e := e4) ((hS.bel hB).bel hB') ha hb hd4 fun W hS => kExt_0 (kExt_1 (kAlloc_st Try.zeroValue49 hS fun b9 W hS => kStoreAR hS rfl (by simp [Value.oneCell']) Try.sizeOf49 fun W hS => ?_))))
  have hS : St w [.bx b5 49 (vVal s).cells, .bx b7 49 (vVal d).cells, .bx b9 49 (vVal q).cells] W := hS
  refine kCall_i (Try.call27 _ _) (of27 a _ _ fun W hB => kCall_i (Try.call27 _ _) (of27 b _ _ fun W hB' => kBD (r := r) (e := e5) ((hS.bel hB).bel hB') ha hb hd5 fun W hS => kExt_0 (kExt_1 (kAlloc_st Try.zeroValue49 hS fun b11 W hS => kStoreAR hS rfl (by simp [Value.oneCell']) Try.sizeOf49 fun W hS => ?_))))
  have hS : St w [.bx b5 49 (vVal s).cells, .bx b7 49 (vVal d).cells, .bx b9 49 (vVal q).cells, .bx b11 49 (vVal r).cells] W := hS
  refine kEq_int (kIf_eq (fun e0 => ?_) (fun e0 => ?_))
  · exact kCall_i (Try.call25 _ _) (num25 _ _ _ (kEq_int (kIf_eq (fun _ => kCall_i (Try.call25 _ _) (num25 _ _ _ (kEq_int (kIf_eq (fun _ => endT _ hS.below) (fun q => absurd (g5 e0) q))))) (fun q => absurd (g4 e0) q))))
  · have h5 := h5 e0
    have h4 := h4 e0
    by_cases p : a ≠ -9223372036854775808 ∨ b ≠ -1
    · rw [if_pos p] at h4
      have e40 : e4 = 0 := congrArg Prod.snd h4
      have e50 : e5 = 0 := congrArg Prod.snd h5
      have eq : q = iv (a.tdiv b) := congrArg Prod.fst h4
      have er : r = iv (a.tmod b) := congrArg Prod.fst h5
      have habs : a.tdiv b * b = a - a.tmod b := by have := Int.tmod_add_mul_tdiv a b; rw [Int.mul_comm b] at this; omega
      have hfit : big (a.tdiv b * b) := by
        rw [habs]
        have h1 : (a.tmod b).natAbs ≤ a.natAbs := by rw [Int.natAbs_tmod]; exact Nat.mod_le _ _
        have h2 : 0 ≤ a → 0 ≤ a.tmod b := fun h => Int.tmod_nonneg b h
        have h3 : a ≤ 0 → a.tmod b ≤ 0 := by
          intro h
          have := Int.tmod_nonneg b (a := -a) (by omega)
          rw [Int.neg_tmod] at this; omega
        have := ha
        unfold Rng iv at this
        unfold big
        dsimp only at this
        omega
      have h3 : doR 3 [q, iv b] = (iv (a.tdiv b * b), 0) := by
        rw [eq, doR_num (by omega)]
        have : wholeE 3 (a.tdiv b) b = 0 := by
          unfold wholeE; rw [if_neg (by omega)]
          show fitE (a.tdiv b * b) = 0
          unfold fitE; rw [if_pos hfit]
        rw [if_neg (by omega)]; rfl
      have h1 : doR 1 [iv (a.tdiv b * b), r] = (iv a, 0) := by
        rw [er, doR_num (by omega)]
        have hs : a.tdiv b * b + a.tmod b = a := by omega
        have : wholeE 1 (a.tdiv b * b) (a.tmod b) = 0 := by
          unfold wholeE; rw [if_neg (by omega)]
          show fitE (a.tdiv b * b + a.tmod b) = 0
          rw [hs]; unfold fitE; rw [if_pos ha']
        rw [if_neg (by omega)]
        show (iv (a.tdiv b * b + a.tmod b), (0 : Int)) = _
        rw [hs]
      have hpr : Rng (iv (a.tdiv b * b)) := hfit
      have hrr : Rng r := by rw [er]; exact tmod_big hb' e0
      generalize iv (a.tdiv b * b) = pv at h3 h1 hpr
      clear eq er habs hfit h4 h5 hd4 hd5 g4 g5
      subst e40 e50
      refine kCall_i (Try.call25 _ _) (num25 _ _ _ (kNe_int (kIf_ne (fun q => absurd rfl q) (fun _ => ?_))))
      refine kDrawn_i (kDrawn_i (kJn_inv (fun cs V => ∃ pp : Nat, cs.getD 7 undef = .int .i64 (0 : Int) ∧ cs.getD 8 undef = .pointer (some ⟨pp, 0, none⟩) ∧ St w ([.bx b5 49 (vVal s).cells, .bx b7 49 (vVal d).cells, .bx b9 49 (vVal q).cells, .bx b11 49 (vVal r).cells] ++ [.bx pp 49 (vVal pv).cells]) V) ?_ ?_))
      rotate_left
      · intro J hJ
        have fin : ∀ (pp : Nat) (M : List Own) (V : World) (cs : List Value), St w ([.bx b5 49 (vVal s).cells, .bx b7 49 (vVal d).cells, .bx b9 49 (vVal q).cells, .bx b11 49 (vVal r).cells] ++ M ++ [.bx pp 49 (vVal pv).cells]) V → cs.getD 7 undef = .int .i64 (0 : Int) → cs.getD 8 undef = .pointer (some ⟨pp, 0, none⟩) → J cs V := fun pp M V cs hV h6 h7 => hJ _ _ ⟨pp, h6, h7, hV.sub (List.Sublist.append (List.sublist_append_left _ _) (List.Sublist.refl _))⟩
        refine kLoadA_st (c := cQ Try.prog) hS 2 rfl Try.underlying49 rfl Try.sizeOf49 rfl (kBoth_i (kDrew_st hS fun W hS => kCall_i (Try.call27 _ _) (of27 b _ _ fun W hB => ?_)) (kDrew_st hS fun W hS => kAlloc_st Try.zeroValue49 hS fun p W hS => ?_))
        · have hS := hS.bel hB
          refine kLoadA_st (c := cQ Try.prog) hS 2 rfl Try.underlying49 rfl Try.sizeOf49 rfl (kSame_i (kBoth_i (kDrew_st hS fun W hS => ?_) (kDrew_st hS fun W hS => kAlloc_st Try.zeroValue49 hS fun p W hS => ?_)))
          · refine kBS (E22 W) hS [vVal q, vVal (iv b)] rfl rfl (by omega) (by omega) (by intro v hv; simp at hv; rcases hv with rfl | rfl <;> rfl) fun x cp W hS hl => kBoth_i (kDrew_st hS fun W hS => ?_) (kDrew_st hS fun W hS => kAlloc_st Try.zeroValue49 hS fun p W hS => kDrew_st hS fun W hS => ?_)
            · refine kDo2 (r := pv) (e := (0 : Int)) (hS.sl _ at_r (by intro v hv; simp at hv; rcases hv with rfl | rfl <;> rfl) rfl) hrq hb h3 fun W hB => kExt_0 (kExt_1 (kDrew_st (hS.bel hB) fun W hS => kAlloc_st Try.zeroValue49 hS fun p W hS => kDrew_st hS fun W hS => kStoreAR hS rfl (by simp [Value.oneCell']) Try.sizeOf49 fun W hS => kDrew_st hS fun W hS => fin p _ _ _ hS rfl rfl))
            · refine kDo2 (r := pv) (e := (0 : Int)) (hS.sl _ (at_l at_r) (by intro v hv; simp at hv; rcases hv with rfl | rfl <;> rfl) rfl) hrq hb h3 fun W hB => kExt_0 (kExt_1 (kDrew_st (hS.bel hB) fun W hS => kStoreAR hS rfl (by simp [Value.oneCell']) Try.sizeOf49 fun W hS => kDrew_st hS fun W hS => fin p _ _ _ hS rfl rfl))
          · refine kLoadA_st (c := cQ Try.prog) hS 2 rfl Try.underlying49 rfl Try.sizeOf49 rfl (kSame_i (kDrew_st hS fun W hS => kBS22 (a := q) (b := iv b) hS fun x cp W hS hl => ⟨fun m => ?_⟩))
            refine kDo2 (r := pv) (e := (0 : Int)) (hl _ ⟨rfl, rfl, rfl, Nat.le_refl _, fun _ _ => rfl⟩) hrq hb h3 fun W hB => kExt_0 (kExt_1 (kDrew_st ((hS.drewN m).bel hB) fun W hS => kStoreAR hS rfl (by simp [Value.oneCell']) Try.sizeOf49 fun W hS => kDrew_st hS fun W hS => fin p [] _ _ hS rfl rfl))
        · refine kLoadA_st (c := cQ Try.prog) hS 2 rfl Try.underlying49 rfl Try.sizeOf49 rfl (kSame_i (kDrew_st hS fun W hS => kCall_i (Try.call27 _ _) (of27 b _ _ fun W hB => ?_)))
          have hS := hS.bel hB
          refine kLoadA_st (c := cQ Try.prog) hS 2 rfl Try.underlying49 rfl Try.sizeOf49 rfl (kSame_i (kDrew_st hS fun W hS => kBS22 (a := q) (b := iv b) hS fun x cp W hS hl => ⟨fun m => ?_⟩))
          refine kDo2 (r := pv) (e := (0 : Int)) (hl _ ⟨rfl, rfl, rfl, Nat.le_refl _, fun _ _ => rfl⟩) hrq hb h3 fun W hB => kExt_0 (kExt_1 (kDrew_st ((hS.drewN m).bel hB) fun W hS => kStoreAR hS rfl (by simp [Value.oneCell']) Try.sizeOf49 fun W hS => kDrew_st hS fun W hS => fin p [] _ _ hS rfl rfl))
      rintro cs V ⟨b13, e7, e8, hS⟩
      rw [e7, e8]
      clear e7 e8
      try dsimp only
      have hS : St w [.bx b5 49 (vVal s).cells, .bx b7 49 (vVal d).cells, .bx b9 49 (vVal q).cells, .bx b11 49 (vVal r).cells, .bx b13 49 (vVal pv).cells] V := hS
      refine kLoadA_st (c := ⟨Try.prog, _, false⟩) hS 4 rfl Try.underlying49 rfl Try.sizeOf49 rfl (kLoadA_st (c := ⟨Try.prog, _, false⟩) hS 3 rfl Try.underlying49 rfl Try.sizeOf49 rfl ?_)
      refine kBD (a := pv) (b := r) (r := iv a) (e := 0) hS hpr hrr h1 fun W hS => kExt_0 (kExt_1 (kAlloc_st Try.zeroValue49 hS fun b15 W hS => kStoreAR hS rfl (by simp [Value.oneCell']) Try.sizeOf49 fun W hS => ?_))
      have hS : St w [.bx b5 49 (vVal s).cells, .bx b7 49 (vVal d).cells, .bx b9 49 (vVal q).cells, .bx b11 49 (vVal r).cells, .bx b13 49 (vVal pv).cells, .bx b15 49 (vVal (iv a)).cells] W := hS
      refine kDrawn_i (kDrawn_i (kDrew_st hS fun W hS => kCall_i (Try.call25 _ _) (num25 _ _ _ (kDrew_st hS fun W hS => kCall_i (Try.call25 _ _) (num25 _ _ _ (kBin_add (kDrew_st hS fun W hS => kCall_i (Try.call25 _ _) (num25 _ _ _ (kBin_add (kSame_i (kBin_add (kEq_int (kIf_t ?_)))))))))))))
      refine kLoadA_st (c := cQ Try.prog) hS 5 rfl Try.underlying49 rfl Try.sizeOf49 rfl (kDrew_st hS fun W hS => kCall_i (Try.call27 _ _) (of27 a _ _ fun W hB => ?_))
      have hS := hS.bel hB
      refine kLoadA_st (c := cQ Try.prog) hS 5 rfl Try.underlying49 rfl Try.sizeOf49 rfl (kSame_i (kEq_49 (a := iv a) (b := iv a) (kIf_d (fun _ => kDrew_st hS fun W hS => kCall_i (Try.call22 _ _) (works22 _ _ fun W hB => kDrew_st (hS.bel hB) fun W hS => h W hS.below)) (fun q => absurd rfl q))))
    · rw [if_neg p] at h4
      have e40 : e4 = 122 := congrArg Prod.snd h4
      exact kCall_i (Try.call25 _ _) (num25 _ _ _ (kNe_int (kIf_ne (fun _ => kCall_i (Try.call25 _ _) (num25 _ _ _ (kEq_int (kIf_eq (fun _ => kEq_int (kIf_eq (fun _ => endT _ hS.below) (fun q => by omega))) (fun q => absurd e40 q))))) (fun q => by omega))))
end Go.L
