/- Contracts of single functions: no condition but those that each states. -/
import Derived.Test.YtfajbldbhkkfoaaGreatDoorB6
set_option linter.unusedVariables false
set_option linter.unusedSimpArgs false
namespace Go.L
open Go Go.RowKit Go.Proofs
set_option linter.unusedSimpArgs false
set_option linter.unusedVariables false

theorem range_st {w V : World} {L : List Own} (hS : St w L V) {pb o : Nat} {cs : List Value} (hb : pb < w.heap.size) (h : w.rangeAt pb o cs) : V.rangeAt pb o cs := fun j v hj => by
  rw [World.cell?_of_block (w := w) (hS.below.block pb hb)]; exact h j v hj
theorem EqualFunc53 (la lb : List IN) (w : World) (ao bo : Option Addr) (ac bc : Nat) (ha : InsL w ao la) (hb : InsL w bo lb) (hal : la.length ≤ 9223372036854775806) (harl : ∀ x ∈ la, x.ar.length ≤ 1000000) (R : Ending → World → Prop)
    (h : ∀ W, Below w.heap.size w W → R (.returned (.bool (decide (la = lb)))) W) : Calls Tryz.prog 53 #[.slice ao la.length ac, .slice bo lb.length bc, .func (.func 37) #[] #[]] w R := by
  refine c53 _ _ _ _ _ _ _ _ _ ?_
  unfold vc53
  refine xLen22 (xLen22 (kNe_int (kIf_ne (fun q => ?_) (fun q => ?_))))
  · have := h w (Below.refl _ _)
    rwa [decide_eq_false (fun e => q (by rw [e]))] at this
  have hlen : la.length = lb.length := by omega
  refine xLen22 ⟨⟨fun cs V => ∃ i : Nat, cs = [.int .i64 i] ∧ i ≤ la.length ∧ la.take i = lb.take i ∧ St w [] V, fun cs _ => la.length - (match cs with | [.int _ i] => i.toNat | _ => 0), ⟨0, rfl, Nat.zero_le _, rfl, St.start w⟩, ?_⟩⟩
  rintro cs ds V ⟨i, rfl, hi, heq, hS⟩
  dsimp only [List.getD_cons_zero]
  refine kBin_lss (kIf_d (fun e => ?_) (fun e => ?_))
  rotate_left
  · have hie : i = la.length := by omega
    rw [hie, List.take_length, hlen, List.take_length] at heq
    have := h V hS.below
    rwa [decide_eq_true heq] at this
  have hil : i < la.length := by omega
  have hil' : i < lb.length := by omega
  obtain ⟨pb, po, p, pc, rfl, hpb, hpr, hpx⟩ := ha.elem hil
  obtain ⟨qb, qo, q', qc, rfl, hqb, hqr, hqx⟩ := hb.elem hil'
  have hxa := harl la[i] (List.getElem_mem hil)
  have hnext : la[i] = lb[i] → la.take (i + 1) = lb.take (i + 1) := fun q => by
    rw [List.take_succ_eq_append_getElem hil, List.take_succ_eq_append_getElem hil', heq, q]
  have hno : la[i] ≠ lb[i] → la ≠ lb := fun q e => q (by subst e; rfl)
  generalize la[i] = x at *
  generalize lb[i] = y at *
  refine xIa22 hil (xLdE62 (range_st hS hpb hpr) rfl rfl (kAlloc_st Tryz.zeroValue62 hS fun b8 V hS => kStoreAR (cs' := inC x p x.ar.length pc) hS rfl (by simp [inC, Value.oneCell']) Tryz.sizeOf62 fun V hS => ?_))
  refine xIa22 hil' (xLdE62 (range_st hS hqb hqr) rfl rfl (kAlloc_st Tryz.zeroValue62 hS fun b9 V hS => kStoreAR (cs' := inC y q' y.ar.length qc) hS rfl (by simp [inC, Value.oneCell']) Tryz.sizeOf62 fun V hS => ?_))
  refine xLdB62 hS 0 rfl rfl (xLdB62 hS 1 rfl rfl ?_)
  refine kCallV_i (Tryz.call37 _ _) (same40 x y V p q' pc qc (hpx.below hS.below) (hqx.below hS.below) (by omega) _ fun W hB => ?_)
  have hS := hS.bel hB
  refine kUn_not (kIf_b (fun q => ?_) (fun q => kBin_add (kD_i ⟨⟨i + 1, ?_, hil, hnext (by simpa using q), hS.init.init⟩, ?_⟩)))
  · have := h W hS.below
    rwa [decide_eq_false (hno (by simpa using q))] at this
  · rw [wrap_id (by omega) (by omega)]; rfl
  · rw [wrap_id (by omega) (by omega)]; show la.length - ((i : Int) + 1).toNat < la.length - (i : Int).toNat; omega
theorem Same24 (la lb : List IN) (w : World) (ao bo : Option Addr) (ac bc : Nat) (ha : InsL w ao la) (hb : InsL w bo lb) (hal : la.length ≤ 9223372036854775806) (harl : ∀ x ∈ la, x.ar.length ≤ 1000000) (R : Ending → World → Prop)
    (h : ∀ W, Below w.heap.size w W → R (.returned (.bool (decide (la = lb)))) W) : Calls Tryz.prog 24 #[.slice ao la.length ac, .slice bo lb.length bc] w R := by
  refine c24 _ _ _ _ _ _ _ _ ?_
  unfold vc24
  exact kCall_i (Tryz.call53 _ _) (EqualFunc53 la lb w ao bo ac bc ha hb hal harl _ h)
theorem Same21 (la lb : List IN) (w : World) (ao bo : Option Addr) (ac bc : Nat) (ha : InsL w ao la) (hb : InsL w bo lb) (hal : la.length ≤ 9223372036854775806) (harl : ∀ x ∈ la, x.ar.length ≤ 1000000) (R : Ending → World → Prop)
    (h : ∀ W, Below w.heap.size w W → R (.returned (.bool (decide (la = lb)))) W) : Calls Tryz.prog 21 #[.slice ao la.length ac, .slice bo lb.length bc] w R := by
  refine c21 _ _ _ _ _ _ _ _ ?_
  unfold vc21
  refine xLen22 (xLen22 (kNe_int (kIf_ne (fun q => ?_) (fun q => ?_))))
  · have := h w (Below.refl _ _)
    rwa [decide_eq_false (fun e => q (by rw [e]))] at this
  have hlen : la.length = lb.length := by omega
  refine ⟨⟨fun cs V => ∃ i : Nat, cs = [.int .i64 i] ∧ i ≤ la.length ∧ la.take i = lb.take i ∧ St w [] V, fun cs _ => la.length - (match cs with | [.int _ i] => i.toNat | _ => 0), ⟨0, rfl, Nat.zero_le _, rfl, St.start w⟩, ?_⟩⟩
  rintro cs ds V ⟨i, rfl, hi, heq, hS⟩
  dsimp only [List.getD_cons_zero]
  refine xLen22 (kBin_lss (kIf_d (fun e => ?_) (fun e => ?_)))
  rotate_left
  · have hie : i = la.length := by omega
    rw [hie, List.take_length, hlen, List.take_length] at heq
    have := h V hS.below
    rwa [decide_eq_true heq] at this
  have hil : i < la.length := by omega
  have hil' : i < lb.length := by omega
  obtain ⟨pb, po, p, pc, rfl, hpb, hpr, hpx⟩ := ha.elem hil
  obtain ⟨qb, qo, q', qc, rfl, hqb, hqr, hqx⟩ := hb.elem hil'
  have hxa := harl la[i] (List.getElem_mem hil)
  have hnext : la[i] = lb[i] → la.take (i + 1) = lb.take (i + 1) := fun q => by
    rw [List.take_succ_eq_append_getElem hil, List.take_succ_eq_append_getElem hil', heq, q]
  have hno : la[i] ≠ lb[i] → la ≠ lb := fun q e => q (by subst e; rfl)
  generalize la[i] = x at *
  generalize lb[i] = y at *
  have no : ∀ {V : World} {L : List Own}, St w L V → x ≠ y → R (.returned (.bool false)) V := fun hS q => by
    have := h _ hS.below
    rwa [decide_eq_false (hno q)] at this
  refine kDrawn_i (kDrawn_i (kJn_inv (fun cs V => ∃ b6 b7, cs.getD 7 undef = inV y q' qc ∧ cs.getD 8 undef = .pointer (some ⟨b6, 0, none⟩) ∧ cs.getD 9 undef = .pointer (some ⟨b7, 0, none⟩) ∧ St w [.bx b6 62 (inC x p x.ar.length pc), .bx b7 62 (inC in0 none 0 0)] V) ?_ ?_))
  rotate_left
  · intro J hJ
    refine xIa22 hil (xLdE62 (range_st hS hpb hpr) rfl rfl (xIa22 hil' (xLdE62 (range_st hS hqb hqr) rfl rfl (kBoth_i ?_ ?_))))
    · refine kDrew_st hS fun V hS => kAlloc_st Tryz.zeroValue62 hS fun b6 V hS => ?_
      refine xIa22 hil (kSame_i (xLdE62 (range_st hS hpb hpr) rfl rfl (kSame_i (xIa22 hil' (kSame_i (xLdE62 (range_st hS hqb hqr) rfl rfl (kSame_i (kDrew_st hS fun V hS => ?_))))))))
      refine kAlloc_st Tryz.zeroValue62 hS fun b7 V hS => ?_
      refine xIa22 hil (kSame_i (xLdE62 (range_st hS hpb hpr) rfl rfl (kSame_i (xIa22 hil' (kSame_i (xLdE62 (range_st hS hqb hqr) rfl rfl (kSame_i (kDrew_st hS fun V hS => ?_))))))))
      have hS : St w [.bx b6 62 (inC in0 none 0 0), .bx b7 62 (inC in0 none 0 0)] V := hS
      refine kStoreA_st hS 0 rfl (cs' := inC x p x.ar.length pc) rfl (by simp [inC, Value.oneCell']) Tryz.sizeOf62 fun V hS => ?_
      have hS : St w [.bx b6 62 (inC x p x.ar.length pc), .bx b7 62 (inC in0 none 0 0)] V := hS
      exact xIa22 hil' (kSame_i (xLdE62 (range_st hS hqb hqr) rfl rfl (kSame_i (kDrew_st hS fun V hS => hJ _ _ ⟨b6, b7, rfl, rfl, rfl, hS⟩))))
    · refine kDrew_st hS fun V hS => kAlloc_st Tryz.zeroValue62 hS fun b7 V hS => ?_
      refine xIa22 hil (kSame_i (xLdE62 (range_st hS hpb hpr) rfl rfl (kSame_i (xIa22 hil' (kSame_i (xLdE62 (range_st hS hqb hqr) rfl rfl (kSame_i (kDrew_st hS fun V hS => ?_))))))))
      refine kAlloc_st Tryz.zeroValue62 hS fun b6 V hS => ?_
      refine xIa22 hil (kSame_i (xLdE62 (range_st hS hpb hpr) rfl rfl (kSame_i (xIa22 hil' (kSame_i (xLdE62 (range_st hS hqb hqr) rfl rfl (kSame_i (kDrew_st hS fun V hS => ?_))))))))
      have hS : St w [.bx b7 62 (inC in0 none 0 0), .bx b6 62 (inC in0 none 0 0)] V := hS
      refine kStoreA_st hS 1 rfl (cs' := inC x p x.ar.length pc) rfl (by simp [inC, Value.oneCell']) Tryz.sizeOf62 fun V hS => ?_
      have hS : St w [.bx b7 62 (inC in0 none 0 0), .bx b6 62 (inC x p x.ar.length pc)] V := hS
      have hS : St w [.bx b6 62 (inC x p x.ar.length pc), .bx b7 62 (inC in0 none 0 0)] V := hS.perm (List.Perm.swap _ _ _)
      exact xIa22 hil' (kSame_i (xLdE62 (range_st hS hqb hqr) rfl rfl (kSame_i (kDrew_st hS fun V hS => hJ _ _ ⟨b6, b7, rfl, rfl, rfl, hS⟩))))
  rintro cs V1 ⟨b6, b7, e7, e8, e9, hS⟩
  rw [e7, e8, e9]
  refine kStoreA_st hS 1 rfl (cs' := inC y q' y.ar.length qc) rfl (by simp [inC, Value.oneCell']) Tryz.sizeOf62 fun V hS => ?_
  have hS : St w [.bx b6 62 (inC x p x.ar.length pc), .bx b7 62 (inC y q' y.ar.length qc)] V := hS
  refine kJn_inv (fun cs V => (x.k = y.k ∧ x.a = y.a ∧ x.b = y.b ∧ x.c = y.c ∧ x.o = y.o ∧ x.v = y.v ∧ x.nm = y.nm ∧ x.ar.length = y.ar.length) ∧ St w [.bx b6 62 (inC x p x.ar.length pc), .bx b7 62 (inC y q' y.ar.length qc)] V) ?_ ?_
  rotate_left
  · intro J hJ
    refine xFa62_0 (kLd hS 0 rfl rfl rfl (xFa62_0 (kLd hS 1 rfl rfl rfl (kNe_int (kIf_ne (fun q => kIf_t (no hS (fun e => q (by rw [e])))) (fun q0 => ?_))))))
    refine xFa62_1 (kLd hS 0 rfl rfl rfl (xFa62_1 (kLd hS 1 rfl rfl rfl (kNe_int (kIf_ne (fun q => kIf_t (no hS (fun e => q (by rw [e])))) (fun q1 => ?_))))))
    refine xFa62_2 (kLd hS 0 rfl rfl rfl (xFa62_2 (kLd hS 1 rfl rfl rfl (kNe_int (kIf_ne (fun q => kIf_t (no hS (fun e => q (by rw [e])))) (fun q2 => ?_))))))
    refine xFa62_3 (kLd hS 0 rfl rfl rfl (xFa62_3 (kLd hS 1 rfl rfl rfl (kNe_int (kIf_ne (fun q => kIf_t (no hS (fun e => q (by rw [e])))) (fun q3 => ?_))))))
    refine xFa62_4 (kLd hS 0 rfl rfl rfl (xFa62_4 (kLd hS 1 rfl rfl rfl (kNe_int (kIf_ne (fun q => kIf_t (no hS (fun e => q (by rw [e])))) (fun q4 => ?_))))))
    refine xFa62_5 (xLdE59 (bxV hS 0 rfl) rfl rfl (xFa62_5 (xLdE59 (bxV hS 1 rfl) rfl rfl (kNe_49 (a := x.v) (b := y.v) (kIf_b (fun q => kIf_t (no hS (fun e => by rw [e] at q; simp at q))) (fun q5 => ?_))))))
    refine xFa62_6 (kLd hS 0 rfl rfl rfl (xFa62_6 (kLd hS 1 rfl rfl rfl (kNe_str (kIf_b (fun q => kIf_t (no hS (fun e => by rw [e] at q; simp at q))) (fun q6 => ?_))))))
    refine xFa62_7 (kLd hS 0 rfl rfl rfl (xLen60 (xFa62_7 (kLd hS 1 rfl rfl rfl (xLen60 (kNe_int (kIf_ne (fun q => no hS (fun e => q (by rw [e]))) (fun q7 => kD_i (hJ _ _ ⟨⟨q0, q1, q2, q3, q4, by simpa using q5, by simpa using q6, by omega⟩, hS⟩)))))))))
  rintro cs V2 ⟨⟨q0, q1, q2, q3, q4, q5, q6, q7⟩, hS⟩ ds2
  refine ⟨⟨fun cs V => ∃ j : Nat, cs = [.int .i64 j] ∧ j ≤ x.ar.length ∧ x.ar.take j = y.ar.take j ∧ St w [.bx b6 62 (inC x p x.ar.length pc), .bx b7 62 (inC y q' y.ar.length qc)] V, fun cs _ => x.ar.length - (match cs with | [.int _ i] => i.toNat | _ => 0), ⟨0, rfl, Nat.zero_le _, rfl, hS⟩, ?_⟩⟩
  rintro cs2 ds3 V3 ⟨j, rfl, hj, hje, hS⟩
  try dsimp only [List.getD_cons_zero]
  refine xFa62_7 (kLd hS 0 rfl rfl rfl (xLen60 (kBin_lss (kIf_d (fun g => ?_) (fun g => ?_)))))
  rotate_left
  · have hjl : j = x.ar.length := by omega
    rw [hjl, List.take_length, q7, List.take_length] at hje
    have hxy : x = y := by
      cases x; cases y; simp only at q0 q1 q2 q3 q4 q5 q6 hje; subst q0; subst q1; subst q2; subst q3; subst q4; subst q5; subst q6; subst hje; rfl
    refine kBin_add (kD_i ⟨⟨i + 1, ?_, hil, hnext hxy, (hS.del 0).del 0⟩, ?_⟩)
    · rw [wrap_id (by omega) (by omega)]; rfl
    · rw [wrap_id (by omega) (by omega)]; show la.length - ((i : Int) + 1).toNat < la.length - (i : Int).toNat; omega
  have hjx : j < x.ar.length := by omega
  have hjy : j < y.ar.length := by omega
  obtain ⟨rb, ro, hp, hrb, hr⟩ := (hpx.below hS.below).elem (i := j) (v := vInt x.ar[j]) (by simp [hjx])
  obtain ⟨sb, so, hq, hsb, hs⟩ := (hqx.below hS.below).elem (i := j) (v := vInt y.ar[j]) (by simp [hjy])
  refine kDrawn_i (xFa62_7 (kLd hS 0 rfl rfl rfl ?_))
  rw [hp]
  refine xIa60 hjx (kLdS rfl (hr 0 (.int .i64 x.ar[j]) rfl) (xFa62_7 (kLd hS 1 rfl rfl rfl ?_)))
  rw [hq]
  refine xIa60 hjy (kLdS rfl (hs 0 (.int .i64 y.ar[j]) rfl) (kNe_int (kDrew_st hS fun V hS => kIf_ne (fun q => no hS fun e => q (by subst e; rfl)) (fun q => kBin_add (kD_i ⟨⟨j + 1, ?_, hjx, ?_, ?_⟩, ?_⟩)))))
  · rw [wrap_id (by omega) (by omega)]; rfl
  · rw [List.take_succ_eq_append_getElem hjx, List.take_succ_eq_append_getElem hjy, hje, q]
  · rw [← hp, ← hq]; exact hS
  · rw [wrap_id (by omega) (by omega)]; show x.ar.length - ((j : Int) + 1).toNat < x.ar.length - (j : Int).toNat; omega
end Go.L
namespace Go.L
open Go Go.RowKit Go.Proofs
set_option linter.unusedSimpArgs false
set_option linter.unusedVariables false

theorem bTr {w W W1 : World} (h : Below w.heap.size w W) (h1 : Below W.heap.size W W1) : Below w.heap.size w W1 := (((St.start w).bel h).bel h1).below
theorem codeB_256 {l : List IN} (h : ∀ x ∈ l, PutOk x) : ∀ b ∈ codeB l, b < 256 := fun b hb => by
  unfold codeB at hb
  obtain ⟨x, hx, hb⟩ := List.mem_flatMap.1 hb
  exact recB_256 (h x hx) b hb
end Go.L
namespace Go.L
open Go Go.RowKit Go.Proofs
set_option linter.unusedSimpArgs false
set_option linter.unusedVariables false

theorem decR_encB (rows : List AV) (h : encE rows = 0) (hr : ∀ r ∈ rows, Rng r) : decR (encB rows) = some rows := by
  have hb := enc_bound h
  have hc := badE_zero (encE_bad h)
  have e : encB rows = numB rows.length ++ rows.flatMap enc1 := rfl
  have e2 := readVs_enc [] rows hc hr
  rw [List.append_nil] at e2
  have e1 := readN_numB rows.length (by omega) (rows.flatMap enc1)
  have e3 : readN (encB rows) = some (rows.length, (numB rows.length).length) := by rw [e]; exact e1
  have e4 : List.drop (numB rows.length).length (encB rows) = rows.flatMap enc1 := by rw [e, List.drop_left]
  simp only [decR, e3, if_pos hb.1, e4, e2]
  simp [h]
theorem pairs_two : ∀ (l : List Int), (∀ n ∈ l, 0 ≤ n ∧ n ≤ 399) → pairs (l.flatMap twoL) = l
  | [], _ => rfl
  | n :: l, h => by
    have h1 := h n (by simp)
    have h2 := pairs_two l fun m hm => h m (by simp [hm])
    rw [List.flatMap_cons]
    show ((n.toNat / 256 % 256 * 256 + n.toNat % 256 : Nat) : Int) :: pairs (l.flatMap twoL) = n :: l
    rw [h2]; congr 1; omega
theorem chunks_take (l : List Int) : ∀ n : Nat, (List.range n).flatMap (chunkN l) = l.take (24 * n)
  | 0 => rfl
  | n + 1 => by
    rw [List.range_succ, List.flatMap_append, chunks_take l n, show 24 * (n + 1) = 24 * n + 24 by omega, List.take_add]
    simp [chunkN]
theorem args_back (l : List Int) (h : ∀ n ∈ l, 0 ≤ n ∧ n ≤ 399) : ((argR l (nCh l)).flatMap fun v => pairs (bl v.2.2)) = l := by
  unfold argR
  rw [List.flatMap_map]
  have e : (List.range (nCh l)).flatMap (fun j => pairs (bl (chS l j))) = (List.range (nCh l)).flatMap (chunkN l) := by
    congr 1; funext j
    unfold chS
    rw [bl_mkS, pairs_two]
    · intro n hn; exact h n (List.mem_of_mem_drop (List.mem_of_mem_take hn))
    · intro b hb
      obtain ⟨n, _, hb⟩ := List.mem_flatMap.1 hb
      exact twoL_256 n b hb
  rw [show ((List.range (nCh l)).flatMap fun j => pairs (bl ((3, 0, chS l j) : AV).2.2)) = (List.range (nCh l)).flatMap (fun j => pairs (bl (chS l j))) from rfl, e, chunks_take]
  exact List.take_of_length_le (by unfold nCh; omega)
/-- What an instruction that is put and read back must be. -/
structure BackOk (x : IN) : Prop where
  k : -1 ≤ x.k ∧ x.k ≤ 2147483647
  a : -1 ≤ x.a ∧ x.a ≤ 2147483647
  b : -1 ≤ x.b ∧ x.b ≤ 2147483647
  c : -1 ≤ x.c ∧ x.c ≤ 2147483647
  o : -1 ≤ x.o ∧ x.o ≤ 2147483647
  ar : ∀ n ∈ x.ar, 0 ≤ n ∧ n ≤ 399
theorem fitsB_rng {kd n many : Int} (hm : many ≤ 2000) (h : fitsB kd n many = true) : -1 ≤ n ∧ n ≤ 2147483647 := by
  unfold fitsB at h
  repeat' split at h
  all_goals simp at h
  all_goals omega
theorem backOk_of {many : Int} (hm : many ≤ 2000) {x : IN} (h : rightR many x = true) : BackOk x := by
  have hf := right_facts h
  unfold rightR at h
  simp only [Bool.and_eq_true, Bool.not_eq_true', decide_eq_false_iff_not] at h
  obtain ⟨hk, hfo, hno, hl⟩ := h
  unfold formOk at hfo
  simp only [Bool.and_eq_true] at hfo
  have hkk : 1 ≤ x.k ∧ x.k ≤ 21 := by
    unfold formB at hk
    split at hk
    · assumption
    · exact absurd rfl hk
  have ho : 0 ≤ x.o ∧ x.o ≤ 20 := by
    generalize fb (formB x.k) 3 = wh at hno hl
    by_cases e : wh = 111
    · subst e
      unfold lastR at hl
      rw [if_neg (by decide), if_pos rfl] at hl
      simp only [Bool.and_eq_true, Bool.not_eq_true', decide_eq_false_iff_not] at hl
      have := hl.1
      unfold infoO at this
      split at this
      · omega
      · exact absurd rfl this
    · unfold restNo at hno
      simp only [Bool.or_eq_false_iff, Bool.and_eq_false_iff, decide_eq_false_iff_not, Classical.not_not] at hno
      have := hno.2.1.resolve_left e
      omega
  exact ⟨by omega, fitsB_rng hm hfo.1, fitsB_rng hm hfo.2.1, fitsB_rng hm hfo.2.2, by omega, hf.2.2.2⟩
theorem insOf_row {x : IN} (h : BackOk x) : insOf (insRow x) = some x := by
  have o : ∀ {n : Int}, -1 ≤ n ∧ n ≤ 2147483647 → okN (intV n) = true := fun h => by
    unfold okN intV; simp [h]
  unfold insOf
  rw [if_pos ⟨by unfold insRow headR; simp, by
    show ([intV x.k, intV x.a, intV x.b, intV x.c, intV x.o]).all okN = true
    simp [o h.k, o h.a, o h.b, o h.c, o h.o]⟩]
  have e : (insRow x).drop 7 = argR x.ar (nCh x.ar) := rfl
  rw [e, args_back x.ar h.ar]
  rfl
theorem rec1_recB {x : IN} (hp : PutOk x) (h : BackOk x) (rest : List Nat) : rec1 (recB x ++ rest) = some (x, (recB x).length) := by
  have hb := (enc_bound hp.e).2
  unfold recB
  obtain ⟨E, hE⟩ : ∃ E, E = encB (insRow x) := ⟨_, rfl⟩
  rw [← hE] at hb ⊢
  show rec1 ((E.length / 256 % 256) :: (E.length % 256) :: (E ++ rest)) = _
  have e : E.length / 256 % 256 * 256 + E.length % 256 = E.length := by omega
  rw [rec1_cons, e, if_pos (by simp), List.take_left, hE, decR_encB _ hp.e hp.r]
  show (insOf (insRow x)).map _ = _
  rw [insOf_row h]
  simp; omega
theorem decP_codeB : ∀ (l : List IN) (c : Nat), c + l.length ≤ 2000 → (∀ x ∈ l, PutOk x) → (∀ x ∈ l, BackOk x) → decP c (codeB l) = some l
  | [], c, _, _, _ => decP_nil c
  | x :: l, c, hc, hp, hb => by
    simp only [List.length_cons] at hc
    have e : codeB (x :: l) = recB x ++ codeB l := by unfold codeB; rw [List.flatMap_cons]
    rw [e, decP_cons (by omega) (rec1_recB (hp x (by simp)) (hb x (by simp)) (codeB l)), List.drop_left, decP_codeB l (c + 1) (by omega) (fun y hy => hp y (by simp [hy])) fun y hy => hb y (by simp [hy])]
    rfl
/-- Decode of Encode. -/
theorem decC_codeB {l : List IN} (hc : chkC l = 0) (hp : ∀ x ∈ l, PutOk x) : decC (codeB l) = some l := by
  have hall := chkC_all hc
  have hd := decP_codeB l 0 (by omega) hp fun x hx => by
    have h := hall.2 x hx
    rw [← rightEq] at h
    exact backOk_of (by omega) h
  unfold decC
  rw [hd]
  exact if_pos ⟨hc, rfl⟩
theorem codeB_inj {a b : List IN} (ha : chkC a = 0) (hpa : ∀ x ∈ a, PutOk x) (hb : chkC b = 0) (hpb : ∀ x ∈ b, PutOk x) (h : codeB a = codeB b) : a = b := by
  have h1 := decC_codeB ha hpa
  rw [h, decC_codeB hb hpb] at h1
  exact (Option.some.inj h1).symm
end Go.L
namespace Go.L
open Go Go.RowKit Go.Proofs
set_option linter.unusedSimpArgs false
set_option linter.unusedVariables false

theorem own_capmax {W : World} {base : Nat} {e : TypeId} {sz n cp : Nat} {a : Option Addr} {xs : List Value} (h : W.ownsRow base e sz (.slice a n cp) n xs) : cp ≤ 9223372036854775807 := by
  rcases h.2 with ⟨h, _⟩ | ⟨g, cap, cur, h, _, _, _, hcap, _⟩
  · cases h; simp
  · cases h; exact hcap
theorem codeB_len {l : List IN} (hp : ∀ x ∈ l, PutOk x) : (codeB l).length ≤ 4002 * l.length := by
  induction l with
  | nil => exact Nat.le_refl _
  | cons x l ih =>
    have h1 := recB_len (hp x (by simp))
    have h2 := ih fun y hy => hp y (by simp [hy])
    have e : codeB (x :: l) = recB x ++ codeB l := by unfold codeB; rw [List.flatMap_cons]
    rw [e, List.length_append, List.length_cons]
    omega
theorem few_facts {l : List IN} {m : Int} (q : (decide ((l.length : Int) ≤ m) && l.all smallI) = true) : (l.length : Int) ≤ m ∧ ∀ x ∈ l, x.ar.length ≤ 1000000 := by
  simp only [Bool.and_eq_true, decide_eq_true_eq] at q
  refine ⟨q.1, fun x hx => ?_⟩
  have := List.all_eq_true.1 q.2 x hx
  unfold smallI at this
  simp only [Bool.and_eq_true, decide_eq_true_eq] at this
  omega
theorem bs0 (W : World) : Bs W none 0 0 [] := ⟨Sl.nil _ _, rfl, Nat.le_refl _⟩
theorem codeB_eqS {a b : List IN} (ha : chkC a = 0) (hpa : ∀ x ∈ a, PutOk x) (hb : chkC b = 0) (hpb : ∀ x ∈ b, PutOk x) : decide (mkS (codeB a) = mkS (codeB b)) = decide (a = b) := by
  by_cases e : a = b
  · rw [e, decide_eq_true rfl, decide_eq_true rfl]
  · rw [decide_eq_false e, decide_eq_false]
    exact fun q => e (codeB_inj ha hpa hb hpb (mkS_inj (codeB_256 hpa) (codeB_256 hpb) q))
theorem CodeBytes6 (la lb : List IN) (w : World) (hT : Tab w) (ao bo : Option Addr) (ac bc : Nat) (ha : InsP w ao la) (hb : InsP w bo lb) (hal : la.length ≤ 9223372036854775807) (hbl : lb.length ≤ 9223372036854775807) (hpa : chkC la = 0 → ∀ x ∈ la, PutOk x) (hpb : chkC lb = 0 → ∀ x ∈ lb, PutOk x) (R : Ending → World → Prop)
    (h : ∀ W, Below w.heap.size w W → R (.returned (.bool true)) W) : Calls Tryz.prog 6 #[.slice ao la.length ac, .slice bo lb.length bc] w R := by
  refine c6 _ _ _ _ _ _ _ _ ?_
  unfold vc6
  have fin : ∀ {W W' : World}, Below w.heap.size w W → Below W.heap.size W W' → R (.returned (.bool true)) W' := fun h1 h2 => h _ (bTr h1 h2)
  refine kJn_i (kCall_i (Tryz.call8 _ _) (few8 40 la w ao ac ha.ins (by omega) _ (kUn_not (kIf_b (fun q => kIf_t (kCall_i (Tryz.call9 _ _) (works17 _ hT _ fun W' hB' => h _ hB'))) (fun qa => ?_)))))
  refine kCall_i (Tryz.call8 _ _) (few8 40 lb w bo bc hb.ins (by omega) _ (kUn_not (kIf_b (fun q => kCall_i (Tryz.call9 _ _) (works17 _ hT _ fun W' hB' => h _ hB')) (fun qb => kD_i fun _ => ?_))))
  obtain ⟨hla, hra⟩ := few_facts (by simpa using qa)
  obtain ⟨hlb, hrb⟩ := few_facts (by simpa using qb)
  clear qa qb
  by_cases hc : chkC la = 0
  · have hpa := hpa hc
    refine kCall_i (Tryz.call22 _ _) (Encode22 la w ao ac ha hra (fun _ => hpa) _ (fun _ x W1 hW1 ho1 => ?_) (fun q => absurd hc q))
    refine kExt_0 (kExt_1 (kCall_i (Tryz.call23 _ _) (Encode23 la W1 ao ac (ha.ins.below hW1) hra (fun _ => hpa) _ (fun _ y W2 hW2 ho2 => ?_) (fun q => absurd hc q))))
    obtain ⟨a1, c1, rfl, hB1⟩ := Bs.of_owns ho1
    have hc1 := own_capmax ho1
    obtain ⟨a2, c2, rfl, hB2⟩ := Bs.of_owns ho2
    have hB1 := hB1.keep hW2
    have hW2 := bTr hW1 hW2
    have hlen := codeB_len hpa
    refine kExt_0 (kExt_1 (kJn_i (kCv_str hB1 (kCv_str hB2 (kNe_str ?_)))))
    rw [decide_eq_true rfl]
    refine kIf_f (kCall_i (Tryz.call13 _ _) (num18 _ _ _ (kNe_int (kIf_ne (fun q => absurd rfl q) (fun _ => ?_)))))
    refine kCall_i (Tryz.call24 _ _) (Same24 la lb W2 ao bo ac bc (ha.ins.below hW2) (hb.ins.below hW2) (by omega) hra _ fun W3 hW3 => ?_)
    refine kCall_i (Tryz.call21 _ _) (Same21 la lb W3 ao bo ac bc ((ha.ins.below hW2).below hW3) ((hb.ins.below hW2).below hW3) (by omega) hra _ fun W4 hW4 => kNe_bool Tryz.underlying4 ?_)
    rw [beq_self_eq_true]
    have hB1 := (hB1.keep hW3).keep hW4
    have hW4 := bTr (bTr hW2 hW3) hW4
    refine kIf_f (kCall_i (Tryz.call24 _ _) (Same24 la la W4 ao ao ac ac (ha.ins.below hW4) (ha.ins.below hW4) (by omega) hra _ fun W5 hW5 => ?_))
    rw [decide_eq_true rfl]
    have hB1 := hB1.keep hW5
    have hW5 := bTr hW4 hW5
    refine kUn_not (kIf_f (kD_i fun _ => kNe_int (kIf_ne (fun q => absurd rfl q) (fun _ => ?_))))
    refine kCall_i (Tryz.call19 _ _) (CodeDecode19 (codeB la) W5 a1 c1 hB1 (codeB_256 hpa) hc1 (by omega) _ (fun l' hl' hrd lo lc W6 hW6 hP hlc => ?_) (fun hn => by rw [decC_codeB hc hpa] at hn; cases hn))
    rw [decC_codeB hc hpa] at hl'; cases hl'
    have hB1 := hB1.keep hW6
    have hW6 := bTr hW5 hW6
    by_cases hcb : chkC lb = 0
    · have hpb := hpb hcb
      refine kExt_0 (kExt_1 (kCall_i (Tryz.call22 _ _) (Encode22 lb W6 bo bc (hb.below hW6) hrb (fun _ => hpb) _ (fun _ x W7 hW7 ho3 => ?_) (fun q => absurd hcb q))))
      obtain ⟨a3, c3, rfl, hB3⟩ := Bs.of_owns ho3
      have hB1 := hB1.keep hW7
      have hP := hP.below hW7
      have hW7 := bTr hW6 hW7
      have haI := ha.ins.below hW7
      have hbI := hb.ins.below hW7
      have hT7 := hT.below hW7
      refine kExt_0 (kExt_1 (kDrawn_i (kDrawn_i (kDrew_st (St.start W7) fun V hS => kCall_i (Tryz.call13 _ _) (num18 _ _ _ (kEq_int (kIf_eq (fun _ => kDrew_st hS fun V hS => ?_) (fun q => absurd rfl q))))))))
      refine kCall_i (Tryz.call21 _ _) (Same21 la la V lo ao lc ac (hP.ins.below hS.below) (haI.below hS.below) (by omega) hra _ fun V2 hV2 => ?_)
      have hS := hS.bel hV2
      rw [decide_eq_true rfl]
      refine kIf_t (kDrew_st hS fun V hS => kCall_i (Tryz.call13 _ _) (num18 _ _ _ (kNe_int (kIf_ne (fun q => absurd rfl q) (fun _ => ?_)))))
      refine kCv_str (hB1.keep hS.below) (kCv_str (hB3.keep hS.below) (kEq_str (kDrew_st hS fun V hS => ?_)))
      refine kCall_i (Tryz.call21 _ _) (Same21 la lb V ao bo ac bc (haI.below hS.below) (hbI.below hS.below) (by omega) hra _ fun V2 hV2 => ?_)
      have hS := hS.bel hV2
      refine kCv_str (hB1.keep hS.below) (kSame_i (kCv_str (hB3.keep hS.below) (kSame_i (kEq_str (kSame_i (kEq_bool Tryz.underlying4 ?_))))))
      rw [codeB_eqS hc hpa hcb hpb, beq_self_eq_true]
      exact kIf_t (kDrew_st hS fun V hS => kCall_i (Tryz.call9 _ _) (works17 _ (hT7.below hS.below) _ fun V2 hV2 => kDrew_st (hS.bel hV2) fun V hS => fin hW7 hS.below))
    · refine kExt_0 (kExt_1 (kCall_i (Tryz.call22 _ _) (Encode22 lb W6 bo bc (hb.below hW6) hrb hpb _ (fun q => absurd q hcb) (fun _ W7 hW7 => ?_))))
      have hP := hP.below hW7
      have hW7 := bTr hW6 hW7
      have haI := ha.ins.below hW7
      have hT7 := hT.below hW7
      refine kExt_0 (kExt_1 (kDrawn_i (kDrawn_i (kDrew_st (St.start W7) fun V hS => kCall_i (Tryz.call13 _ _) (num18 _ _ _ (kEq_int (kIf_eq (fun _ => kDrew_st hS fun V hS => ?_) (fun q => absurd rfl q))))))))
      refine kCall_i (Tryz.call21 _ _) (Same21 la la V lo ao lc ac (hP.ins.below hS.below) (haI.below hS.below) (by omega) hra _ fun V2 hV2 => ?_)
      have hS := hS.bel hV2
      rw [decide_eq_true rfl]
      refine kIf_t (kDrew_st hS fun V hS => kCall_i (Tryz.call13 _ _) (num18 _ _ _ (kNe_int (kIf_ne (fun _ => ?_) (fun q => by cases q)))))
      exact kDrew_st hS fun V hS => kCall_i (Tryz.call9 _ _) (works17 _ (hT7.below hS.below) _ fun V2 hV2 => kDrew_st (hS.bel hV2) fun V hS => fin hW7 hS.below)
  · refine kCall_i (Tryz.call22 _ _) (Encode22 la w ao ac ha hra hpa _ (fun q => absurd q hc) (fun _ W1 hW1 => ?_))
    refine kExt_0 (kExt_1 (kCall_i (Tryz.call23 _ _) (Encode23 la W1 ao ac (ha.ins.below hW1) hra hpa _ (fun q => absurd q hc) (fun _ W2 hW2 => ?_))))
    have hW2 := bTr hW1 hW2
    refine kExt_0 (kExt_1 (kJn_i (kCv_str (bs0 _) (kCv_str (bs0 _) (kNe_str ?_)))))
    rw [decide_eq_true rfl]
    refine kIf_f (kCall_i (Tryz.call13 _ _) (num18 _ _ _ (kNe_int (kIf_ne (fun q => absurd rfl q) (fun _ => ?_)))))
    refine kCall_i (Tryz.call24 _ _) (Same24 la lb W2 ao bo ac bc (ha.ins.below hW2) (hb.ins.below hW2) (by omega) hra _ fun W3 hW3 => ?_)
    refine kCall_i (Tryz.call21 _ _) (Same21 la lb W3 ao bo ac bc ((ha.ins.below hW2).below hW3) ((hb.ins.below hW2).below hW3) (by omega) hra _ fun W4 hW4 => kNe_bool Tryz.underlying4 ?_)
    rw [beq_self_eq_true]
    have hW4 := bTr (bTr hW2 hW3) hW4
    refine kIf_f (kCall_i (Tryz.call24 _ _) (Same24 la la W4 ao ao ac ac (ha.ins.below hW4) (ha.ins.below hW4) (by omega) hra _ fun W5 hW5 => ?_))
    rw [decide_eq_true rfl]
    have hW5 := bTr hW4 hW5
    refine kUn_not (kIf_f (kD_i fun _ => kNe_int (kIf_ne (fun _ => ?_) (fun q => by cases q))))
    exact kCall_i (Tryz.call9 _ _) (works17 _ (hT.below hW5) _ fun W6 hW6 => fin hW5 hW6)
end Go.L
namespace Go.L
open Go Go.RowKit Go.Proofs
set_option linter.unusedSimpArgs false
set_option linter.unusedVariables false

end Go.L
namespace Go.L
open Go Go.RowKit Go.Proofs Go.ChangeShapes Go.WideShapes Go.ChangeAt
set_option linter.unusedSimpArgs false
set_option linter.unusedVariables false

def OkQ (W : World) (r : INP) : Prop := InsWf r.1 ∧ I64 r.1.k ∧ I64 r.1.o ∧ Sl W r.2.1 1 (r.1.ar.map vInt) ∧ r.1.ar.length ≤ r.2.2
section
variable {H : Type} {enc : TypeId × Value → H} {W : World}
set_option maxRecDepth 10000 in
theorem el62p (n : Nat) (c1 : List Value) (y : DataW H × List MemPlace) (h : DataW.trod enc Tryz.prog W 0 (fun _ => true) true n 62 c1 = some y) : ∃ r : INP, c1 = (inP2 r).cells.toList ∧ OkQ W r := by
  obtain ⟨xs, m, _, _, hlen, hx, hf⟩ := DataW.trod_struct Tryz.underlying62 h
  rw [cells62] at hlen
  obtain ⟨v0, v1, v2, v3, v4, v5, v6, v7, v8, v9, rfl⟩ : ∃ v0 v1 v2 v3 v4 v5 v6 v7 v8 v9, c1 = [v0, v1, v2, v3, v4, v5, v6, v7, v8, v9] := by
    match c1, hlen with
    | [v0, v1, v2, v3, v4, v5, v6, v7, v8, v9], _ => exact ⟨v0, v1, v2, v3, v4, v5, v6, v7, v8, v9, rfl⟩
  have hx8 : xs.length = 8 := hx
  have get : ∀ j, j < 8 → ∃ x, xs[j]? = some x := fun j hj => ⟨xs[j]'(by omega), by simp [hx8, hj]⟩
  have c3 : Tryz.prog.cellsOf 3 = 1 := by kernel_rfl
  have c33 : Tryz.prog.cellsOf 33 = 1 := by kernel_rfl
  have c56 : Tryz.prog.cellsOf 56 = 1 := by kernel_rfl
  have c9 : Tryz.prog.cellsOf 9 = 1 := by kernel_rfl
  have c60 : Tryz.prog.cellsOf 60 = 1 := by kernel_rfl
  have c59 : Tryz.prog.cellsOf 59 = 3 := by kernel_rfl
  have f0 : DataW.trod enc Tryz.prog W 0 (fun _ => true) true m 33 (([v0, v1, v2, v3, v4, v5, v6, v7, v8, v9].drop 0).take (Tryz.prog.cellsOf 33)) = xs[0]? := hf 0 _ rfl
  have f1 : DataW.trod enc Tryz.prog W 0 (fun _ => true) true m 3 (([v0, v1, v2, v3, v4, v5, v6, v7, v8, v9].drop 1).take (Tryz.prog.cellsOf 3)) = xs[1]? := hf 1 _ rfl
  have f2 : DataW.trod enc Tryz.prog W 0 (fun _ => true) true m 3 (([v0, v1, v2, v3, v4, v5, v6, v7, v8, v9].drop 2).take (Tryz.prog.cellsOf 3)) = xs[2]? := hf 2 _ rfl
  have f3 : DataW.trod enc Tryz.prog W 0 (fun _ => true) true m 3 (([v0, v1, v2, v3, v4, v5, v6, v7, v8, v9].drop 3).take (Tryz.prog.cellsOf 3)) = xs[3]? := hf 3 _ rfl
  have f4 : DataW.trod enc Tryz.prog W 0 (fun _ => true) true m 56 (([v0, v1, v2, v3, v4, v5, v6, v7, v8, v9].drop 4).take (Tryz.prog.cellsOf 56)) = xs[4]? := hf 4 _ rfl
  have f5 : DataW.trod enc Tryz.prog W 0 (fun _ => true) true m 59 (([v0, v1, v2, v3, v4, v5, v6, v7, v8, v9].drop 5).take (Tryz.prog.cellsOf 59)) = xs[5]? := hf 5 _ rfl
  have f6 : DataW.trod enc Tryz.prog W 0 (fun _ => true) true m 9 (([v0, v1, v2, v3, v4, v5, v6, v7, v8, v9].drop 8).take (Tryz.prog.cellsOf 9)) = xs[6]? := hf 6 _ rfl
  have f7 : DataW.trod enc Tryz.prog W 0 (fun _ => true) true m 60 (([v0, v1, v2, v3, v4, v5, v6, v7, v8, v9].drop 9).take (Tryz.prog.cellsOf 60)) = xs[7]? := hf 7 _ rfl
  simp only [c3, c33, c56, c9, c60, c59, List.drop_zero, List.take_succ_cons, List.take_zero, List.drop_succ_cons] at f0 f1 f2 f3 f4 f5 f6 f7
  obtain ⟨x0, g0⟩ := get 0 (by omega)
  obtain ⟨x1, g1⟩ := get 1 (by omega)
  obtain ⟨x2, g2⟩ := get 2 (by omega)
  obtain ⟨x3, g3⟩ := get 3 (by omega)
  obtain ⟨x4, g4⟩ := get 4 (by omega)
  obtain ⟨x5, g5⟩ := get 5 (by omega)
  obtain ⟨x6, g6⟩ := get 6 (by omega)
  obtain ⟨x7, g7⟩ := get 7 (by omega)
  rw [g0] at f0
  rw [g1] at f1
  rw [g2] at f2
  rw [g3] at f3
  rw [g4] at f4
  rw [g5] at f5
  rw [g6] at f6
  rw [g7] at f7
  obtain ⟨n0, e0, _, w0⟩ := DataW.trod_int Tryz.underlying33 f0
  obtain ⟨n1, e1, _, w1⟩ := DataW.trod_int Tryz.underlying3 f1
  obtain ⟨n2, e2, _, w2⟩ := DataW.trod_int Tryz.underlying3 f2
  obtain ⟨n3, e3, _, w3⟩ := DataW.trod_int Tryz.underlying3 f3
  obtain ⟨n4, e4, _, w4⟩ := DataW.trod_int Tryz.underlying56 f4
  obtain ⟨r, e5, w5⟩ := el41 m _ _ f5
  obtain ⟨s, e6, _, _⟩ := DataW.trod_string Tryz.underlying9 f6
  obtain ⟨a, l, cp, e7, hsl, hok, hlc, _⟩ := trod_sl vInt (fun r => -9223372036854775808 ≤ r ∧ r ≤ 9223372036854775807) Tryz.underlying60 c3 (by omega) (fun _ => rfl) (el_int Tryz.underlying3) (show _ = some (x7.1, x7.2) from f7)
  simp only [vVal, Value.cells, List.cons.injEq, and_true] at e0 e1 e2 e3 e4 e5 e6 e7
  obtain ⟨e5, e5', e5''⟩ := e5
  subst e0; subst e1; subst e2; subst e3; subst e4; subst e5; subst e5'; subst e5''; subst e6; subst e7
  refine ⟨(⟨n0, n1, n2, n3, n4, r, s, l⟩, a, cp), rfl, ⟨?_, ?_, ?_, w5, hok⟩, ?_, ?_, hsl, hlc⟩
  · simpa [Lit.wf, IntKind.min, IntKind.max, IntKind.signed, IntKind.bits, I64] using w1
  · simpa [Lit.wf, IntKind.min, IntKind.max, IntKind.signed, IntKind.bits, I64] using w2
  · simpa [Lit.wf, IntKind.min, IntKind.max, IntKind.signed, IntKind.bits, I64] using w3
  · simpa [Lit.wf, IntKind.min, IntKind.max, IntKind.signed, IntKind.bits, I64] using w0
  · simpa [Lit.wf, IntKind.min, IntKind.max, IntKind.signed, IntKind.bits, I64] using w4
set_option maxRecDepth 100000 in
/-- Code that is handed in, with the capacities. -/
theorem open_insP {base : Nat} {v : Value} {d : DataW H} {p : List MemPlace} (hval : Value.okWide Tryz.prog W .any base 22 v) (h : DataW.Trod enc Tryz.prog W 0 (fun _ => true) true 22 v d p) :
    ∃ (a : Option Addr) (l : List IN) (cp : Nat), v = .slice a l.length cp ∧ InsP W a l ∧ (∀ x ∈ l, InsWf x ∧ I64 x.k ∧ I64 x.o) ∧ l.length ≤ 9223372036854775807 := by
  obtain ⟨a, l, cp, rfl, hsl, hok, h1, h2⟩ := open_sl (sz := 10) inP2 (OkQ W) Tryz.underlying22 cells62 (by omega) inP2_size (fun n c1 y h => el62p n c1 y h) hval h
  refine ⟨a, l.map (·.1), cp, by simp, ⟨l.map inP2, hsl, by simp, ?_⟩, ?_, by simp; omega⟩
  · intro i x hx
    rw [List.getElem?_map] at hx
    cases hr : l[i]? with
    | none => rw [hr] at hx; cases hx
    | some r =>
      rw [hr] at hx
      cases hx
      have := hok r (List.mem_of_getElem? hr)
      exact ⟨r.2.1, r.2.2, by simp [hr]; rfl, this.2.2.2.1, this.2.2.2.2⟩
  · intro x hx
    obtain ⟨r, hr, rfl⟩ := List.mem_map.1 hx
    exact ⟨(hok r hr).1, (hok r hr).2.1, (hok r hr).2.2.1⟩
theorem putOk_in {l : List IN} (hw : ∀ x ∈ l, InsWf x ∧ I64 x.k ∧ I64 x.o) (hc : chkC l = 0) : ∀ x ∈ l, PutOk x := fun x hx => by
  have h := (chkC_all hc).2 x hx
  rw [← rightEq] at h
  exact putOk_of h (hw x hx).1 (hw x hx).2.1 (hw x hx).2.2
end
end Go.L
